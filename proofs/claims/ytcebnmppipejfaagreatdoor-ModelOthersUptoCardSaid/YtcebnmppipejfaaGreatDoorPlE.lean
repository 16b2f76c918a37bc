import Derived.Test.YtcebnmppipejfaaGreatDoorPlD
set_option linter.unusedSectionVars false
set_option linter.unusedVariables false
set_option linter.unusedSimpArgs false
set_option linter.defProp false
open Option renaming some->ab,none->ah
namespace Go.Ge
variable [Lp]
def yP{a:Type}{c b:Bool}{o:Option Bool}{k:Bool->Option a}(h:o=ab b):ag (ao c o<|some false) k=k (c&&b):=by subst h;cases c<;>rfl
def EZ{a:Type}{c b:Bool}{o:Option Bool}{k:Bool->Option a}(h:o=ab b):ag (ao c o<|some true) k=k (!c||b):=by subst h;cases c<;>rfl
def cZ(a b:ay):bH a b=decide (a=b):=rfl
def Yw(b:Bool):nt b=!b:=rfl
def QL(a b:Int):cu a b=decide (a<=b):=rfl
def GI(a b:Int):aS a b=decide (a=b):=rfl
def SY(a b:Int):ba a b=decide (a<b):=rfl
def BdL(x:aD):Prop:=x.1.length<=1048576/\x.2.1.length<=1048576/\sa x.2.2.1/\x.2.2.2.1.length<=1048576
def BdI(x:bN):Prop:=x.1.length<=1048576/\sa x.2.1/\x.2.2.1.length<=1048576/\BB x.2.2.2.2.1
def BdB(x:eP):Prop:=x.1.length<=1048576/\sa x.2.1/\x.2.2.1.length<=1048576/\x.2.2.2.1.length<=1048576/\BB x.2.2.2.2.2.1
structure OkL (x:aD):Prop where
 id:H6 x.1
 par:x.2.1=[]\/(H6 x.2.1/\x.2.1≠x.1)
 nms:r8 x.2.2.1=true
 dig:ahd x.2.2.2.1=0
 s0:0<=x.2.2.2.2.1
 s1:x.2.2.2.2.1<=8192
 b0:0<=x.2.2.2.2.2.1
 b1:x.2.2.2.2.2.1<=32
structure afc (x:bN):Prop where
 id:H6 x.1
 nms:r8 x.2.1=true
 top:x.2.2.1=[]\/H6 x.2.2.1
 akM:x.2.2.2.1.length<=64
 items:OkI x.2.2.2.2.1
structure OkB (x:eP):Prop where
 id:H6 x.1
 nms:r8 x.2.1=true
 img:x.2.2.1=[]\/H6 x.2.2.1
 lay:H6 x.2.2.2.1
 akM:x.2.2.2.2.1.length<=64
 items:OkI x.2.2.2.2.2.1
def abY(x:aD)(h:BdL x):∃b,gx (x,())=ab (b,())/\(b=true↔OkL x):=by
 obtain⟨k,l,j,n⟩:=h;obtain⟨v,o,p⟩:=oB x.1 k;obtain⟨q,r,s⟩:=oB x.2.1 l;unfold gx;dsimp only;rw[o,aa,yP (b:=(!(nt<|bH x.2.1 [])||(q&&nt (bH x.2.1 x.1)))) (by rw[EZ<|by rw[r,aa,jv]]),
  yP (by rw[Ai x.2.2.1 (j.small) j.each,aa]),yP (by rw[Gq x.2.2.2.1 n,aa])]
 refine⟨_,rfl,?_⟩;simp only[jv,Yw,cZ,QL,GI,gy,Fs,adH,zP,uv,Zl,p,s];constructor
 .rintro⟨⟨⟨⟨⟨⟨⟨a,b⟩,c⟩,d⟩,e⟩,f⟩,g⟩,i⟩;exact⟨a,b,c,d,e,f,g,i⟩
 .rintro⟨a,b,c,d,e,f,g,i⟩;exact⟨⟨⟨⟨⟨⟨⟨a,b⟩,c⟩,d⟩,e⟩,f⟩,g⟩,i⟩
def QM{l:List Item}(h:BB l):∃b,nh (l,())=ab (b,())/\(b=true↔OkI l) :=
 abV l (by have:=h.1;omega) λx a=>by have:=h.2 x a;omega
def akN(m:ay):cu (@len UInt8 m) (64:Int)=decide (m.length<=64):=by unfold cu len;apply gX.2;omega
def abZ(x:bN)(h:BdI x):∃b,p7 (x,())=ab (b,())/\(b=true↔afc x):=by
 obtain⟨i,f,j,k⟩:=h;obtain⟨v,l,n⟩:=oB x.1 i;obtain⟨o,p,q⟩:=oB x.2.2.1 j;obtain⟨w,r,s⟩:=QM k;unfold p7;dsimp only;rw[l,aa,yP (by rw[Ai x.2.1 (f.small) f.each,aa]),yP (b:=(!(nt<|bH x.2.2.1 [])||o)) (by rw[EZ<|by rw[p,aa]]),
  yP (by rw[r,aa])]
 refine⟨_,rfl,?_⟩;simp only[jv,Yw,cZ,akN,gy,Fs,adH,zP,uv,Zl,n,q,s];constructor
 .rintro⟨⟨⟨⟨a,b⟩,c⟩,d⟩,e⟩;exact⟨a,b,c,d,e⟩
 .rintro⟨a,b,c,d,e⟩;exact⟨⟨⟨⟨a,b⟩,c⟩,d⟩,e⟩
def ahi(x:eP)(h:BdB x):∃b,uS (x,())=ab (b,())/\(b=true↔OkB x):=by
 obtain⟨j,i,k,l,n⟩:=h;obtain⟨B,o,p⟩:=oB x.1 j;obtain⟨q,r,s⟩:=oB x.2.2.1 k;obtain⟨C,v,w⟩:=oB x.2.2.2.1 l;obtain⟨D,y,A⟩:=QM n;unfold uS;dsimp only;rw[o,aa,yP (by rw[Ai x.2.1 (i.small) i.each,aa]),yP (b:=(!(nt<|bH x.2.2.1 [])||q)) (by rw[EZ<|by rw[r,aa]]),
  yP (by rw[v,aa]),yP (by rw[y,aa])]
 refine⟨_,rfl,?_⟩;simp only[jv,Yw,cZ,akN,gy,Fs,adH,zP,uv,Zl,p,s,w,A];constructor
 .rintro⟨⟨⟨⟨⟨a,b⟩,c⟩,d⟩,e⟩,f⟩;exact⟨a,b,c,d,e,f⟩
 .rintro⟨a,b,c,d,e,f⟩;exact⟨⟨⟨⟨⟨a,b⟩,c⟩,d⟩,e⟩,f⟩
def SZ(b:Bd):List Tx:=b.2.1.map (·.1)++b.2.2.1.map (·.1)++b.2.2.2.1.map (·.1)
def Yx(b:Bd):List Tx:=b.2.1.flatMap (·.2.2.1)++b.2.2.1.flatMap (·.2.1)++b.2.2.2.1.flatMap (·.2.1)
def zz{a:Type}{g:a->List Tx}:∀{l:List a},(∀x∈l,(g x).length<=8)->(l.flatMap g).length<=8*l.length:=by
 intro l;induction l with
 | nil=>intro _;simp
 | cons x r c =>
   intro h;rw[Zv,jB,jC];have:=h x (pI ..);have:=c λy d=>h y (va _ d);omega
def E0{d:Type}{f:(al×al×Int×al)×List Tx×List Tx×al->Option (((al×al×Int×al)×List Tx×List Tx×al)⊕((al×al×Int×al)×List Tx×List Tx×al))}
  (l:List d) (id:d->Tx) (nm:d->List Tx) (o:l.length<=40) (i:∀x∈l,(nm x).length<=8) (ns is:List Tx) (p:ns.length<=10000) (q:is.length<=10000)
  (k:∀c a b,f (((),(),c,()),a,b,())=dq (ao (ba c<|len l) (ag (idx l c) λx=>ao (fits<|plus (@len Tx b)<|@len Tx [id x]) (ag (idx l c) λy=>ao (fits<|plus (@len Tx a)<|@len Tx<|nm y) (ab<|.inl (((),(),aH .i64 c 1,()),app a<|nm y,app b [id x],())) ah) ah)
   (ab<|.inr (0,((),(),c,()),a,b,()))) ) :
  Loop f (((),(),(0:Int),()),ns,is,())=ab (((),(),(l.length:Int),()),ns++l.flatMap nm,is++l.map id,()):=by
 have:=dh (f:=f) l.length (λj:Nat=>(((),(),(j:Int),()),ns++(l.take j).flatMap nm,is++(l.take j).map id,()))
  (r:=(((),(),(l.length:Int),()),ns++l.flatMap nm,is++l.map id,())) (λj e=>by
   have hx:l[j]?=ab l[j]:=ik e;have s:((l.take j).flatMap nm).length<=8*40:=by
    have:=zz (g:=nm) (l:=l.take j) λx hx=>i x (JI hx);rw[kC] at this;omega
   have n:=i _ (adt e);rw[k,aq e,ae,au hx,aa,
    show fits (plus (@len Tx<|is++(l.take j).map id)<|@len Tx [id l[j]])=true from bo (by rw[jB,ux,kC];show _+1<=_;omega),ae,aa,
    show fits (plus (@len Tx<|ns++(l.take j).flatMap nm)<|@len Tx<|nm l[j])=true from bo (by rw[jB];omega),ae,aL ai]
   rw[Er,hx,List.flatMap_append,ZA];simp[app,dq]) (by
   rw[Es,k,aw,af];rfl)
 simpa using this
def ab0(b:Bd)(h:FewB b):uf (b,())=ab (SZ b,Yx b,()):=by
 obtain⟨i,e,j,f,k,n⟩:=h;unfold uf;rw[E0 b.2.1 (·.1) (·.2.2.1) i (λx d=>(e x d).1) [] [] bb bb<|λc a b=>rfl,aa];dsimp only;have c1:(b.2.1.flatMap (·.2.2.1)).length<=320:=by have:=zz (g:=λx:aD=>x.2.2.1) (l:=b.2.1) λx d=>(e x d).1;omega
 have c2:(b.2.2.1.flatMap (·.2.1)).length<=320:=by have:=zz (g:=λx:bN=>x.2.1) (l:=b.2.2.1) λx d=>(f x d).1;omega
 rw[E0 b.2.2.1 (·.1) (·.2.1) j (λx d=>(f x d).1) _ _ (by rw[Bx];omega) (by rw[Bx,ux];omega)<|λc a b=>rfl,aa];dsimp only;rw[E0 b.2.2.2.1 (·.1) (·.2.1) k (λx d=>(n x d).1) _ _ (by rw[jB,Bx];omega) (by rw[jB,Bx,ux,ux];omega)<|λc a b=>rfl,aa];rfl
open Classical in
def ab1{x:aD}(h:BdL x):gx (x,())=ab (decide<|OkL x,()):=by
 obtain⟨b,a,c⟩:=abY x h
 grind
open Classical in
def ab2{x:bN}(h:BdI x):p7 (x,())=ab (decide<|afc x,()):=by
 obtain⟨b,a,c⟩:=abZ x h
 grind
open Classical in
def ahj{x:eP}(h:BdB x):uS (x,())=ab (decide<|OkB x,()):=by
 obtain⟨b,a,c⟩:=ahi x h
 grind
abbrev Cs:=(Int×Int×al)×al
def M0{e:Type}{f:Cs->Option (Cs⊕(Nat×Cs))}(l:List e)(o:l.length<=1000000)(p:e->Prop)[DecidablePred p](a:Int)
  (j:∀(i:Nat) (x:e),l[i]?=ab x->f ((a,(i:Int),()),())=ab (if p x then .inl ((a,aH .i64 (i:Int) 1,()),()) else .inr (1,((1:Int),(i:Int),()),())))
  (c:f ((a,(l.length:Int),()),())=ab (.inr (0,(a,(l.length:Int),()),()))) :
  ((∀x∈l,p x)/\Loop f ((a,(0:Int),()),())=ab (0,(a,(l.length:Int),()),())) \/
  (¬(∀x∈l,p x)/\∃q,Loop f ((a,(0:Int),()),())=ab (1,((1:Int),q),())):=by
 rcases iK l (λi=>((a,i,()),())) (λ_ x=>decide (¬p x)) (λi x=>(1,((1:Int),(i:Int),()),())) _ ai (λi x d k n=>by
  rw[j i x d,n];by_cases h:p x<;>simp[h]) c with ⟨i,x,d,r,_,h⟩|⟨s,h⟩
 .grind
 .refine .inl ⟨λx d=>?_,h⟩;obtain⟨i,k⟩:=bz.1 d
  grind
def M3{l:List Tx}:l.Pairwise (λx y=>ft x y=true)↔∀(i:Nat) (x y:Tx),l[i]?=ab x->l[i+1]?=ab y->ft x y=true:=by
 have h:=MY (l:=l.map λs=>((s,[],[],()):It));unfold VB at h;rw[TX] at h;refine h.trans ⟨λk i x y a c=>?_,λk i x y a c=>?_⟩
 .exact k i _ _ (by rw[Ep,a];rfl) (by rw[Ep,c];rfl)
 .grind
def ahk(a c:List Tx)(l:a.length<=100000) :
  (a.Pairwise (λx y=>ft x y=true)/\∃q,Loop (iP (a,c,())) (((0:Int),(1:Int),()),())=ab (0,((0:Int),q),())) \/
  (¬a.Pairwise (λx y=>ft x y=true)/\∃q,Loop (iP (a,c,())) (((0:Int),(1:Int),()),())=ab (1,((1:Int),q),())):=by
 rw[M3];rcases iK (f:=iP (a,c,())) a.tail (λi=>(((0:Int),i+1,()),())) (λi y=>match a[i]? with|some x=>!ft x y|none=>false) (λi x=>(1,((1:Int),(i:Int)+1,()),())) _ (by rw[adu];omega) (λi y d j n=>by
  rw[adu] at j;rw[List.getElem?_tail] at d;obtain⟨x,e⟩:∃x,a[i]?=ab x:=⟨_,ik (show i<a.length by omega)⟩;unfold iP;dsimp only;rw[show((i:Int)+1)=((i+1:Nat):Int) by omega,aq ai,ae,dL ai ai,show _-1=(i:Int) by omega,au e,aa,au d,aa,aL ai,e];by_cases k:ft x y=true<;>simp[k,nt,ao]) (by
  unfold iP;dsimp only;rw[adu,aJ fi,af]) with ⟨i,y,d,o,_,h⟩|⟨p,h⟩
 .grind
 .grind
def Yy(k a:List Tx)(I:a.length<=100000) :
  (a.Nodup/\∃q,Loop (iR (k,a,())) (((0:Int),(0:Int),()),())=ab (0,((0:Int),q),())) \/
  (¬a.Nodup/\∃q,Loop (iR (k,a,())) (((0:Int),(0:Int),()),())=ab (1,((1:Int),q),())):=by
 have inner:∀(i:Nat) (x:Tx),a[i]?=ab x->(∃j y,j<i/\a[j]?=ab y/\y=x/\∃q,Loop (iQ (k,a,()) (((0:Int),(i:Int),()),())) (((0:Int),(0:Int),()),())=ab (1,((1:Int),q),())) \/
   ((∀(j:Nat) (y:Tx),j<i->a[j]?=ab y->y≠x)/\∃q,Loop (iQ (k,a,()) (((0:Int),(i:Int),()),())) (((0:Int),(0:Int),()),())=ab (0,((0:Int),q),())):=by
  intro i x e;have hi:=aF e;have n:min i a.length=i:=ai;rcases rS (f:=iQ (k,a,()) (((0:Int),(i:Int),()),())) a i (λj=>(((0:Int),j,()),())) (λ_ y=>decide (y=x)) (λj y=>(1,((1:Int),(j:Int),()),())) _ ai (λj y v G d A=>by
   unfold iQ;rw[aO<|show(j:Int)<(i:Int) by omega,ae,au v,aa,au e,aa,ew,A];by_cases h:y=x<;>simp[bH,h]) (by
   unfold iQ;rw[n,aJ (sF _),af]) with ⟨j,y,d,v,F,_,h⟩|⟨w,h⟩
  .grind
  .grind
 have c:∀i x,a[i]?=ab x->(x∈a.take i↔∃j y,j<i/\a[j]?=ab y/\y=x):=by
  intro i x e;rw[bz];constructor
  .grind
  .rintro⟨j,y,d,v,rfl⟩;exact⟨j,by rw[jP,aX d];exact v⟩
 rcases iK (f:=iR (k,a,())) a (λi=>(((0:Int),i,()),())) (λi x=>decide _) (λi x=>(1,((1:Int),_),())) _ ai (λi x l hi A=>by
  unfold iR;rw[aq hi,ae];rcases inner i x l with ⟨j,y,o,p,r,q,h⟩|⟨w,q,h⟩
  .rw[h,aa,dD ((c i x l).2 ⟨j,y,o,p,r⟩)];rfl
  .rw[h,aa,cL (λH=>by obtain⟨j,y,o,p,r⟩:=(c i x l).1 H;exact w j y o p r),A];rfl) (by unfold iR;dsimp only;rw[aw,af]) with ⟨i,x,l,F,_,h⟩|⟨w,h⟩
 .refine .inr ⟨λB=>?_,_,h⟩;obtain⟨j,y,o,p,r⟩:=(c i x l).1 (iq F);obtain⟨C,s⟩:=hR.1 l;obtain⟨D,E⟩:=hR.1 p;exact Dr.1 B j i D C o (by rw[E,s,r])
 .refine .inl ⟨Dr.2 λj i G hi d J=>?_,_,h⟩;have:=w i a[i] (ik hi)
  grind
structure BdX (b:Bd):Prop extends FewB b where
 xl:∀x∈b.2.1,BdL x
 xi:∀x∈b.2.2.1,BdI x
 xb:∀x∈b.2.2.2.1,BdB x
def ab3(a:Int)(b:Bd):Nat:=if a=1 then b.2.2.2.1.length else if a=2 then b.2.2.1.length else b.2.1.length
structure As (kind:Int) (b:Bd):Prop where
 few:ab3 kind b<=32
 only:b.2.2.2.1.length+b.2.2.1.length+b.2.1.length=ab3 kind b
 ll:∀x∈b.2.1,OkL x
 il:∀x∈b.2.2.1,afc x
 bl:∀x∈b.2.2.2.1,OkB x
 ids:(SZ b).Pairwise (λx y=>ft x y=true)
 nms:(Yx b).Nodup
open Classical in
def Cl(a:Int)(b:Bd)(J:a=1\/a=2\/a=3)(N:b.1=0)(h:BdX b):∃e,fE (a,b,())=ab (e,())/\(e=0↔As a b):=by
 obtain⟨n,d,j,k,u⟩:=b;subst N;have O:=ab0 _ h.toFewB;obtain⟨K,o,L,p,r,s⟩:=h.toFewB;obtain⟨P,Q,R⟩:=(⟨h.xl,h.xi,h.xb⟩:_/\_/\_);dsimp only at K o L p r s;have v:idx ([(0:Int),@len eP k,@len bN j,@len aD d]:List Int) a=ab ((ab3 a (0,d,j,k,u):Nat):Int):=by
  rcases J with rfl|rfl|rfl<;>rfl
 have M:ab3 a (0,d,j,k,u)<=40:=by
  rcases J with rfl|rfl|rfl
  .exact r
  .exact L
  .exact K
 unfold fE;rw[aJ ai,af,aJ ai,af,show ba _ 0=false from rfl,af,show ba _ 0=false from rfl,af,aM ai ai,ae,v,aa];by_cases w:ab3 a (0,d,j,k,u)<=32
 rotate_left
 .rw[aO ai,ae];exact⟨1,rfl,λq=>(by cases q),λq=>absurd q.few w⟩
 rw[aJ ai,af,show within _ 4=true from rfl,ae,show idx _ 1=ab (len k) from rfl,aa,show within _ 4=true from rfl,ae,
  show idx _ 2=ab _ from rfl,aa,show within _ 4=true from rfl,ae,show idx ([(0:Int),@len eP k,@len bN j,@len aD d]:List Int) 3=ab _ from rfl,aa,ae,aa,
  e8 (b:=len j) fi fi,e8 fi fi]
 by_cases l:k.length+j.length+d.length=ab3 a (0,d,j,k,u)
 rotate_left
 .rw[ax fi,aA,ae];exact⟨1,rfl,λq=>(by cases q),λq=>absurd q.only l⟩
 rw[aE fi,aG,af];rcases M0 (f:=eL (a,(0,d,_),())) d ai OkL 0 (λi x c=>by
  unfold eL;rw[aq<|aF c,ae,au c,aa,ab1 (P x<|eQ c),aa];by_cases q:OkL x<;>simp[q,nt,ao]) (by unfold eL;dsimp only;rw[aw,af]) with ⟨y,A⟩|⟨y,q,A⟩
 rotate_left
 .rw[A,aa];exact⟨1,rfl,λq=>(by cases q),λq=>absurd q.ll y⟩
 rw[A,aa];rcases M0 (f:=pr (a,(0,d,j,_),())) j ai afc 0 (λi x c=>by
  unfold pr;rw[aq<|aF c,ae,au c,aa,ab2 (Q x<|eQ c),aa];by_cases q:afc x<;>simp[q,nt,ao]) (by unfold pr;dsimp only;rw[aw,af]) with ⟨B,C⟩|⟨B,q,C⟩
 rotate_left
 .rw[C,aa];exact⟨1,rfl,λq=>(by cases q),λq=>absurd q.il B⟩
 rw[C,aa];rcases M0 (f:=pt (a,(0,d,j,k,u),())) k ai OkB 0 (λi x c=>by
  unfold pt;rw[aq<|aF c,ae,au c,aa,ahj (R x<|eQ c),aa];by_cases q:OkB x<;>simp[q,nt,ao]) (by unfold pt;dsimp only;rw[aw,af]) with ⟨D,E⟩|⟨D,q,E⟩
 rotate_left
 .rw[E,aa];exact⟨1,rfl,λq=>(by cases q),λq=>absurd q.bl D⟩
 rw[E,aa];rw[b9,ae,O,aa];have U:(d.flatMap (·.2.2.1)).length<=320:=by have:=zz λx c=>(o x c).1;omega
 have c1:(j.flatMap (·.2.1)).length<=320:=by have:=zz λx c=>(p x c).1;omega
 have c2:(k.flatMap (·.2.1)).length<=320:=by have:=zz λx c=>(s x c).1;omega
 rcases ahk (SZ (0,d,j,k,u)) _ (by unfold SZ;simp only[jB,ux];omega) with ⟨F,S,G⟩|⟨F,S,G⟩
 rotate_left
 .rw[G,aa];exact⟨1,rfl,λq=>(by cases q),λq=>absurd q.ids F⟩
 rw[G,aa];rcases Yy _ (Yx (0,d,j,k,u)) (by unfold Yx;simp only[jB];omega) with ⟨H,T,I⟩|⟨H,T,I⟩
 rotate_left
 .rw[I,aa];exact⟨1,rfl,λq=>(by cases q),λq=>absurd q.nms H⟩
 rw[I,aa];exact⟨0,rfl,λ_=>⟨w,l,y,B,D,F,H⟩,λ_=>rfl⟩
def Pg(s:ay)(l:s.length<=1048576)(m:Int):∀(n i:Nat),s.length-i<=n->i<=s.length->∃q,Loop (gk (s,m,())) ((false,(i:Int),()),())=ab q/\(if zv (s.drop i) then q.1=0 else q.1=1/\q.2.1.1=false):=by
 intro n;induction n with
 | zero =>
   intro i h d;have:i=s.length:=ai;subst this;rw[aT];refine⟨(0,(false,(s.length:Int),()),()),?_,?_⟩
   .unfold gk;rw[aJ<|by simp only[len];omega,af];rfl
   .rw[Lk,aX (by intro x hx;cases hx)]
 | succ n f =>
   intro i h d;rw[aT];by_cases c:i<s.length
   .have hd:=y8 c;have e0:gk (s,m,()) ((false,(i:Int),()),())=if s[i]=0 then ab (.inr (1,(false,(i:Int),()),())) else ab (.inl ((false,((i+1:Nat):Int),()),())):=by
     unfold gk;rw[aO<|by simp only[len];omega,ae,Dc s c,aa];by_cases a:s[i]=0
     .rw[a,show aS (u8 0) 0=true from rfl,ae,aX rfl]
     .rw[show aS _ 0=false from ax (λe=>a (Yh e)),af,aR a,aL ai]
    rw[e0];by_cases a:s[i]=0
    .rw[aX a];refine⟨_,rfl,?_⟩;rw[aR λj=>j s[i] (by rw[hd];exact pI ..) a]
     grind
    .rw[aR a];obtain⟨q,k,o⟩:=f (i+1) ai ai;refine⟨q,k,?_⟩;have e:zv (s.drop i)↔zv (s.drop<|i+1):=by
      rw[hd];constructor
      .intro h x hx;exact h x (va _ hx)
      .intro h x hx;rcases lW.1 hx with rfl|hx
       .exact a
       .exact h x hx
     grind
   .have:i=s.length:=ai;subst this;refine⟨(0,(false,(s.length:Int),()),()),?_,?_⟩
    .unfold gk;rw[aJ<|by simp only[len];omega,af];rfl
    .rw[Lk,aX (by intro x hx;cases hx)]
def GJ(s:ay)(d:s.length<=1048576)(m:Int):nd (s,m,())=ab (decide<|clr s m,()):=by
 unfold nd;dsimp only;obtain⟨q,f,a⟩:=Pg s d m s.length 0 ai ai;rw[show Loop (gk _) ((false,0,()),())=ab q from f,aa];rw[zR] at a;by_cases c:zv s
 .rw[aX c] at a;rw[a,show de 0 0=true from rfl,ae];by_cases h:s=[]
  .subst h;rw[ea aK,af,cL λe=>e.1 rfl]
  .have:=Li.2 h;rw[bO<|by simp only[len];omega,ae];unfold cu;rw[show decide (len s<=m)=decide (clr s m) from gX.2 ⟨λe=>⟨h,e,c⟩,λe=>e.2.1⟩]
 .rw[aR c] at a;rw[a.1,show de 1 0=false from rfl,af,a.2,cL λe=>c e.2.2]
def zA(n b:Int):qM (n,b,())=ab (decide<|SD n b,()):=ES n b
def ahl(h:Hd)(m:Int)(w:h.1.length<=1048576)(x:h.2.2.2.2.2.2.2.1.length<=1048576):uN (h,m,())=ab (decide<|MN h m,()):=by
 unfold uN;dsimp only;have a:(ao (aS h.2.1 3) (ag (nd (h.2.2.2.2.2.2.2.1,100,())) λy=>ab ((y.1,()),()))<|some ((bH h.2.2.2.2.2.2.2.1 [],()),())) =
   ab ((decide<|(h.2.1=3/\clr h.2.2.2.2.2.2.2.1 100)\/(h.2.1≠3/\h.2.2.2.2.2.2.2.1=[]),()),()):=by
  by_cases r:h.2.1=3
  .rw[r,n7,ae,GJ _ x,aa]
   grind
  .rw[ax r,af];unfold bH
   grind
 rw[a,aa,GJ _ w,aa];by_cases d:clr h.1 m
 case neg=>rw[cL d,af,af,af,aa,af,aa,af,aa,af,aa,af,aa,af,af,cL λe=>d e.2.2.2.2.2.1]
 rw[dD d,ae];have c:MN h m->1<=h.2.1/\h.2.1<=3:=λe=>by
  rcases e.2.2.2.2.2.2 with k|k|k<;>omega
 by_cases s:1<=h.2.1
 case neg=>rw[ea ai,af,af,aa,af,aa,af,aa,af,aa,af,aa,af,af,cL λe=>s (c e).1]
 rw[bO s,ae];by_cases v:h.2.1<=3
 case neg=>rw[ea ai,af,aa,af,aa,af,aa,af,aa,af,aa,af,af,cL λe=>v (c e).2]
 rw[bO v,ae,zA,aa,aa];by_cases f:SD h.2.2.1 2097152
 case neg=>rw[cL f,af,aa,af,aa,af,aa,af,aa,af,af,cL λe=>f e.1]
 rw[dD f,ae,zA,aa,aa];by_cases i:SD h.2.2.2.1 2097152
 case neg=>rw[cL i,af,aa,af,aa,af,aa,af,af,cL λe=>i e.2.1]
 rw[dD i,ae,zA,aa,aa];by_cases j:SD h.2.2.2.2.1 2097152
 case neg=>rw[cL j,af,aa,af,aa,af,af,cL λe=>j e.2.2.1]
 rw[dD j,ae,zA,aa,aa];by_cases l:SD h.2.2.2.2.2.1 8589934592
 case neg=>rw[cL l,af,aa,af,af,cL λe=>l e.2.2.2.1]
 rw[dD l,ae,zA,aa,aa];by_cases n:SD h.2.2.2.2.2.2.1 8589934592
 case neg=>rw[cL n,af,af,cL λe=>n e.2.2.2.2.1]
 rw[dD n,ae];have A:decide (MN h m)=decide (kindOk h):=gX.2 ⟨λe=>e.2.2.2.2.2.2,λe=>⟨f,i,j,l,n,d,e⟩⟩;rw[A];have q:h.2.1=1\/h.2.1=2\/h.2.1=3:=ai;by_cases o:h.2.2.2.2.2.1=0
 .rw[aE o,aG,af,ae];rw[show decide _=decide (kindOk h) from gX.2 (by
   unfold kindOk;rcases q with k|k|k<;>simp[k,o])]
 .rw[ax o,aA,ae];by_cases p:h.2.1=1
  .rw[aE p,ae];rw[show decide _=decide (kindOk h) from gX.2 (by unfold kindOk;simp[p])]
  .rw[ax p,af];rw[show decide _=false from cL (by unfold kindOk;simp[p,o])]
def M5(b:ay)(k:Nat):Nat:=if 148<=k/\k<156 then 32 else(b.getD k 0).toNat
def zB(b:ay):Nat->Nat
 | 0=>0
 | k+1=>zB b k+M5 b k
def M6(b:ay)(k:Nat):M5 b k<=255:=by
 unfold M5;have:=(b.getD k 0).toNat_lt
 grind
def VC(b:ay)(k:Nat):zB b k<=255*k:=by
 induction k with
 | zero=>exact cp _
 | succ k a=>have:=M6 b k;simp only[zB];omega
def Yz:idx ([(0,100,()),(100,8,()),(108,8,()),(116,8,()),(124,12,()),(136,12,()),(148,8,()),(156,1,()),(157,100,()),(257,8,()),(345,155,())]:List (Int×Int×al)) 6=ab (148,8,()):=rfl
def Ib(b:ay)(i:b.length<=1048576):vR (b,())=ab ((zB b b.length:Int),()):=by
 unfold vR mE;rw[aa];rw[Yz,aa,ec (by simp only[len];omega),ae];have key:Loop (qo (b,()) (148,8,())) ((0,0,()),())=ab _ :=
  dh b.length (λk=>(((zB b k:Int),(k:Int),()),())) (λk c=>by
   unfold qo;dsimp only;have j:=VC b k;have l:=M6 b k;have a:b.getD k 0=b[k]:=by simp[ac9,c]
   rw[lu,aO ai,ae,aM ai ai,ae,zt b c,aa,jV,aL ai,show aH .i64 148 8=156 from aK];have f:(ao (ao (cu 148 (k:Int)) (ba (k:Int) 156) false) (((32:Int),()),()) ((u8 b[k],()),())).1.1=(M5 b k:Int):=by
    unfold M5;by_cases h:148<=k
    .by_cases d:k<156
     .rw[bO ai,ae,aO ai,ae,aX ⟨h,d⟩];rfl
     .rw[bO ai,ae,aJ ai,af,aR (λe=>d e.2),a];rfl
    .rw[ea ai,af,af,aR (λe=>h e.1),a];rfl
   rw[f,Ag ai ai,show aH .i64 _ _=_ from xc ai];rfl) (by
   unfold qo;dsimp only;rw[lu,aJ ai,af,mB])
 rw[key,aa]
def GK(b:ay)(i:b.length<=1048576):x7 (b,())=ab ((zB b b.length:Int),()):=by
 unfold x7;have key:Loop (rW (b,())) ((0,0,()),())=ab _ :=
  dh b.length (λk=>(((zB b k:Int),(k:Int),()),())) (λk c=>by
   unfold rW;dsimp only;have j:=VC b k;have l:=M6 b k;have a:b.getD k 0=b[k]:=by simp[ac9,c]
   have n:=b[k].toNat_lt;have e:∀v:Nat,v=M5 b k->aH .i64 (zB b k:Int) _=((zB b (k+1):Nat):Int):=λv d=>by
    rw[d,xc ai];rfl
   rw[aO<|by simp only[len];omega,ae];unfold M5 at e;by_cases h:148<=k
   .by_cases f:k<156
    .rw[bO ai,ae,aO ai,ae,aa,jV,aL ai]
     grind
    .rw[bO ai,ae,aJ ai,af,Dc b c,aa,aa,jV,aL ai];rw[show kE .i64 (u8 b[k])=(b[k].toNat:Int) from Ag (by unfold u8;omega) (by unfold u8;omega),e b[k].toNat (by rw[aR<|λe=>f e.2,a])]
   .rw[ea ai,af,af,Dc b c,aa,aa,jV,aL ai];rw[show kE .i64 (u8 b[k])=(b[k].toNat:Int) from Ag (by unfold u8;omega) (by unfold u8;omega),e b[k].toNat (by rw[aR<|λe=>h e.1,a])]) (by
   unfold rW;rw[aJ<|by simp only[len];omega,af,mB])
 rw[key,aa]
def kF(n:Nat):ay:=List.replicate n 0
def tj(n:Nat):(kF n).length=n:=P1
def nN:ay:=[117,115,116,97,114,0,48,48]
def YA(a:List ay)(k:Nat)(c:k<a.length):a.flatten=(a.take k).flatten++(a[k]++(a.drop<|k+1).flatten):=by
 conv=>lhs;rw[<-BI k a,y8 c]
 rw[List.flatten_append,adq]
def afd(a:List ay)(k:Nat)(c:k<a.length)(x:ay):(a.set k x).flatten=(a.take k).flatten++(x++(a.drop<|k+1).flatten):=by
 rw[ah5,aX c,List.flatten_append,adq]
def afe(A z R s:ay)(a:Nat)(c:A.length=a)(d:s.length<=z.length):over (aC<|A++(z++R)) (a:Int) (aC s)=aC (A++((s++z.drop s.length)++R)):=by
 unfold over;rw[qJ,gv];have e:(aC<|A++(z++R)).take a=aC A:=by rw[Cc,adw c]
 have f:(aC<|A++(z++R)).drop (a+s.length)=aC (z.drop s.length++R):=by
  have:(A++(z++R)).drop (a+s.length)=z.drop s.length++R:=by
   rw[<-c,<-yy,JK,Zj d]
  rw[<-this];simp[aC,List.map_drop]
 rw[e,f,<-tW,<-tW,uw,uw]
def ov(c:List ay)(k:Nat)(d:k<c.length)(s:ay)(n l a:Nat)(f:c[k]=kF n)(i:s.length=l)(j:l<=n)(o:(c.take k).flatten.length=a)(p:a+l<=512) :
  over (aC c.flatten) (a:Int) (iW (aC s)<|minus 512 (a:Int))=aC (c.set k<|s++kF (n-l)).flatten:=by
 have e:iW (aC s) (minus 512 (a:Int))=aC s:=by
  unfold iW minus;rw[Hi];rw[gv];omega
 rw[e,YA c k d,afe _ _ _ _ a o (by rw[f,tj];omega),afd c k d,f,i];simp[kF]
def aff(h:Hd)(m u g z t:Nat)(a:UInt8)(c:ay):List ay:=[h.1++kF (100-h.1.length),Ym m 7++kF 1,Ym u 7++kF 1,Ym g 7++kF 1,Ym z 11++kF 1,Ym t 11++kF 1,c,[a]++kF 0,h.2.2.2.2.2.2.2.1++kF (100-h.2.2.2.2.2.2.2.1.length),nN++kF 0,kF 80,kF 155,kF 12]
def aah:List (Int×Int×al):=[(0,100,()),(100,8,()),(108,8,()),(116,8,()),(124,12,()),(136,12,()),(148,8,()),(156,1,()),(157,100,()),(257,8,()),(345,155,())]
def YB:mE ()=ab (aah,()):=rfl
structure Fits (h:Hd) (m u g z t:Nat) (kd:UInt8):Prop where
 path:h.1.length<=100
 link:h.2.2.2.2.2.2.2.1.length<=100
 m:h.2.2.1=(m:Int)/\m<2097152
 u:h.2.2.2.1=(u:Int)/\u<2097152
 g:h.2.2.2.2.1=(g:Int)/\g<2097152
 z:h.2.2.2.2.2.1=(z:Int)/\z<8589934592
 t:h.2.2.2.2.2.2.1=(t:Int)/\t<8589934592
 kind:(h.2.1=1/\kd=48)\/(h.2.1=2/\kd=53)\/(h.2.1=3/\kd=50)
def amK(h:Hd)(m u g z t:Nat)(a:UInt8):ay:=(aff h m u g z t a<|Ym (zB (aff h m u g z t a<|kF 8).flatten 512) 6++[0,32]).flatten
def Ki(s:ay)(j:s.length<=1048576):∃n c,dN (s,())=ab (n,c,()):=by
 unfold dN;dsimp only;cases l:(ao (nt<|ba (len s) 1) (ba 21<|len s) true) with
 | true=>exact⟨0,false,rfl⟩
 | false =>
   rw[af,ec (by simp only[len];omega),ae];have key:∀(k i:Nat) (v:Int),s.length-i<=k->i<=s.length->∃q,Loop (bS (s,())) ((0,false,v,(i:Int),()),())=ab q:=by
    intro k;induction k with
    | zero =>
      intro i v h d;rw[aT];unfold bS;dsimp only;rw[lu,aJ ai,af];exact⟨_,rfl⟩
    | succ k e =>
      intro i v h d;by_cases a:i<s.length
      .cases hd:(ao (nt<|ba (u8 s[i]) 48) (ba 55<|u8 s[i]) true) with
       | true =>
         have e0:bS (s,()) ((0,false,v,(i:Int),()),())=ab (.inr (1,(0,false,v,(i:Int),()),())):=by
          unfold bS;dsimp only;rw[lu,aO ai,ae,aM ai ai,ae,zt s a,aa,hd,ae]
         rw[aT,e0];exact⟨_,rfl⟩
       | false =>
         have e0:bS (s,()) ((0,false,v,(i:Int),()),())=ab (.inl ((0,false,zM .i64 (nR .i64 v 3)<|kE .i64<|da .u8 (u8 s[i]) 48,((i+1:Nat):Int),()),())):=by
          unfold bS;dsimp only;rw[lu,aO ai,ae,aM ai ai,ae,zt s a,aa,hd,af,aJ aK,af,aL ai]
         rw[aT,e0];exact e (i+1) _ ai ai
      .rw[aT];unfold bS;dsimp only;rw[lu,aJ ai,af];exact⟨_,rfl⟩
   obtain⟨q,f⟩:=key s.length 0 0 ai ai;rw[show Loop (bS (s,())) ((0,false,0,0,()),())=ab q from f,aa];cases de q.1 0 with
   | true=>exact⟨_,_,rfl⟩
   | false=>exact⟨_,_,rfl⟩
def pA(p:UInt8->Bool)(s:ay):(cX p s).length<=s.length:=by
 unfold cX;rw[P4];have:=El (p:=p) (l:=s.reverse);have:=congrArg List.length this;rw[jB,P4] at this;omega
def fg(s:ay)(a:s.length<=1048576):∃n,dz (s,())=ab (n,()):=by
 unfold dz;dsimp only;have d:=pA Ao s;rw[Gr s a,aa];obtain⟨n,c,h⟩:=Ki (cX Ao s) ai;dsimp only;rw[h,aa];cases (ao (nt<|nt c) (aS (len<|cX Ao s)<|len s) true) with
 | true=>exact⟨_,rfl⟩
 | false=>exact⟨_,rfl⟩
def gz(b:ay)(a n:Nat):ay:=(b.drop a).take n
def cr(b:ay)(a n:Nat):(gz b a n).length<=n:=by simp[gz];omega
def oC(b:ay)(d:b.length=512)(k:Int)(a n:Nat)(c:idx aah k=ab ((a:Int),(n:Int),()))(h:a+n<=512):cc (b,k,())=ab (gz b a n,()):=by
 unfold cc;rw[YB,aa];dsimp only;rw[c,aa];dsimp only;rw[show aH .i64 (a:Int) (n:Int)=((a+n:Nat):Int) from xc ai,aV ai ai (by simp only[len];omega),ae];unfold sub minus gz;rw[qJ,show(((a+n:Nat):Int)-(a:Int)).toNat=n by omega]
section
variable (b:ay)
def o0(a:b.length=512):cc (b,0,())=ab (gz b 0 100,()):=oC b a 0 0 100 rfl ai
def o1(a:b.length=512):cc (b,1,())=ab (gz b 100 8,()):=oC b a 1 100 8 rfl ai
def o2(a:b.length=512):cc (b,2,())=ab (gz b 108 8,()):=oC b a 2 108 8 rfl ai
def o3(a:b.length=512):cc (b,3,())=ab (gz b 116 8,()):=oC b a 3 116 8 rfl ai
def o4(a:b.length=512):cc (b,4,())=ab (gz b 124 12,()):=oC b a 4 124 12 rfl ai
def o5(a:b.length=512):cc (b,5,())=ab (gz b 136 12,()):=oC b a 5 136 12 rfl ai
def o6(a:b.length=512):cc (b,6,())=ab (gz b 148 8,()):=oC b a 6 148 8 rfl ai
def o7(a:b.length=512):cc (b,7,())=ab (gz b 156 1,()):=oC b a 7 156 1 rfl ai
def o8(a:b.length=512):cc (b,8,())=ab (gz b 157 100,()):=oC b a 8 157 100 rfl ai
def o9(a:b.length=512):cc (b,9,())=ab (gz b 257 8,()):=oC b a 9 257 8 rfl ai
def o10(a:b.length=512):cc (b,10,())=ab (gz b 345 155,()):=oC b a 10 345 155 rfl ai
end
def ab5:Hd:=([],0,0,0,0,0,0,[],())
def E1(b:ay)(a:b.length=512)(c:gz b 257 8≠nN):fB (b,())=ab (ab5,2,()):=by
 unfold fB;dsimp only;rw[aE<|by simp only[len];omega,aG,aA,ae,o9 b a,aa,aa,show([117,115,116,97,114,0,48,48]:ay)=nN from rfl];dsimp only;rw[show bH (gz b 257 8) nN=false from cL c,aA,aG,af,aa,ae];rfl
def VD(b:ay)(a:b.length=512){n:Int}(e:dz (gz b 148 8,())=ab (n,()))(c:n≠(zB b 512:Int)):fB (b,())=ab (ab5,2,()):=by
 by_cases d:gz b 257 8=nN
 .unfold fB;dsimp only;rw[aE<|by simp only[len];omega,aG,aA,ae,o9 b a,aa,aa,show([117,115,116,97,114,0,48,48]:ay)=nN from rfl];dsimp only;rw[d,show bH nN nN=true from rR _,aG,aA,ae,o6 b a,aa];dsimp only;rw[e,aa,Ib b ai,aa];dsimp only;rw[a,ax c,aA,aa,ae];rfl
 .exact E1 b a d
section
variable {h:Hd} {m u g z t:Nat} {kd:UInt8}
def ahm(n:Nat):∀x∈kF n,x=0:=λx a=>List.eq_of_mem_replicate a
end
def hA:Hd:=([100,47],2,493,0,0,0,1,[],())
def hC:Hd:=([100],2,0,0,0,1,0,[],())
abbrev Pt:=Hd×ay×al
def aiq(h:Hd):Int:=h.2.2.2.2.2.1
def amL(h:Hd):UInt8:=if h.2.1=1 then 48 else if h.2.1=2 then 53 else 50
def amM(h:Hd):ay:=amK h h.2.2.1.toNat h.2.2.2.1.toNat h.2.2.2.2.1.toNat h.2.2.2.2.2.1.toNat h.2.2.2.2.2.2.1.toNat (amL h)
def amN(p:Pt):Prop:=MN p.1 100/\aiq p.1=(p.2.1.length:Int)
instance (p:Pt):Decidable (amN p):=inferInstanceAs (Decidable<|_/\_)
def vF(n:Nat):Nat:=(512-n % 512) % 512
def body(p:Pt):ay:=amM p.1++p.2.1++kF (vF p.2.1.length)
def VE(n:Nat):vF n<512:=A1 _ aK
def VF(n:Nat)(c:n<=1048576):wX ((n:Int),())=ab ((vF n:Int),()):=by
 unfold wX;dsimp only;rw[show aS 512 0=false from rfl,af,af];have a:jQ (n:Int) 512=((n % 512:Nat):Int):=rfl;rw[a,dL ai ai,show(512:Int)-((n % 512:Nat):Int)=((512-n % 512:Nat):Int) by omega];rfl
def VG(n:Nat):Lib.repeatL [0] n=kF n:=by
 induction n with
 | zero=>rfl
 | succ n a =>
   show [0]++Lib.repeatL [0] n=kF (n+1)
   rw[a];rfl
def VH(n:Nat)(a:n<=1048576):DU ((n:Int),())=ab (kF n,()):=by
 unfold DU;dsimp only;have:oO ([0],(n:Int),())=ab (kF n,()):=by
  show(gi [0] (n:Int)).map (λy=>(y,()))=_
  unfold gi;rw[aR<|by rw[qJ];simp only[jC,nQ];omega,qJ,VG];rfl
 rw[this,aa]
def VI(n:Nat)(d:n<=1048576):nf ((n:Int),())=ab (((n+vF n:Nat):Int),()):=by
 unfold nf;dsimp only;have key:=dh (f:=lp) (r:=((((n+vF n:Nat):Int),()),())) (vF n) (λi=>((((n+i:Nat):Int),()),())) (λi a=>by
  have c:=a;unfold vF at c;unfold lp;dsimp only;rw[show aS 512 0=false from rfl,af,show jQ ((n+i:Nat):Int) 512=(((n+i) % 512:Nat):Int) from rfl,ax ai,aA,ae,aL ai];rfl) (by
  unfold lp;dsimp only;rw[show aS 512 0=false from rfl,af,show jQ ((n+vF n:Nat):Int) 512=(((n+vF n) % 512:Nat):Int) from rfl,aE (by unfold vF;omega),aG,af];rfl)
 rw[show Loop lp (((n:Int),()),())=_ from key,aa]
def S0(a:ay):(aC a).length=a.length:=ux ..
structure apJ (l:List Pt) (n:Nat):Prop where
 many:l.length<=n
 path:∀p∈l,p.1.1.length<=300
 link:∀p∈l,p.1.2.2.2.2.2.2.2.1.length<=300
 data:∀p∈l,p.2.1.length<=8192
abbrev Rd:=Bool×ay×Int×Bool×Bool×al
def S1:Pt:=(ab5,[],())
def rd(r:ay)(n:Int):Rd:=(true,r,n,false,false,())
def DY(n:Int)(b:Bool):Rd:=(true,[],n,true,b,())
def ab6(r:ay)(n:Int)(b:Bool):bP ((),(true,r,n,true,b,()),())=ab ((S1,false,()),(true,r,n,true,b,()),()):=by
 unfold bP;dsimp only;rfl
def GL(r:ay)(n:Int)(b:Bool):eV ((b,()),rd r n,())=ab ((S1,false,()),DY n b,()):=rfl
def M7(r:ay)(n:Int)(h:r.length<512):bP ((),rd r n,())=ab ((S1,false,()),DY n true,()):=by
 have e:=GL r n true;unfold bP;dsimp only[rd] at e⊢;rw[aG,aA,ae,af,aO (by rw[bE];omega),ae,e,aa]
def Ic(r:ay)(n:Int)(h:512<=r.length)(f:r.length<=1048576)(i:∀x∈r.take 512,x=0) :
  bP ((),rd r n,())=ab ((S1,false,()),DY n<|!decide (1024<=r.length/\r.length % 512=0/\∀x∈r,x=0),()):=by
 have e:=λb=>GL r n b;unfold bP;dsimp only[rd] at e⊢;have j:(r.take 512).length=512:=by rw[kC];omega
 rw[aG,aA,ae,af,aJ (by rw[bE];omega),af,aV aK aK (by rw[bE];omega),ae,show sub r 0 (minus 512 0)=r.take 512 from hU r 512,MM _ ai,dD ⟨j,i⟩,aa,ae];rw[show aS 512 0=false from rfl,af,show jQ (len r) 512=((r.length % 512:Nat):Int) from rfl,show cu 1024 (len r)=decide (1024<=r.length) from by unfold cu len;apply gX.2;omega,show aS ((r.length % 512:Nat):Int) 0=decide (r.length % 512=0) from by unfold aS;apply gX.2;omega,Vv r f];have k:decide ((cX cU r).dropWhile cU=[])=decide (∀x∈r,x=0):=gX.2 (xf r);by_cases a:1024<=r.length
 .by_cases b:r.length % 512=0
  .by_cases c:∀x∈r,x=0
   .have d:=(xf r).2 c;rw[dD a,ae,dD b,aa,aG,aA,ae,aa,aa];dsimp only;rw[di d,aG,e,aa,dD ⟨a,b,c⟩];rfl
   .have d:¬(cX cU r).dropWhile cU=[]:=λq=>c ((xf r).1 q);rw[dD a,ae,dD b,aa,aG,aA,ae,aa,aa];dsimp only;rw[bw d,aA,e,aa,cL λq=>c q.2.2];rfl
  .rw[dD a,ae,cL b,aa,aA,aG,af,aa,e,aa,cL λq=>b q.2.1];rfl
 .rw[cL a,af,aa,aA,aG,af,aa,e,aa,cL λq=>a q.1];rfl
def QN(p:Pt)(a:List Pt)(e:Rd)(i:a.length<=1000){f:Pt}{c:Bool}{d:Rd}(h:bP ((),e,())=ab ((f,c,()),d,())) :
  iF (((),(),true,()),p,a,e,())=ab (.inl (((),(),c,()),f,a++[p],d,())):=by
 unfold iF;dsimp only;rw[ae,bo (by simp only[jC,nQ];omega),ae,h,aa];rfl
def wI(p:Pt)(a:List Pt)(c:Rd):iF (((),(),false,()),p,a,c,())=ab (.inr (((),(),false,()),p,a,c,())):=rfl
def QO(s:ay)(h:8192<s.length):fh (s,())=ab ([],10,()):=by
 unfold fh;dsimp only;rw[aO<|by rw[bE];omega,ab6,aa];dsimp only;rw[aT,wI];rfl
def aje(c:Bool)(h:Hd):∃x e,ag (ao c (ag (re (h,(256:Int),())) λ(a:Bool×al)=>ab (nt a.1))<|some true) (λy=>ao y (ab (ab5,(2:Int),())) (ab (h,(0:Int),())))=ab (x,e,())/\(e=0->MN x 256):=by
 rw[Vw,aa];cases c with
 | false=>exact⟨_,_,rfl,λq=>absurd q aK⟩
 | true =>
   by_cases d:MN h 256
   .rw[dD d];exact⟨h,0,rfl,λ_=>d⟩
   .rw[cL d];exact⟨_,_,rfl,λq=>absurd q aK⟩
def aai(b:ay)(a:b.length=512):∃x e,fB (b,())=ab (x,e,())/\(e=0->MN x 256):=by
 by_cases d:gz b 257 8=nN
 case neg=>exact⟨_,_,E1 b a d,λe=>absurd e aK⟩
 obtain⟨j,f⟩:=fg (gz b 148 8) (by have:=cr b 148 8;omega);by_cases i:j=(zB b 512:Int)
 case neg=>exact⟨_,_,VD b a f i,λe=>absurd e aK⟩
 obtain⟨v,k⟩:=fg (gz b 100 8) (by have:=cr b 100 8;omega);obtain⟨w,l⟩:=fg (gz b 108 8) (by have:=cr b 108 8;omega);obtain⟨y,n⟩:=fg (gz b 116 8) (by have:=cr b 116 8;omega);obtain⟨A,o⟩:=fg (gz b 124 12) (by have:=cr b 124 12;omega);obtain⟨B,q⟩:=fg (gz b 136 12) (by have:=cr b 136 12;omega);have t0:=Gt (gz b 0 100) (by have:=cr b 0 100;omega);have r:=Gt (gz b 157 100) (by have:=cr b 157 100;omega);have t10:=Gt (gz b 345 155) (by have:=cr b 345 155;omega);have C:=pA cU (gz b 0 100);have l10:=pA cU (gz b 345 155);have m0:=cr b 0 100;have m10:=cr b 345 155;unfold fB;rw[aE<|by simp only[len];omega,aG,aA,ae,o9 b a,aa,aa,show([117,115,116,97,114,0,48,48]:ay)=nN from rfl];rw[d,show bH nN nN=true from rR _,aG,aA,ae,o6 b a,aa];rw[f,aa,Ib b ai,aa];rw[a,aE i,aG,aa,af,o0 b a,aa];rw[t0,aa,o8 b a,aa];rw[r,aa,o10 b a,aa];rw[t10,aa];have c:∃p:ay,(ao (nt<|bH (cX cU<|gz b 345 155) []) (ao (fits<|plus (len<|cX cU<|gz b 345 155)<|len ([47]:ay)) (ao (fits<|plus (len<|app (cX cU<|gz b 345 155) [47])<|len<|cX cU<|gz b 0 100)
   (ab ((app (app (cX cU<|gz b 345 155) [47])<|cX cU<|gz b 0 100,()),())) ah) ah)<|some ((cX cU<|gz b 0 100,()),()))=ab ((p,()),()):=by
  cases (nt<|bH (cX cU<|gz b 345 155) []) with
  | true =>
    rw[ae,ec (by simp only[plus,len,jC,nQ];omega),ae,ec (by simp only[plus,len,app,jB,jC,nQ];omega),ae]
    grind
  | false=>exact⟨_,rfl⟩
 obtain⟨p,s⟩:=c;rw[s,aa,o1 b a,aa];rw[k,aa,o2 b a,aa];rw[l,aa,o3 b a,aa];rw[n,aa,o4 b a,aa];rw[o,aa,o5 b a,aa];rw[q,aa,o7 b a,aa];exact aje _ _
def VJ(r:ay)(n:Nat)(C:r.length<=10000):∃p c d,bP ((),rd r (n:Int),())=ab ((p,c,()),d,()) /\
  ((c=false/\∃b,d=DY (n:Int) b)\/(c=true/\MN p.1 256/\p.2.1.length<=r.length/\n<64/\∃j,d=rd j ((n+1:Nat):Int)/\j.length+512<=r.length)):=by
 by_cases a:r.length<512
 .exact⟨_,_,_,M7 r n a,.inl ⟨rfl,_,rfl⟩⟩
 by_cases l:∀x∈r.take 512,x=0
 .exact⟨_,_,_,Ic r n ai ai l,.inl ⟨rfl,_,rfl⟩⟩
 have e:=λb=>GL r (n:Int) b;have o:(r.take 512).length=512:=by rw[kC];omega
 obtain⟨x,s,v,w⟩:=aai (r.take 512) o;have y:(r.drop 512).length=r.length-512:=pP;unfold bP;dsimp only[rd] at e⊢;rw[aG,aA,ae,af,aJ (by rw[bE];omega),af,aV aK aK (by rw[bE];omega),ae,show sub r 0 (minus 512 0)=r.take 512 from hU r 512];rw[MM (r.take 512) ai,aa];rw[cL<|λq=>l q.2,af,ae,v,aa,aV aK (by rw[bE];omega) (sF _),ae,show sub r 512 (minus (len r) 512)=r.drop 512 from mC r 512 ai];by_cases f:s=0
 case neg =>
  rw[ax f,aA,ae,e,aa]
  grind
 rw[aE f,aG,af];have i:=w f;obtain⟨A,D⟩:=i.2.2.2.1;obtain⟨k,B⟩:=adf A;rw[B];by_cases E:(r.drop 512).length<k
 .rw[aO<|by rw[bE];omega,ae,e,aa]
  grind
 .have F:=VE k;rw[aJ<|by rw[bE];omega,af,VF k ai,aa,e8 ai ai];by_cases G:(r.drop 512).length<k+vF k
  .rw[aO<|by rw[bE];omega,ae,e,aa]
   grind
  .rw[aJ<|by rw[bE];omega,af];by_cases H:64<=n
   .rw[bO ai,ae,e,aa]
    grind
   .rw[ea ai,af,aa,e8 ai ai,aV ai (by rw[bE];omega) (sF _),ae,aV ai ai (by rw[bE];omega),ae];rw[show sub (r.drop 512) 0 (minus (k:Int) 0)=(r.drop 512).take k from hU _ k,show(k:Int)+(vF k:Int)=((k+vF k:Nat):Int) by omega,mC _ (k+vF k) ai,aL ai]
    grind
def M8{h:Hd}(k:MN h 256):h.1.length<=300/\h.2.2.2.2.2.2.2.1.length<=300:=by
 obtain⟨_,_,_,_,_,⟨_,c,_⟩,a⟩:=k;refine⟨ai,?_⟩;rcases a with ⟨_,e⟩|⟨_,e,_⟩|⟨_,⟨_,e,_⟩,_⟩
 .grind
 .grind
 .omega
def RdP(p:Pt):Prop:=p.1.1.length<=300/\p.1.2.2.2.2.2.2.2.1.length<=300/\p.2.1.length<=8192
def ab7:∀(m n:Nat) (r:ay) (out:List Pt) (p:Pt),r.length<=m->r.length<=8192->out.length+1=n->n<=64->(∀q∈out++[p],RdP q) ->
  ∃(a:List Pt) (e:Pt) (b:Int×Bool),Loop iF (((),(),true,()),p,out,rd r (n:Int),())=ab (((),(),false,()),e,a,DY b.1 b.2,())/\a.length<=64/\∀q∈a,RdP q:=by
 intro m;induction m using Nat.strongRecOn with
 | _ m k =>
   intro n r out p E F G l s;obtain⟨f,v,w,x,y⟩:=VJ r n ai;have c:=QN p out (rd r (n:Int)) ai x;rcases y with ⟨rfl,b,rfl⟩|⟨rfl,A,H,I,i,rfl,J⟩
   .refine⟨out++[p],f,((n:Int),b),?_,by rw[jB];simp;omega,s⟩;rw[aT,c];show Loop _ _=_
    rw[aT,wI];rfl
   .have j:=M8 A;obtain⟨o,e,b,B,C,D⟩:=k i.length ai (n+1) i (out++[p]) f (cp _) ai (by rw[jB];simp;omega) ai (λq d=>by
     rcases Rr.1 d with d|d
     .grind
     .rw[zO] at d;subst d;exact⟨j.1,j.2,ai⟩)
    exact⟨o,e,b,by rw[aT,c];exact B,C,D⟩
def afg(s:ay):∃l e,fh (s,())=ab (l,e,())/\l.length<=64/\(∀q∈l,RdP q)/\(e=0\/(e=10/\l=[])):=by
 by_cases i:8192<s.length
 .exact⟨_,_,QO s i,bb,λq a=>(by cases a),.inr ⟨rfl,rfl⟩⟩
 obtain⟨p,w,x,j,k⟩:=VJ s 0 ai;have fin:∀(b:Int×Bool) (o:List Pt),(ag (iM ((),DY b.1 b.2,())) λc=>ao c.1.1 (ab (([]:List Pt),(10:Int),())) (ab (o,(0:Int),())))=ab (if b.2=true then(([]:List Pt),(10:Int),()) else(o,(0:Int),())):=λb o=>by
  obtain⟨y,n⟩:=b;cases n<;>rfl
 unfold fh;dsimp only;rw[aJ<|by rw[bE];omega,show bP ((),(true,s,(0:Int),false,false,()),())=_ from j,aa];rcases k with ⟨rfl,b,rfl⟩|⟨rfl,r,A,B,d,rfl,C⟩
 .rw[aT,wI];show ∃l e,(ag (iM ((),DY _ _,())) λc=>ao c.1.1 (ab (([]:List Pt),(10:Int),())) (ab (([]:List Pt),(0:Int),())))=_/\_
  rw[fin (_,_)]
  grind
 .have f:=M8 r;obtain⟨o,D,b,v,E,F⟩:=ab7 d.length 1 d [] p (cp _) ai rfl ai (λq a=>by
   rw[Bx,zO] at a;subst a;exact⟨f.1,f.2,ai⟩)
  rw[show Loop iF (((),(),true,()),p,([]:List Pt),rd d ((0+1:Nat):Int),())=_ from v,aa]
  grind
set_option maxRecDepth 100000
end Go.Ge
namespace Go.Ge
variable [Lp]
abbrev Nd:=ay×Int×Int×ay×ay×al
def KX{a b:Int}:(cu a b=true)↔a<=b:=by
 constructor
 .intro h;rcases Int.lt_or_le b a with g|g
  .rw[ea g] at h;cases h
  .exact g
 .exact bO
def wj{a b:Int}:cu a b=decide (a<=b):=by
 rw[Rq,KX,uv]
def YC{p:ay}(k:p≠[]):((lv p).2=0/\(lv p).1=p)↔((parts p).all sI=true/\(parts p).length<=8/\p.length<=96):=by
 constructor
 .rintro⟨c,e⟩;obtain⟨d,l⟩:=abN c;obtain⟨n,o,q⟩:=rl d;have r:parts p=names p:=by
   have:=Jj p
   grind
  grind
 .rintro⟨c,e,d⟩;have f:∀x∈parts p,nG x=true:=λx a=>by
   have:=vL.1 c x a;unfold sI at this;unfold nG
   grind
  have i:names p=parts p:=Hj.2 f;have j:aP (names p)=p:=by rw[i,fV]
  have s:p.head?≠ab 47:=by
   rw[<-j];exact Yq λx a=>⟨(wG p x a).1,(wG p x a).2.1⟩
  have v:nH p=true:=by
   unfold nH
   grind
  unfold lv
  grind
def xo(p:ay):Bool:=decide (p≠[])&&(parts p).all sI&&decide ((parts p).length<=8)&&decide (p.length<=92)&&decide ((bp p).2.length<=28)&&decide ((nI (bp p).2).1=0)
def YD(p:ay)(c:p.length<=4096):tX (p,())=ab (xo p,()):=by
 unfold tX;rw[QH p c,aa,qP p ai,aa];rw[Vz,aa];rw[jv,jv,jv,jv,jv]
 congr 2
 rw[Rq];unfold xo;by_cases a:p=[]
 .subst a;simp[bH,nt]
 .have d:=YC a;simp only[gy,uv,aS,bH,Z1,KX,len,zP,Zl]
  grind
def QP(n:Nd):Bool:=if n.2.1=1 then decide (n.2.2.2.2.1=[]/\n.2.2.2.1.length<=8192) else if n.2.1=2 then decide (n.2.2.2.2.1=[]/\n.2.2.2.1=[]) else if n.2.1=3 then decide (n.2.2.2.1=[]/\n.2.2.2.2.1≠[]/\n.2.2.2.2.1.length<=100/\0∉n.2.2.2.2.1) else false
def fY(n:Nd):Bool:=xo n.1&&decide (0<=n.2.2.1)&&decide (n.2.2.1<=4095)&&QP n
def Ph(s:ay)(c:UInt8):dy (s,u8 c,())=ab (Lib.indexByte s c,()):=by
 have:(show Int from u8 c).toNat.toUInt8=c:=by simp[u8]
 unfold dy fI;rw[this];rfl
def aaj(n:Nd)(j:n.1.length<=4096):zx (n,())=ab (fY n,()):=by
 obtain⟨p,k,m,d,l,u⟩:=n;unfold zx fY QP;rw[YD p j,aa];have o:ba m 0=!decide (0<=m):=by unfold ba;by_cases h:m<0<;>simp[h]<;>omega
 have q:ba 4095 m=!decide (m<=4095):=by unfold ba;by_cases h:4095<m<;>simp[h]<;>omega
 rw[o,q];cases xo p with
 | false=>rfl
 | true =>
   cases decide (0<=m) with
   | false=>rfl
   | true =>
     cases decide (m<=4095) with
     | false=>rfl
     | true =>
       simp only[aG,aA,ae,af,Bool.not_true,Bool.true_and];by_cases a:k=1
       .subst a;simp only[aS,T6,ae,wJ,bH,wj,len,jv]
        congr 2
        grind
       .rw[show aS k 1=false by simp[aS,a],af,aR a];by_cases c:k=2
        .subst c;simp only[aS,T6,ae,wJ,bH,wj,len,jv];simp_all
        .rw[show aS k 2=false by simp[aS,c],af,aR c];by_cases e:k=3
         .subst e;rw[show aS 3 3=true by rfl,ae,aX rfl,jv,jv,show((l,(0:Int),()):ay×Int×al)=(l,u8 0,()) by rfl,Ph,aa];have r:ba (Lib.indexByte l 0) 0=decide (0∉l):=DX l;rw[r];by_cases hd:d=[]
          .by_cases f:l=[]
           .subst hd f;rfl
           .by_cases i:l.length<=100
            .simp[bH,hd,f,wj,len,nt,ao,ag,i,show(l.length:Int)<=100 by omega]
            .simp[bH,hd,f,wj,len,nt,ao,ag,i,show ¬(l.length:Int)<=100 by omega]
          .simp[bH,hd,ao,ag]
         .rw[show aS k 3=false by simp[aS,e],af,aR e]
def YE(s:ay)(l:s.length<=1048576):sb (s,())=ab (decide<|s≠[]/\s.length<=100/\0∉s,()):=by
 unfold sb;rcases iK (f:=nJ (s,())) s (λi=>((false,i,()),())) (λ_ x=>decide (x=0)) (λi x=>(1,(false,(i:Int),()),())) ((0:Nat),(false,(s.length:Int),()),()) ai (λi x a c e=>by
  unfold nJ;rw[aq c,ae,au a,aa,akI,ew,e];by_cases j:x=0<;>simp[j]) (by unfold nJ;dsimp only;rw[aw,af]) with ⟨i,x,a,n,_,h⟩|⟨o,h⟩
 .rw[h,aa,fv,af]
  grind
 .rw[h,aa,b9,ae,jv];have d:(0:UInt8)∉s:=λd=>by
   obtain⟨i,c⟩:=bz.1 d
   grind
  congr 2
  rw[Rq];simp only[gy,KX,len,uv];constructor
  .grind
  .rintro⟨k,p,_⟩;exact⟨by have:=Li.2 k;omega,ai⟩
def yi(n:Nd)(i:n.1.length<=4096)(j:n.2.2.2.2.1.length<=4096):lV (n,())=ab (fY n,()):=by
 obtain⟨p,k,m,d,l,u⟩:=n;unfold lV fY QP;dsimp only at i j⊢;rw[vV p i,aa];rw[Jl,aa,QG p ai,YE l ai];simp only[aa,jv];have e0:(ao (nt<|bH p []) (ab<|(parts p).all sI&&decide ((parts p).length<=8)&&decide (p.length<=96)) (ab false):Option Bool)=ab (decide (p≠[])&&(parts p).all sI&&decide ((parts p).length<=8)&&decide (p.length<=96)):=by
  by_cases h:p=[]
  .subst h;rfl
  .simp[bH,h,ao,nt]
 rw[e0,aa];have o:((((((decide (p≠[])&&(parts p).all sI&&decide ((parts p).length<=8)&&decide (p.length<=96))&&cu (len p) 92)&&cu (len (bp p).2) 28)&&aS (nI (bp p).2).1 0)&&cu 0 m)&&cu m 4095)=(xo p&&decide (0<=m)&&decide (m<=4095)):=by
  rw[Rq];unfold xo;simp only[gy,KX,len,aS,uv]
  grind
 simp only[o];generalize (xo p&&decide (0<=m)&&decide (m<=4095))=c;by_cases a:k=1
 .subst a;rw[show aS 1 1=true by rfl,ae,aX rfl]
  congr 2
  rw[Bool.and_assoc]
  congr 1
  rw[Rq];simp[bH,wj,len];intro _;omega
 .rw[show aS k 1=false by simp[aS,a],af,aR a];by_cases e:k=2
  .subst e;rw[show aS 2 2=true by rfl,ae,aX rfl]
   congr 2
   rw[Bool.and_assoc]
   congr 1
   rw[Rq];simp[bH]
  .rw[show aS k 2=false by simp[aS,e],af,aR e];by_cases f:k=3
   .subst f;rw[show aS 3 3=true by rfl,ae,aX rfl];cases c with
    | false=>rfl
    | true =>
      by_cases hd:d=[]
      .simp[bH,hd,ao,ag]
      .simp[bH,hd,ao,ag]
   .rw[show aS k 3=false by simp[aS,f],af,aR f,adA]
def Sm(n:Nd):Prop:=n.1.length<=200/\n.2.2.2.2.1.length<=300/\n.2.2.2.1.length<=8192
def wk(l:List Nd):Prop:=l.length<=4096/\∀x∈l,Sm x
def key(n:Nd):List ay:=parts n.1
def cmp(n:Nd)(p:ay):Int:=cmpL (parts n.1) (parts p)
def wk.at{l:List Nd}(h:wk l){i:Nat}{x:Nd}(a:l[i]?=ab x):Sm x:=h.2 x (eQ a)
def wk.take{l:List Nd}(h:wk l)(k:Nat):wk (l.take k):=⟨by rw[kC];have:=h.1;omega,λx a=>h.2 x (JI a)⟩
def M9(n:Nd)(p:ay)(a:n.1.length<=4096)(c:p.length<=4096):mK (n,p,())=ab (cmp n p,()):=by
 unfold mK;rw[Cg _ _ a c,aa];rfl
def ahn{a b:Nat}(c:a<=1048576)(d:b<=1048576):kE .i64 (mz .u64 (kE .u64<|aH .i64 (a:Int) (b:Int)) 1)=(((a+b) / 2:Nat):Int):=by
 rw[e8 ai ai,ag0 ai ai];have e:mz .u64 ((a:Int)+(b:Int)) 1=(((a+b) / 2:Nat):Int):=by
  unfold mz;have f:(2:Int) ^ min 1 IntKind.u64.bits=2:=aK
  grind
 rw[e,Ag ai ai]
def ab8(l:List Nd)(p:ay)(s:wk l)(E:p.length<=4096):∀(n lo hi:Nat),hi-lo<=n->lo<=hi->hi<=l.length ->
  ∃k:Nat,lo<=k/\k<=hi/\Loop (jK (l,p,())) (((lo:Int),(hi:Int),()),())=ab (((k:Int),(k:Int),()),()) /\
   ((∀(i j:Nat) (x y:Nd),i<=j->l[i]?=ab x->l[j]?=ab y->cmp y p<0->cmp x p<0)->(∀(j:Nat) (y:Nd),j<lo->l[j]?=ab y->cmp y p<0)->(∀(j:Nat) (y:Nd),hi<=j->l[j]?=ab y->¬cmp y p<0) ->
    (∀(j:Nat) (y:Nd),j<k->l[j]?=ab y->cmp y p<0)/\(∀(j:Nat) (y:Nd),k<=j->l[j]?=ab y->¬cmp y p<0)):=by
 intro n;induction n with
 | zero =>
   intro lo hi F G v;obtain rfl:hi=lo:=ai;refine⟨hi,cp _,cp _,?_,λ_ a b=>⟨a,b⟩⟩;rw[aT];unfold jK;rw[aJ<|sF _,af];rfl
 | succ n w =>
   intro lo hi F G v;by_cases h:hi=lo
   .simp_all
   .have I:=s.1;have H:(lo+hi) / 2<l.length:=ai;obtain⟨x,f⟩:∃x,l[(lo+hi) / 2]?=ab x:=⟨_,ik H⟩;have d:jK (l,p,()) (((lo:Int),(hi:Int),()),())=ab (.inl<|if cmp x p<0 then(((((lo+hi) / 2+1:Nat):Int),(hi:Int),()),()) else(((lo:Int),(((lo+hi) / 2:Nat):Int),()),())):=by
     unfold jK;dsimp only;rw[aO ai,ae,aJ aK,af,ahn ai ai,au f,aa,M9 x p (by have:=(s.at f).1;omega) E,aa];rw[aL ai];by_cases e:cmp x p<0
     .rw[aO e,aX e];rfl
     .rw[aJ ai,aR e];rfl
    rw[aT,d];by_cases e:cmp x p<0
    .obtain⟨k,A,B,o,q⟩:=w ((lo+hi) / 2+1) hi ai ai v;refine⟨k,ai,B,by rw[aX e];exact o,λa b c=>q a (λj y C D=>?_) c⟩
     grind
    .obtain⟨k,A,B,o,q⟩:=w lo ((lo+hi) / 2) ai ai ai;refine⟨k,A,ai,by rw[aR e];exact o,λa b c=>q a b λj y C D r=>e (a _ _ x y C f D r)⟩
def Ord(l:List Nd):Prop:=∀(i j:Nat) (x y:Nd),i<j->l[i]?=ab x->l[j]?=ab y->cmpL (key x) (key y)<0
def Ord.mono{l:List Nd}(h:Ord l)(p:ay):∀(i j:Nat) (x y:Nd),i<=j->l[i]?=ab x->l[j]?=ab y->cmp y p<0->cmp x p<0:=by
 intro i j x y a c d e;rcases vM i j with g|g
 .exact td (h i j x y g c d) e
 .grind
def Ord.take{l:List Nd}(h:Ord l)(k:Nat):Ord (l.take k):=λi j x y d a c=>by
 rw[jP] at a c;split at a
 .split at c
  .exact h i j x y d a c
  .cases c
 .cases a
structure Plc (l:List Nd) (p:ay) (k:Nat) (b:Bool):Prop where
 le:k<=l.length
 lo:∀(j:Nat) (y:Nd),j<k->l[j]?=ab y->cmp y p<0
 hi:∀(j:Nat) (y:Nd),k<=j->l[j]?=ab y->¬cmp y p<0
 is:b=true->∃x,l[k]?=ab x/\x.1=p
 no:b=false->∀x∈l,x.1≠p
def VK{n:Nd}{p:ay}(h:cmp n p=0):n.1=p:=by
 have:=abt h;rw[<-fV n.1,this,fV]
def Na{n:Nd}{p:ay}(h:n.1=p):cmp n p=0:=by subst h;exact na _
def Dh(l:List Nd)(p:ay)(r:wk l)(s:p.length<=4096):∃(k:Nat) (b:Bool),eH (l,p,())=ab ((k:Int),b,())/\k<=l.length/\(b=true->k<l.length)/\(Ord l->Plc l p k b):=by
 obtain⟨k,_,i,w,A⟩:=ab8 l p r s l.length 0 l.length ai ai (cp _);have c:Loop (jK (l,p,())) ((0,len l,()),())=ab (((k:Int),(k:Int),()),()):=w;have a:=λ(h:Ord l)=>A (h.mono p) (λj y n=>ai) (λj y n d=>by have:=aF d;omega);by_cases o:k<l.length
 .obtain⟨x,f⟩:∃x,l[k]?=ab x:=⟨_,ik o⟩;refine⟨k,decide (cmp x p=0),?_,i,λ_=>o,λh=>⟨i,(a h).1,(a h).2,λq=>⟨x,f,VK (iq q)⟩,λq y d e=>?_⟩⟩
  .unfold eH;rw[c,aa];rw[aq o,ae,au f,aa,M9 x p (by have:=(r.at f).1;omega) s,aa];rfl
  .obtain⟨j,n⟩:=bz.1 d;have B:=Na e;rcases P5 j k with g|g|g
   .grind
   .grind
   .have v:=h k j x y g f n;rw[show key y=parts p by unfold key;rw[e]] at v;exact(a h).2 k x (cp _) f v
 .obtain rfl:k=l.length:=ai;refine⟨l.length,false,?_,i,λh=>(by cases h),λh=>⟨i,(a h).1,(a h).2,λh=>(by cases h),λq y d e=>?_⟩⟩
  .unfold eH;rw[c,aa];rw[aw,af]
  .obtain⟨j,n⟩:=bz.1 d;have B:=Na e
   grind
def Dir(l:List Nd)(d:ay)(e:Int):Prop:=(d=[]/\e=0)\/(d≠[]/\(((∀x∈l,x.1≠d)/\e=3)\/∃x∈l,x.1=d/\((x.2.1=2/\e=0)\/(x.2.1≠2/\e=12))))
def aak(l:List Nd)(d:ay)(n:wk l)(o:d.length<=4096):∃e,om (l,d,())=ab (e,())/\(Ord l->Dir l d e):=by
 unfold om;by_cases c:d=[]
 .subst c;exact⟨0,rfl,λ_=>.inl ⟨rfl,rfl⟩⟩
 .rw[bw c,af];obtain⟨k,b,p,s,q,i⟩:=Dh l d n o;rw[p,aa];cases b with
  | false =>
    exact⟨3,rfl,λh=>.inr ⟨c,.inl ⟨(i h).no rfl,rfl⟩⟩⟩
  | true =>
    have r:=q rfl;obtain⟨x,f⟩:∃x,l[k]?=ab x:=⟨_,ik r⟩;rw[aG,af,au f,aa];have j:Ord l->x.1=d:=λh=>by
     obtain⟨y,v,e⟩:=(i h).is rfl
     grind
    by_cases a:x.2.1=2
    .refine⟨0,?_,λh=>.inr ⟨c,.inr ⟨x,eQ f,j h,.inl ⟨a,rfl⟩⟩⟩⟩;rw[aE a];rfl
    .refine⟨12,?_,λh=>.inr ⟨c,.inr ⟨x,eQ f,j h,.inr ⟨a,rfl⟩⟩⟩⟩;rw[show aS x.2.1 2=false by simp[aS,a]];rfl
def Cm(l:List Nd)(p:ay)(d:wk l):(∃(i:Nat) (x:Nd),l[i]?=ab x/\x.1=p/\iy (l,p,())=ab ((i:Int),()))\/((∀x∈l,x.1≠p)/\iy (l,p,())=ab (-1,())):=by
 unfold iy;rcases iK (f:=qz (l,p,())) l (λi=>((0,i,()),())) (λ_ x=>decide (x.1=p)) (λi x=>(1,((i:Int),(i:Int),()),())) ((0:Nat),(0,(l.length:Int),()),()) (by have:=d.1;omega) (λi x a c j=>by
  unfold qz;rw[aq c,ae,au a,aa,tM,j];by_cases h:x.1=p<;>simp[h,ao]) (by unfold qz;dsimp only;rw[aw,af]) with ⟨i,x,a,k,_,h⟩|⟨n,h⟩
 .left;refine⟨i,x,a,iq k,?_⟩;rw[h];rfl
 .right;refine⟨λx a e=>?_,by rw[h];rfl⟩;obtain⟨i,c⟩:=bz.1 a
  grind
def Nb(l:List Nd)(d:ay)(p:wk l):∃b,oo (l,d,())=ab (b,())/\(b=true->d=[]\/∃x∈l,x.1=d/\x.2.1=2)/\(Ord l->b=false->d≠[]/\∀x∈l,x.1=d->x.2.1≠2):=by
 unfold oo;by_cases f:d=[]
 .subst f;rcases Cm l [] p with ⟨i,x,a,c,h⟩|⟨_,h⟩<;>rw[h,aa]<;>exact⟨true,rfl,λ_=>.inl rfl,λ_ h=>by cases h⟩
 .rcases Cm l d p with ⟨i,x,a,c,h⟩|⟨s,h⟩
  .rw[h,aa,bw f,aA,ae];rw[bO ai,ae,au a,aa,aa,aa];refine⟨_,rfl,λn=>.inr ⟨x,eQ a,c,iq n⟩,λq n=>⟨f,λy v o A=>?_⟩⟩;have w:=adp n;obtain⟨j,r⟩:=bz.1 v;have k:key x=key y:=by unfold key;rw[c,o]
   rcases P5 i j with g|g|g
   .have:=q i j x y g a r;rw[k,na] at this;omega
   .grind
   .have:=q j i y x g r a;rw[k,na] at this;omega
  .rw[h,aa,bw f,aA,ae];exact⟨false,rfl,λh=>(by cases h),λ_ _=>⟨f,λx a e=>absurd e (s x a)⟩⟩
structure Valid (l:List Nd):Prop where
 few:l.length<=64
 ord:Ord l
 may:∀x∈l,fY x=true
 up:∀x∈l,(bp x.1).1=[]\/∃y∈l,y.1=(bp x.1).1/\y.2.1=2
def Nc(p:ay):(bp p).1.length<=p.length:=by
 rcases rj p with ⟨_,h⟩|⟨a,b,c,_,h⟩
 .grind
 .grind
def xp{p:ay}(h:(bp p).1≠[]):parts p=parts (bp p).1++[(bp p).2]:=by
 rcases rj p with ⟨_,e⟩|⟨a,b,c,d,e⟩
 .grind
 .rw[e] at h⊢;have f:p≠[]:=by rw[c];simp
  unfold parts;rw[aR f,aR h,c];exact Cf a b d
def Ord.uniq{l:List Nd}(h:Ord l){x y:Nd}(f:x∈l)(k:y∈l)(e:x.1=y.1):x=y:=by
 obtain⟨i,a⟩:=bz.1 f;obtain⟨j,c⟩:=bz.1 k;have d:key x=key y:=by unfold key;rw[e]
 rcases P5 i j with g|g|g
 .have:=h i j x y g a c;rw[d,na] at this;omega
 .grind
 .have:=h j i y x g c a;rw[d,na] at this;omega
def Nf{l:List Nd}(h:∀(k:Nat) (x y:Nd),l[k]?=ab x->l[k+1]?=ab y->cmpL (key x) (key y)<0):Ord l:=by
 have run:∀(d i:Nat) (x y:Nd),l[i]?=ab x->l[i+1+d]?=ab y->cmpL (key x) (key y)<0:=by
  intro d;induction d with
  | zero=>intro i x y c a;exact h i x y c a
  | succ d f =>
    intro i x y c a;have o:=aF a;obtain⟨z,e⟩:∃z,l[i+1+d]?=ab z:=⟨_,ik ai⟩;exact td (f i x z c e) (h (i+1+d) z y e a)
 intro i j x y n c a;exact run (j-i-1) i x y c (by rw[show i+1+(j-i-1)=j by omega];exact a)
def DZ(l:List Nd)(i:Nat)(x:Nd):Bool:=match i with
 | 0=>false
 | k+1=>match l[k]? with
   | some y=>decide (0<=cmpL (key y) (key x))
   | none=>false
def Au{l:List Nd}{k:Nat}{x y:Nd}(a:l[k]?=ab y):DZ l (k+1) x=decide (0<=cmpL (key y) (key x)):=by
 show(match l[k]? with|some y=>decide (0<=cmpL (key y) (key x))|none=>false)=_
 rw[a]
noncomputable def VL(l:List Nd)(d:ay):Int:=match om (l,d,()) with
 | some y=>y.1
 | none=>0
def Ng(l:List Nd)(d:ay)(a:wk l)(c:d.length<=4096):om (l,d,())=ab (VL l d,())/\(Ord l->Dir l d (VL l d)):=by
 obtain⟨e,f,i⟩:=aak l d a c;have:VL l d=e:=by unfold VL;rw[f]
 grind
noncomputable def Jq(l:List Nd)(d:ay):Bool:=match oo (l,d,()) with
 | some y=>y.1
 | none=>false
def Ie(l:List Nd)(d:ay)(a:wk l):oo (l,d,())=ab (Jq l d,())/\(Jq l d=true->d=[]\/∃x∈l,x.1=d/\x.2.1=2)/\(Ord l->Jq l d=false->d≠[]/\∀x∈l,x.1=d->x.2.1≠2):=by
 obtain⟨e,c,f,i⟩:=Nb l d a;have:Jq l d=e:=by unfold Jq;rw[c]
 grind
def QQ{l:List Nd}(h:∀(i:Nat) (x:Nd),l[i]?=ab x->DZ l i x=false):Ord l:=Nf λk x y a c=>by
 have:=h (k+1) y c;rw[Au a] at this
 grind
def QR{l:List Nd}(h:Ord l){i:Nat}{x:Nd}(a:l[i]?=ab x):DZ l i x=false:=by
 cases i with
 | zero=>rfl
 | succ k =>
   have d:=aF a;obtain⟨y,c⟩:∃y,l[k]?=ab y:=⟨_,ik ai⟩;rw[Au c];have:=h k (k+1) y x ai c a
   grind
def ab9{l:List Nd}(h:Ord l){i:Nat}{x y:Nd}(c:l[i]?=ab x)(f:y∈l)(k:(bp x.1).1≠[])(e:y.1=(bp x.1).1):y∈l.take i:=by
 obtain⟨j,a⟩:=bz.1 f;have n:cmpL (key y) (key x)=-1:=by
  unfold key;rw[e,xp k];exact Vd _ _ bb
 rcases vM j i with g|g
 .exact eQ (i:=j) (by rw[jP,aX g];exact a)
 .exfalso;rcases vM i j with d|d
  .have:=td (h i j x y d c a) (show cmpL (key y) (key x)<0 by omega);rw[na] at this;omega
  .obtain rfl:i=j:=ai;rw[c] at a;obtain rfl:=aQ a;rw[na] at n;omega
def mr(l:List Nd)(d:wk l):∃e,eI (l,())=ab (e,())/\(e=0↔Valid l):=by
 unfold eI;have v:ba 64 (len l)=decide (64<l.length):=by unfold ba len;apply gX.2;omega
 rw[v];by_cases D:64<l.length
 .rw[dD D,ae];exact⟨1,rfl,λh=>ai,λh=>by have:=h.few;omega⟩
 .rw[cL D,af];have j:∀{i:Nat} {x:Nd},l[i]?=ab x->(bp x.1).1.length<=4096:=λ{i x} hx=>by have:=(d.at hx).1;have:=Nc x.1;omega
  rcases iK (f:=qy (l,())) l (λi=>((0,i,()),())) (λi x=>!fY x||DZ l i x||decide (VL (l.take i) (bp x.1).1≠0)) (λi x=>(1,(1,(i:Int),()),())) ((0:Nat),(0,(l.length:Int),()),()) (by have:=d.1;omega) (λi x hx q G=>by
   unfold qy;dsimp only;rw[aq q,ae,au hx,aa,qP _ (by have:=(d.at hx).1;omega),aa,aaj _ (by have:=(d.at hx).1;omega),aa];cases L:fY x with
   | false=>rfl
   | true =>
     rw[aG,af];have w:inside 0 (i:Int) (len l)=true:=l8 (a:=0) (qK _) ai;have r:=(Ng (l.take i) (bp x.1).1 (d.take i)<|j hx).1;rw[w,ae,hU,r,aa,G];cases i with
     | zero =>
       rw[aJ bb,af];generalize VL (l.take 0) (bp x.1).1=e;by_cases c:e=0
       .rw[aE c,aG,af];simp[DZ,c]
       .rw[show aS e 0=false by simp[aS,c],aA,ae];simp[DZ,c]
     | succ k =>
       obtain⟨y,n⟩:∃y,l[k]?=ab y:=⟨_,ik ai⟩;rw[aO ai,ae,dL ai ai,show(((k+1:Nat):Int)-1)=(k:Int) by omega,au n,aa,Cg _ _ (by have:=(d.at n).1;omega) (by have:=(d.at hx).1;omega),aa];rw[wj];rw[Au n];unfold key;generalize VL (l.take<|k+1) (bp x.1).1=e;by_cases E:0<=cmpL (parts y.1) (parts x.1)
       .rw[dD E,ae];simp
       .rw[cL E,af];by_cases c:e=0
        .rw[aE c,aG,af];simp[c]
        .rw[show aS e 0=false by simp[aS,c],aA,ae];simp[c]) (by unfold qy;dsimp only;rw[aw,af]) with ⟨i,x,hx,H,_,h⟩|⟨M,h⟩
  .rw[h,aa,fv,af];refine⟨1,rfl,λh=>ai,λp=>?_⟩;rw[p.may x<|eQ hx,QR p.ord hx] at H;have hd:=(Ng (l.take i) (bp x.1).1 (d.take i)<|j hx).2 (p.ord.take i);rcases hd with ⟨_,e⟩|⟨A,hd⟩
   .grind
   .rcases p.up x (eQ hx) with N|⟨y,n,o,B⟩
    .grind
    .have I:=ab9 p.ord hx n A o;rcases hd with ⟨J,_⟩|⟨z,c,C,⟨_,e⟩|⟨K,_⟩⟩
     .grind
     .grind
     .have:=p.ord.uniq (JI c) n (by rw[C,o])
      grind
  .rw[h,aa,b9,ae];have s:∀(i:Nat) (x:Nd),l[i]?=ab x->fY x=true/\DZ l i x=false/\VL (l.take i) (bp x.1).1=0:=λi x hx=>by
    grind
   have F:Ord l:=QQ λi x hx=>(s i x hx).2.1;refine⟨0,rfl,λ_=>⟨ai,F,λx hx=>?_,λx hx=>?_⟩,λ_=>rfl⟩
   .obtain⟨i,q⟩:=bz.1 hx
    grind
   .obtain⟨i,q⟩:=bz.1 hx;have hd:=(Ng (l.take i) (bp x.1).1 (d.take i)<|j q).2 (F.take i);rw[(s i x q).2.2] at hd;rcases hd with ⟨e,_⟩|⟨_,⟨_,e⟩|⟨y,n,o,⟨B,_⟩|⟨_,e⟩⟩⟩
    .grind
    .omega
    .grind
    .omega
def tk(l:List Nd)(c:wk l):∃b,mg (l,())=ab (b,())/\(b=true↔Valid l):=by
 unfold mg;have o:ba 64 (len l)=decide (64<l.length):=by unfold ba len;apply gX.2;omega
 rw[o];by_cases q:64<l.length
 .rw[dD q,ae];exact⟨false,rfl,λh=>(by cases h),λh=>by have:=h.few;omega⟩
 .rw[cL q,af];rcases iK (f:=tY (l,())) l (λi=>((false,i,()),())) (λi x=>!fY x||!Jq l (bp x.1).1||DZ l i x) (λi x=>(1,(false,(i:Int),()),())) ((0:Nat),(false,(l.length:Int),()),()) (by have:=c.1;omega) (λi x a e s=>by
   unfold tY;dsimp only;rw[aq e,ae,au a,aa,vV _ (by have:=(c.at a).1;omega),aa,aa,yi _ (by have:=(c.at a).1;omega) (by have:=(c.at a).2.1;omega),aa];cases A:fY x with
   | false=>rfl
   | true =>
     rw[aG,af,(Ie l (bp x.1).1 c).1,aa];cases B:Jq l (bp x.1).1 with
     | false=>rfl
     | true =>
       rw[aG,af,s];cases i with
       | zero=>rw[aJ bb,af];simp[DZ]
       | succ k =>
         obtain⟨y,j⟩:∃y,l[k]?=ab y:=⟨_,ik ai⟩;rw[aO ai,ae,dL ai ai,show(((k+1:Nat):Int)-1)=(k:Int) by omega,au j,aa,aa,Ch _ _ (by have:=(c.at j).1;omega) (by have:=(c.at a).1;omega),aa];rw[wj];rw[Au j];unfold key;by_cases r:0<=cmpL (parts y.1) (parts x.1)
         .rw[dD r,ae];simp
         .rw[cL r,af];simp) (by unfold tY;dsimp only;rw[aw,af]) with ⟨i,x,a,p,_,h⟩|⟨C,h⟩
  .rw[h,aa,fv,af];refine⟨false,rfl,λh=>(by cases h),λn=>?_⟩;rw[n.may x<|eQ a,QR n.ord a] at p;simp only[Bool.not_true,Lm,adB,zP] at p;obtain⟨D,E⟩:=(Ie l (bp x.1).1 c).2.2 n.ord p;rcases n.up x (eQ a) with F|⟨y,j,v,w⟩
   .grind
   .grind
  .rw[h,aa,b9,ae];have d:∀(i:Nat) (x:Nd),l[i]?=ab x->fY x=true/\Jq l (bp x.1).1=true/\DZ l i x=false:=λi x a=>by
    grind
   refine⟨true,rfl,λ_=>⟨ai,QQ λi x a=>(d i x a).2.2,λx a=>?_,λx a=>?_⟩,λ_=>rfl⟩
   .obtain⟨i,e⟩:=bz.1 a
    grind
   .obtain⟨i,e⟩:=bz.1 a;exact(Ie l (bp x.1).1 c).2.1 (d i x e).2.1
def takeWhile_eq{c:Type}{P:c->Bool}:∀{l:List c} {k:Nat},k<=l.length->(∀(j:Nat) (y:c),j<k->l[j]?=ab y->P y=true)->(∀y,l[k]?=ab y->P y=false)->l.takeWhile P=l.take k/\l.dropWhile P=l.drop k:=by
 intro l;induction l with
 | nil=>intro k e _ _;simp
 | cons a r n =>
   intro k e f i;cases k with
   | zero =>
     have:=i a rfl;simp[TO,Ov,this]
   | succ k =>
     have o:=f 0 a ai rfl;obtain⟨p,q⟩:=n (k:=k) (by simpa using e) (λj y s d=>f (j+1) y ai d) (λy d=>i y d);simp[TO,Ov,o,p,q]
def GM{c S R:Type}{f:S->Option (S⊕R)}(l:List c)(a:c->Bool)(i:Int->Int->List c->S)(k:Int->List c->R)(G:l.length<=4294967296)
  (d:∀(w j:Nat) (L:List c) (x:c),l[j]?=ab x->L[j]?=ab x->w<=j->j<L.length->aH .i64 (w:Int) 1=((w+1:Nat):Int)->aH .i64 (j:Int) 1=((j+1:Nat):Int) ->
   f (i (w:Int) (j:Int) L)=ab (.inl<|if a x=true then i (w:Int) ((j+1:Nat):Int) L else i ((w+1:Nat):Int) ((j+1:Nat):Int) (L.set w x)))
  (o:∀(w:Nat) (L:List c),f (i (w:Int) (L.length:Int) L)=ab (.inr<|k (w:Int) L)) :
  ∀(n w j:Nat) (L:List c),l.length-j<=n->w<=j->j<=l.length->L.length=l.length->L.take w=(l.take j).filter (λx=>!a x)->L.drop j=l.drop j ->
   ∃(w':Nat) (L':List c),Loop f (i (w:Int) (j:Int) L)=ab (k (w':Int) L')/\L'.length=l.length/\w'<=l.length/\L'.take w'=l.filter (λx=>!a x):=by
 intro n;induction n with
 | zero =>
   intro w j L E y D e p s;obtain rfl:j=L.length:=ai;refine⟨w,L,?_,e,ai,?_⟩
   .rw[aT,o];rfl
   .rw[p,e,Es]
 | succ n A =>
   intro w j L E y D e p s;by_cases F:j=l.length
   .exact A w j L ai y D e p s
   .have B:j<L.length:=ai;have hx:l[j]?=ab l[j]:=ik ai;have C:L[j]?=ab l[j]:=by
     have:=congrArg (λz=>z[0]?) s;simpa [sY,hx] using this
    have q:L.drop (j+1)=l.drop (j+1):=by
     have:=congrArg (List.drop 1) s;simpa [yy] using this
    have r:l.take (j+1)=l.take j++[l[j]]:=by rw[Er,hx];rfl
    rw[aT,d w j L l[j] hx C y B (aL ai) (aL ai)];by_cases v:a l[j]=true
    .rw[aX v];exact A w (j+1) L ai ai ai e (by rw[p,r,Lj];simp[v]) q
    .rw[aR v];refine A (w+1) (j+1) (L.set w l[j]) ai ai ai (by simpa using e) ?_ ?_
     .rw[r,Lj,<-p,Er,List.take_set_of_le (cp w)];simp[v,show w<L.length by omega]
     .rw[List.drop_set_of_lt ai];exact q
def Cn{a:Type}(L:List a)(w:Nat)(c:w<=L.length)(m:List a):sub (over L (w:Int) m) 0 (minus (w:Int) 0)=L.take w:=by
 rw[hU];unfold over;rw[qJ,uw,ac6 (by rw[kC];omega),IL,adG]
def GN{a:Type}(L:List a)(w:Nat)(c:w<=L.length)(z:a):len (over L (w:Int)<|kj (minus (len L) (w:Int)) z)=(L.length:Int):=by
 unfold over kj minus len;simp;omega
def filter_one{c:Type}{l:List c}{P:c->Bool}{k:Nat}{x:c}(f:l[k]?=ab x)(i:P x=false)(h:∀(j:Nat) (y:c),j≠k->l[j]?=ab y->P y=true):l.filter P=l.take k++l.drop (k+1):=by
 have n:=aF f;have e:l=l.take k++x::l.drop (k+1):=by
  conv=>lhs;rw[<-BI k l,y8 n]
  rw[(hR.1 f).2]
 conv=>lhs;rw[e]
 rw[Lj,List.filter_cons,i];have o:(l.take k).filter P=l.take k:=Hj.2 λy d=>by
  obtain⟨j,a⟩:=bz.1 d;rw[jP] at a;split at a
  .exact h j y ai a
  .cases a
 have p:(l.drop<|k+1).filter P=l.drop (k+1):=Hj.2 λy d=>by
  obtain⟨j,a⟩:=bz.1 d;rw[sY] at a;exact h (k+1+j) y ai a
 rw[o,p];simp
def uT(l:List Nd)(n:Nd):List Nd:=l.takeWhile (λx=>decide (cmp x n.1<0))++n::l.dropWhile (λx=>decide (cmp x n.1<0))
def gone(p:ay)(x:Nd):Bool:=decide (x.1=p)||du (parts x.1) (parts p)
def pH(l:List Nd)(p:ay):List Nd:=l.filter λx=>!gone p x
def Ord.filter{l:List Nd}(h:Ord l)(P:Nd->Bool):Ord (l.filter P):=by
 have d:l.Pairwise λx y=>cmpL (key x) (key y)<0:=by
  rw[Dr];intro i j e f a;exact h i j _ _ a (ik e) (ik f)
 have c:=d.filter P;rw[Dr] at c;intro i j x y a k n;obtain⟨o,p⟩:=hR.1 k;obtain⟨q,r⟩:=hR.1 n;rw[<-p,<-r];exact c i j o q a
def wk.filter{l:List Nd}(h:wk l)(P:Nd->Bool):wk (l.filter P):=⟨iU (TU _ _) h.1,λx a=>h.2 x (y9.1 a).1⟩
def aho{l:List Nd}{n:Nd}{k:Nat}{b:Bool}(h:Plc l n.1 k b):uT l n=l.take k++[n]++l.drop k:=by
 obtain⟨c,d⟩:=takeWhile_eq (P:=λx=>decide (cmp x n.1<0)) h.le (λj y e a=>dD (h.lo j y e a)) (λy a=>cL (h.hi k y (cp _) a));unfold uT;rw[c,d];simp
def Nh{l:List Nd}(r:Valid l){p:ay}(B:p≠[])(C:∀x∈l,x.1≠p):∀(m:Nat) (x:Nd),x∈l->(parts x.1).length<=m->du (parts x.1) (parts p)=false:=by
 intro m;induction m with
 | zero =>
   intro x j k;unfold du;exact cL ai
 | succ m D =>
   intro x j k;cases s:du (parts x.1) (parts p) with
   | false=>rfl
   | true =>
     exfalso;unfold du at s;obtain⟨v,i⟩:=iq s;have c:=r.may x j;unfold fY xo at c;simp only[gy,uv] at c;by_cases d:(bp x.1).1=[]
     .have f:=c.1.1.1.1.1.1.1.2;have w:(parts x.1).length<=1:=by
       rcases rj x.1 with ⟨a,_⟩|⟨a,b,E,H,e⟩
       .unfold parts;split
        .simp
        .rw[pc _ a];simp
       .rw[e] at d;have d:a=[]:=d;subst d;have:sI []=true:=vL.1 f [] (by
         unfold parts;rw[E,aR bb];show []∈cC ([]++47::b)
         rw[ET [] bb];simp)
        exact absurd this aK
      have:parts p=[]:=zN.1 ai;have:=fV p;rw[‹parts p=[]›] at this;exact B this.symm
     .have n:=xp d;rcases r.up x j with e|⟨y,A,o,F⟩
      .exact absurd e d
      .rw[<-o] at n;rw[n] at v i;have q:(parts p).length<=(parts y.1).length:=by simp at v;omega
       rw[ac6 q] at i;rcases vM (parts p).length (parts y.1).length with g|g
       .have:=D y A (by rw[n] at k;simp at k;omega);unfold du at this;exact absurd ⟨g,i⟩ (adp this)
       .have G:parts p=parts y.1:=by rw[<-i,Hi ai]
        refine C y A ?_;rw[<-fV y.1,<-G,fV]
def YF{l:List Nd}(d:Valid l){p:ay}(e:p≠[])(a:∀x∈l,x.1≠p):pH l p=l:=Hj.2 λx c=>by
 unfold gone;rw[Nh d e a _ x c<|cp _,cL (a x c)];rfl
open Classical in
noncomputable def bK(l:List Nd)(n:Nd):List Nd×Int :=
 if ¬Valid l\/fY n=false then([],1) else
 if(bp n.1).1≠[]/\∀x∈l,x.1≠(bp n.1).1 then([],3) else
 if(bp n.1).1≠[]/\∀x∈l,x.1=(bp n.1).1->x.2.1≠2 then([],12) else
 let r:=if(∃x∈l,x.1=n.1/\x.2.1=2)/\n.2.1=2 then l.filter (λx=>!decide (x.1=n.1)) else pH l n.1
 if 64<=r.length then([],5) else(uT r n,0)
def aal{n:Nd}(h:fY n=true):n.1≠[]:=by
 unfold fY xo at h
 grind
def ahp(l:List Nd)(k:Nat)(n:Nd)(c:k<=l.length)(e:l.length<=4096):aZ l ((k:Int),[n],())=ab (l.take k++[n]++l.drop k):=by
 unfold aZ uJ;have d:inside 0 (k:Int) (len l)=true:=l8 (a:=0) (qK _) c;rw[d,bo jA];simp
def VM(r:List Nd)(n:Nd)(a:wk r)(d:Ord r)(l:n.1.length<=200)(c:Int)(e:c=r.length) :
  ao (cu 64 c) (ab (([]:List Nd),(5:Int),())) (ag (eH (r,n.1,())) λ(y:Int×Bool×al)=>ag (aZ r (y.1,[n],())) λz=>ab (z,(0:Int),())) =
   ab (if 64<=r.length then([],5,()) else(uT r n,0,())):=by
 subst e;rw[wj];by_cases h:64<=r.length
 .rw[dD ai,ae,aX h]
 .rw[cL ai,af,aR h];obtain⟨k,b,f,i,o,j⟩:=Dh r n.1 a ai;rw[f,aa];rw[ahp r k n i a.1,aa,aho (j d)]
def VN(x:Nd)(p:ay)(a:x.1.length<=200)(c:p.length<=200):ao (nt<|bH x.1 p) (ag (dE (x.1,p,())) λ(y:Bool×al)=>ab y.1) (ab true)=ab (gone p x):=by
 rw[zw _ _ ai ai,aa,tM];unfold gone;cases decide (x.1=p)<;>rfl
def aca(l:List Nd)(n:Nd)(a:wk l)(d:n.1.length<=200):(∃i x,l[i]?=ab x/\gone n.1 x=true/\(∀(j:Nat) y,j<i->l[j]?=ab y->gone n.1 y=false)/\Loop (ni (l,n,())) ((0,0,()),(),n.1,())=ab (1,((i:Int),(i:Int),()),(),n.1,())) \/
  ((∀(i:Nat) x,l[i]?=ab x->gone n.1 x=false)/\Loop (ni (l,n,())) ((0,0,()),(),n.1,())=ab (0,(0,(l.length:Int),()),(),n.1,())) :=
 iK (f:=ni (l,n,())) l (λi=>((0,i,()),(),n.1,())) (λ_ x=>gone n.1 x) (λi x=>(1,((i:Int),(i:Int),()),(),n.1,())) (0,(0,(l.length:Int),()),(),n.1,()) (by have:=a.1;omega) (λi x c e k=>by
  unfold ni;dsimp only;rw[aq e,ae,aM ai fi,ae,au c,aa,VN _ _ (a.at c).1 d,aa,k];cases gone n.1 x<;>rfl) (by unfold ni;dsimp only;rw[aw,af])
def acb(l:List Nd)(n:Nd)(k:wk l)(s:n.1.length<=200)(i:Nat)(x:Nd)(a:l[i]?=ab x)(E:gone n.1 x=true)(o:∀(j:Nat) y,j<i->l[j]?=ab y->gone n.1 y=false) :
  ∃(w:Nat) (L:List Nd),Loop (p4) (((i:Int),aH IntKind.i64 (i:Int) 1,(),()),(),n.1,l,())=ab (((w:Int),(l.length:Int),(),()),(),n.1,L,())/\L.length=l.length/\w<=l.length/\L.take w=pH l n.1:=by
 have hi:=aF a;have F:=k.1;have c:l.take i=(l.take<|i+1).filter (λx=>!gone n.1 x):=by
  rw[Er,a,Lj];have p:(l.take i).filter (λx=>!gone n.1 x)=l.take i:=Hj.2 λy v=>by
   obtain⟨j,q⟩:=bz.1 v
   grind
  grind
 obtain⟨w,L,p,r,A,B⟩:=GM (f:=p4) l (gone n.1) (λw j L=>((w,j,(),()),(),n.1,L,())) (λw L=>((w,(L.length:Int),(),()),(),n.1,L,())) ai (λw j L x a d G q C o=>by
  unfold p4;dsimp only;have e:w<L.length:=ai;obtain⟨z,D⟩:∃z,L[w]?=ab z:=⟨_,ik e⟩;rw[aq q,ae,aM ai fi,ae,au d,aa,VN _ _ (k.at a).1 s,aa,o];cases gone n.1 x with
  | true=>rfl
  | false =>
    rw[aA,ae,aM ai fi,ae,au D,aa,aa,aa,aa,C,uK];rfl) (λw L=>by
  unfold p4;rw[aw,af];rfl) l.length i (i+1) l ai ai ai rfl c rfl
 refine⟨w,L,?_,r,A,B⟩;rw[aL ai,p,r]
def VO{l:List Nd}(o:Ord l){n x:Nd}{k:Nat}(f:l[k]?=ab x)(e:x.1=n.1):l.filter (λx=>!decide (x.1=n.1))=l.take k++l.drop (k+1)/\uT (l.take k++l.drop (k+1)) n=l.take k++[n]++l.drop (k+1):=by
 have w:=aF f;have c:key x=parts n.1:=by unfold key;rw[e]
 have p:∀(j:Nat) (y:Nd),j<k->l[j]?=ab y->cmp y n.1<0:=λj y d a=>by
  have:=o j k y x d a f;rw[c] at this;exact this
 have q:∀(j:Nat) (y:Nd),k<j->l[j]?=ab y->¬cmp y n.1<0:=λj y d a v=>by
  have:=o k j x y d f a;rw[c] at this;have:=td this v;rw[na] at this;omega
 have i:(l.take k).length=k:=by rw[kC];omega
 constructor
 .refine filter_one f (by rw[dD e];rfl) λj y d a=>?_;rw[cL];rfl;intro s;have A:=Na s;rcases vM j k with g|g
  .grind
  .have r:key x=key y:=by rw[c];unfold key;rw[s]
   have:=o k j x y ai f a;rw[r,na] at this;omega
 .obtain⟨B,C⟩:=takeWhile_eq (l:=l.take k++l.drop (k+1)) (k:=k) (P:=λx=>decide (cmp x n.1<0)) (by rw[jB,i];omega) (λj y d a=>by
   rw[WZ ai,jP,aX d] at a;exact dD (p j y d a)) (λy a=>by
   rw[aaP ai,i,Nat.sub_self,sY] at a;exact cL (q _ y ai a))
  unfold uT
  grind
def acd{a:Type}{l:List a}{k:Nat}(c:k<l.length)(n:a):l.set k n=l.take k++[n]++l.drop (k+1):=by
 rw[ah5,aX c];simp
def Jr(l:List Nd)(n:Nd)(f:wk l)(K:Sm n):tf (l,n,())=ab ((bK l n).1,(bK l n).2,()):=by
 obtain⟨e,M,H⟩:=mr l f;have o:=K.1;unfold tf;dsimp only;rw[M,aa,aaj n ai,aa];by_cases a:¬Valid l\/fY n=false
 .have q:bK l n=([],1):=by unfold bK;rw[aX a]
  rw[q];have:ao (nt<|nt<|aS e 0) (ab<|nt<|fY n) (ab true)=ab true:=by
   rcases a with h|h
   .rw[show aS e 0=false by unfold aS;exact cL λs=>h (H.1 s)];rfl
   .rw[h];cases nt (nt<|aS e 0)<;>rfl
  rw[this,aa,ae]
 .have hv:Valid l:=by
   grind
  have N:fY n=true:=by
   grind
  obtain rfl:=H.2 hv;rw[N];have:ao (nt<|nt<|aS 0 0) (ab<|nt true) (ab true)=ab false:=rfl;rw[this,aa,af,qP _ ai,aa];obtain⟨d,O,P⟩:=aak l (bp n.1).1 f (by have:=Nc n.1;omega);rw[O,aa];by_cases E:(¬((bp n.1).1≠[]/\∀x∈l,x.1≠(bp n.1).1))/\(¬((bp n.1).1≠[]/\∀x∈l,x.1=(bp n.1).1->x.2.1≠2))/\d=0
  .obtain⟨Q,R,F⟩:=E;subst F;have q:bK l n=(let r:=if(∃x∈l,x.1=n.1/\x.2.1=2)/\n.2.1=2 then l.filter (λx=>!decide (x.1=n.1)) else pH l n.1
     if 64<=r.length then([],5) else(uT r n,0)):=by
    unfold bK;rw[aR a,aR Q,aR R]
   rw[show nt (aS 0 0)=false by rfl,af];obtain⟨k,b,S,p2,p3,T⟩:=Dh l n.1 f ai;have p:=T hv.ord;rw[S,aa];obtain⟨C,U,V⟩:∃C,ao b (ag (idx l (k:Int)) λ(y:Nd)=>ab (aS y.2.1 2)) (ab false)=ab C/\(ao C (aS n.2.1 2) false=true↔((∃x∈l,x.1=n.1/\x.2.1=2)/\n.2.1=2)):=by
    cases b with
    | false =>
      refine⟨false,rfl,?_⟩;exact⟨λh=>(by cases h),λ⟨⟨x,hx,e,_⟩,_⟩=>absurd e (p.no rfl x hx)⟩
    | true =>
      obtain⟨x,hx,e⟩:=p.is rfl;refine⟨aS x.2.1 2,by rw[ae,au hx,aa],?_⟩;rw[jv,gy];unfold aS;rw[uv,uv];refine⟨λh=>⟨⟨x,eQ hx,e,h.1⟩,h.2⟩,λ⟨⟨y,hy,W,X⟩,h2⟩=>?_⟩;have:=hv.ord.uniq (eQ hx) hy (by rw[e,W])
      grind
   rw[U,aa];by_cases c:(∃x∈l,x.1=n.1/\x.2.1=2)/\n.2.1=2
   .rw[V.2 c,ae];have D:b=true:=by
     cases b with
     | true=>rfl
     | false=>obtain⟨⟨x,hx,e,_⟩,_⟩:=c;exact absurd e (p.no rfl x hx)
    obtain⟨x,hx,e⟩:=p.is D;have Y:=aF hx;rw[cN (by have:=f.1;omega),ae,aM ai fi,ae,au hx,aa,aa,aa,uK];obtain⟨Z,s2⟩:=VO hv.ord hx e;have I:=hv.few;rw[aX c,Z] at q;have G:¬64<=(l.take k++l.drop (k+1)).length:=jA;rw[q];simp only[G,if_false];rw[s2,acd Y]
   .have hs:ao C (aS n.2.1 2) false=false:=by
     grind
    rw[hs,af,aa];rw[show nt (aS 0 0)=false by rfl,af,cN (by have:=f.1;omega),ae];rcases aca l n f o with ⟨i,x,hx,E,D,h⟩|⟨D,h⟩
    .obtain⟨w,L,w1,w2,w3,J⟩:=acb l n f o i x hx E D;rw[h,aa];rw[fv,af,show aS (i:Int) (-1)=false by unfold aS;exact cL ai,af,w1,aa];dsimp only;rw[aV ai fi<|sF _,ae,GN L w ai,aV (sF _) ai ai,ae,Cn L w ai,J];have hlen:(pH l n.1).length=w:=by rw[<-J,kC];omega
     refine za (VM (pH l n.1) n (f.filter _) (hv.ord.filter _) o (minus (w:Int) 0)<|by rw[hlen];unfold minus;omega) ?_
     grind
    .have hr:pH l n.1=l:=Hj.2 λx hx=>by
      obtain⟨j,hj⟩:=bz.1 hx
      grind
     rw[h,aa];rw[b9,ae,show aS (-1) (-1)=true by rfl,ae];have tv:=VM l n f hv.ord o (len l) rfl
     grind
  .rcases P hv.ord with ⟨s,v⟩|⟨s,⟨c,v⟩|⟨x,hx,A,⟨B,v⟩|⟨B,v⟩⟩⟩
   .grind
   .subst v;have q:bK l n=([],3):=by unfold bK;rw[aR a,aX ⟨s,c⟩]
    rw[q];rfl
   .grind
   .subst v;have q:bK l n=([],12):=by
     unfold bK;rw[aR a,aR (λh=>h.2 x hx A),aX ⟨s,λy hy e=>by
      have:=hv.ord.uniq hx hy (by rw[A,e]);subst this;exact B⟩]
    rw[q];rfl
def ib(l:List Nd)(p:ay)(b:Bool):List Nd:=l.filter λx=>!du (parts x.1) (parts p)&&(!b||!decide (x.1=p))
def Co(l:List Nd)(p:ay)(b:Bool)(d:wk l)(j:p.length<=4096):jL (l,p,b,())=ab (ib l p b,()):=by
 unfold jL;have q:=d.1;have c:∀m:List Nd,m.flatMap (λx=>if(!du (parts x.1) (parts p)&&(!b||!decide (x.1=p)))=true then [x] else [])=ib m p b:=by
  intro m;unfold ib;induction m with
  | nil=>rfl
  | cons a r s =>
    grind
 have h:=rT (f:=jh (l,p,b,())) l (λa i=>(((),i,()),a,())) (λx=>if(!du (parts x.1) (parts p)&&(!b||!decide (x.1=p)))=true then [x] else []) (((),(l.length:Int),()),ib l p b,()) ai (λi x e k n=>by
  unfold jh;have hlen:((l.take i).flatMap λx=>if(!du (parts x.1) (parts p)&&(!b||!decide (x.1=p)))=true then [x] else []).length<=4096:=by
   rw[c];unfold ib
   grind
  rw[aq k,ae,au e,aa,SH _ _ (by have:=(d.at e).1;omega) j,aa,aa,aa,n,bo (by simp only[Fo];omega)];rw[tM];cases du (parts x.1) (parts p)<;>cases b<;>cases decide (x.1=p)<;>simp[ao,nt,ag,dq,app]) (by
  unfold jh;rw[aw,af,c];rfl)
 have o:Loop (jh (l,p,b,())) (((),(0:Int),()),([]:List Nd),())=ab (((),(l.length:Int),()),ib l p b,()):=h;rw[o,aa]
def Pj(l:List Nd)(p:ay):ib l p true=pH l p:=by
 unfold ib pH
 congr 1
 funext x;unfold gone
 grind
def VP(l r:List Nd)(n:Nd)(e:wk r)(o:n.1.length<=200):∃k:Nat,k<=r.length/\Loop (lC (l,n,()) ((r,()),())) (((0:Int),()),())=ab (((k:Int),()),())/\uT r n=r.take k++[n]++r.drop k:=by
 have B:=e.1;rcases iK (f:=lC (l,n,()) ((r,()),())) r (λi=>((i,()),())) (λ_ x=>!decide (cmp x n.1<0)) (λi _=>(((i:Int),()),())) (((r.length:Int),()),()) ai (λi x c p q=>by
  unfold lC;dsimp only;rw[aq p,ae,au c,aa,Ch _ _ (by have:=(e.at c).1;omega) ai,aa,q];unfold cmp ba;cases decide (cmpL (parts x.1) (parts n.1)<0)<;>rfl) (by
  unfold lC;rw[aw,af];rfl) with ⟨i,x,c,s,v,h⟩|⟨o,h⟩
 .refine⟨i,by have:=aF c;omega,h,?_⟩;obtain⟨w,A⟩:=takeWhile_eq (l:=r) (k:=i) (P:=λx=>decide (cmp x n.1<0)) (by have:=aF c;omega) (λj y d a=>by
   have:=v j y d a;simpa using this) (λy a=>by
   rw[c] at a;obtain rfl:=aQ a;simpa using s)
  unfold uT
  grind
 .refine⟨r.length,cp _,h,?_⟩;obtain⟨w,A⟩:=takeWhile_eq (l:=r) (k:=r.length) (P:=λx=>decide (cmp x n.1<0)) (cp _) (λj y d a=>by
   have:=o j y a;simpa using this) (λy a=>by
   have:=aF a;omega)
  unfold uT
  grind
def Cp(l r:List Nd)(n:Nd)(e:wk r)(f:n.1.length<=200) :
  ao (cu 64<|len r) (ab (([]:List Nd),(5:Int),())) (ag (Loop (lC (l,n,()) ((r,()),())) (((0:Int),()),())) λ(c:(Int×al)×al)=>ao (inside 0 c.1.1<|len r)
   (ao (fits<|plus (len ([]:List Nd))<|len<|sub r 0<|minus c.1.1 0)
   (ao (fits<|plus (len<|app ([]:List Nd)<|sub r 0<|minus c.1.1 0)<|len [n])
   (ao (inside c.1.1 (len r)<|len r)
   (ao (fits<|plus (len<|app (app ([]:List Nd)<|sub r 0<|minus c.1.1 0) [n])<|len<|sub r c.1.1<|minus (len r) c.1.1)
   (ab (app (app (app ([]:List Nd)<|sub r 0<|minus c.1.1 0) [n])<|sub r c.1.1<|minus (len r) c.1.1,(0:Int),()))
   ah) ah) ah) ah) ah)=ab (if 64<=r.length then([],5,()) else(uT r n,0,())):=by
 rw[wj];by_cases h:64<=r.length
 .rw[dD fi,ae,aX h]
 .rw[cL fi,af,aR h];obtain⟨k,d,i,j⟩:=VP l r n e f;rw[i,aa];have o:inside 0 (k:Int) (len r)=true:=l8 (a:=0) (qK _) d;have p:inside (k:Int) (len r) (len r)=true:=aV ai fi (sF _);rw[o,ae,hU,mC r k d,p];have q:fits (plus (len ([]:List Nd))<|len<|r.take k)=true:=bo (by rw[kC];simp;omega);have s:fits (plus (len<|app ([]:List Nd)<|r.take k)<|len [n])=true:=bo (by rw[vf,Bx,kC];simp;omega);have v:fits (plus (len<|app (app ([]:List Nd)<|r.take k) [n])<|len<|r.drop k)=true:=bo (by rw[vf,vf,Bx,jB,kC,pP];simp;omega);rw[q,s,v,ae,ae,ae,ae,j];rfl
def Cq(l:List Nd)(n:Nd)(k:wk l)(J:Sm n):oq (l,n,())=ab ((bK l n).1,(bK l n).2,()):=by
 obtain⟨e,N,K⟩:=tk l k;have s:=J.1;have Y:=k.1;unfold oq;dsimp only;rw[N,aa,yi n ai (by have:=J.2.1;omega),aa];by_cases f:¬Valid l\/fY n=false
 .have o:bK l n=([],1):=by unfold bK;rw[aX f]
  rw[o];have:ao (nt<|nt e) (ab<|nt<|fY n) (ab true)=ab true:=by
   rcases f with h|h
   .rw[show e=false by
     cases e with
     | false=>rfl
     | true=>exact absurd (K.1 rfl) h]
    rfl
   .rw[h];cases nt (nt e)<;>rfl
  rw[this,aa,ae]
 .have hv:Valid l:=by
   grind
  have L:fY n=true:=by
   grind
  obtain rfl:=K.2 hv;rw[L];have:ao (nt<|nt true) (ab<|nt true) (ab true)=ab false:=rfl;rw[this,aa,af,vV _ ai,aa];obtain⟨w,O,P⟩:∃w,ao (nt<|bH (bp n.1).1 []) (ag (iy (l,(bp n.1).1,())) λ(y:Int×al)=>ab (ba y.1 0)) (ab false)=ab w/\(w=true↔((bp n.1).1≠[]/\∀x∈l,x.1≠(bp n.1).1)):=by
   by_cases A:(bp n.1).1=[]
   .refine⟨false,by rw[A];rfl,λh=>(by cases h),λh=>absurd A h.1⟩
   .rw[bw A,aA,ae];rcases Cm l (bp n.1).1 k with ⟨i,x,v,j,h⟩|⟨p,h⟩
    .refine⟨false,by rw[h,aa,aJ ai],λh=>(by cases h),λh=>absurd j (h.2 x<|eQ v)⟩
    .exact⟨true,by rw[h,aa];rfl,λ_=>⟨A,p⟩,λ_=>rfl⟩
  rw[O,aa];by_cases B:(bp n.1).1≠[]/\∀x∈l,x.1≠(bp n.1).1
  .have o:bK l n=([],3):=by unfold bK;rw[aR f,aX B]
   rw[P.2 B,o];rfl
  .have:w=false:=by
    grind
   rw[this,af];obtain⟨d,Q,Z,R⟩:=Nb l (bp n.1).1 k;rw[Q,aa];by_cases C:(bp n.1).1≠[]/\∀x∈l,x.1=(bp n.1).1->x.2.1≠2
   .have o:bK l n=([],12):=by unfold bK;rw[aR f,aR B,aX C]
    have:d=false:=by
     grind
    rw[this,o];rfl
   .have:d=true:=by
     cases d with
     | true=>rfl
     | false=>exact absurd (R hv.ord rfl) C
    rw[this,show nt true=false by rfl,af];have o:bK l n=(let r:=if(∃x∈l,x.1=n.1/\x.2.1=2)/\n.2.1=2 then l.filter (λx=>!decide (x.1=n.1)) else pH l n.1
      if 64<=r.length then([],5) else(uT r n,0)):=by
     unfold bK;rw[aR f,aR B,aR C]
    rcases Cm l n.1 k with ⟨i,x,v,j,h⟩|⟨p,h⟩
    .have hi:=aF v;have q:=eQ v;rw[h,aa];rw[bO ai,ae,au v,aa,aa];by_cases c:x.2.1=2/\n.2.1=2
     .obtain⟨M,s2⟩:=VO hv.ord v j;rw[aX<|show((∃x∈l,x.1=n.1/\x.2.1=2)/\n.2.1=2) from⟨⟨x,q,j,c.1⟩,c.2⟩,M] at o;have S:inside 0 (i:Int) (len l)=true:=l8 (a:=0) (qK _) ai;have T:inside ((i+1:Nat):Int) (len l) (len l)=true:=aV ai fi (sF _);rw[aE c.1,aE c.2,ae,ae,S,ae,hU,aL ai,T,mC l (i+1) ai];have U:fits (plus (len ([]:List Nd))<|len<|l.take i)=true:=bo (by rw[kC];simp;omega);have V:fits (plus (len<|app ([]:List Nd)<|l.take i)<|len<|l.drop<|i+1)=true:=bo (by rw[vf,Bx,kC,pP];omega);rw[U,V,ae,ae,ae,aa];have W:wk (l.take i++l.drop (i+1)):=by rw[<-M];exact k.filter _
      refine za (Cp l (l.take i++l.drop (i+1)) n W s) ?_
      grind
     .have X:ao (aS x.2.1 2) (aS n.2.1 2) false=false:=by
       unfold aS;by_cases D:x.2.1=2
       .rw[dD D,ae];exact cL λE=>c ⟨D,E⟩
       .rw[cL D,af]
      rw[aR (show ¬((∃x∈l,x.1=n.1/\x.2.1=2)/\n.2.1=2) from λh=>by
       obtain⟨⟨y,F,G,H⟩,E⟩:=h;have:=hv.ord.uniq q F (by rw[j,G]);subst this;exact c ⟨H,E⟩)] at o
      rw[X,af,Co l n.1 true k ai,Pj];refine za (Cp l (pH l n.1) n (k.filter _) s) ?_
      grind
    .have I:¬((∃x∈l,x.1=n.1/\x.2.1=2)/\n.2.1=2):=λ⟨⟨y,F,G,_⟩,_⟩=>p y F G;rw[aR I,YF hv (aal L) p] at o;rw[h,aa];refine za (Cp l l n k s) ?_
     grind
def afh:Nd:=([],0,0,[],[],())
def findF(l:List Nd)(p:ay):Nd×Bool×al:=match l.find? λx=>decide (x.1=p) with
 | some x=>(x,true,())
 | none=>(afh,false,())
def Ni{l:List Nd}{p:ay}(h:∀x∈l,x.1≠p):findF l p=(afh,false,()):=by
 unfold findF;rw[TQ.2 λx a=>by simp[h x a]]
def E2{l:List Nd}(d:Ord l){p:ay}{x:Nd}(c:x∈l)(e:x.1=p):findF l p=(x,true,()):=by
 unfold findF;cases h:l.find? λx=>decide (x.1=p) with
 | none=>have:=TQ.1 h x c;simp[e] at this
 | some y =>
   have a:=P8 h;have f:=aaQ h;have a:y.1=p:=by simpa using a
   have:=d.uniq c f (by rw[e,a]);subst this;rfl
def ace(l:List Nd)(p:ay)(d:wk l)(i:p.length<=4096)(c:Valid l):yb (l,p,())=ab (findF l p):=by
 obtain⟨e,j,n⟩:=mr l d;obtain rfl:=n.2 c;obtain⟨k,b,o,r,s,q⟩:=Dh l p d i;have a:=q c.ord;unfold yb;dsimp only;rw[j,aa];dsimp only;rw[show nt (aS 0 0)=false by rfl,af,o,aa];dsimp only;cases b with
 | false=>rw[aA,ae,Ni (a.no rfl)];rfl
 | true =>
   obtain⟨x,f,e⟩:=a.is rfl;rw[aG,af,au f,aa,E2 c.ord (eQ f) e]
def ahq:List Nd->Bool
 | a::b::r=>decide (cmpL (key a) (key b)<0)&&ahq (b::r)
 | _=>true
def afi:∀{l:List Nd},ahq l=true->Ord l:=by
 intro l h;refine Nf ?_;induction l with
 | nil=>intro k x y c;simp at c
 | cons a r e =>
   cases r with
   | nil=>intro k x y c d;simp at d
   | cons b r =>
     simp only[ahq,gy,uv] at h;intro k x y c d;cases k with
     | zero =>
       obtain rfl:a=x:=by simpa using c
       obtain rfl:b=y:=by simpa using d
       exact h.1
     | succ k=>exact e h.2 k x y c d
def Nj(l:List Nd):Bool:=decide (l.length<=64)&&ahq l&&l.all fY&&l.all λx=>decide ((bp x.1).1=[])||l.any λy=>decide (y.1=(bp x.1).1)&&decide (y.2.1=2)
def Av{l:List Nd}(h:Nj l=true):Valid l:=by
 unfold Nj at h;simp only[gy,uv] at h;refine⟨h.1.1.1,afi h.1.1.2,λx a=>vL.1 h.1.2 x a,λx a=>?_⟩;have:=vL.1 h.2 x a;simp only[Fs,uv,P6,gy] at this;exact this
def nD:Nd:=([100],2,493,[],[],())
def nA:Nd:=([100,47,97],1,420,[120],[],())
def YG:Nj []=true/\Nj [nD]=true/\Nj [nD,nA]=true:=by decide +kernel
set_option synthInstance.maxHeartbeats 200000 in
set_option synthInstance.maxSize 4000 in
instance anO:DecidableEq Nd:=inferInstance
end Go.Ge
