import Derived.Test.YtcebnmppipejfaaGreatDoorPlG
set_option linter.unusedSectionVars false
set_option linter.unusedVariables false
set_option linter.unusedSimpArgs false
set_option linter.defProp false
noncomputable section
open Option renaming some->ab,none->ah
open Go.IntKind (i64)
namespace Go.Ge
variable [Lp]
def Za:∀(r:List Tx) (t:List Nd),Valid t->(sR r t).2=0->Valid (sR r t).1:=by
 intro r;induction r with
 | nil=>intro t h _;exact h
 | cons s r b =>
   intro t h a;unfold sR at a⊢;by_cases c:(jI t s).2=0
   .rw[aW c] at a⊢;rcases Ix h s with ⟨_,v,_⟩|⟨v,_⟩
    .exact b _ v a
    .exact absurd c v
   .rw[aQ c] at a⊢;exact absurd a c
def Wt{ls:List aD}{a:List Tx}{id:Tx}(h:(eg ls a id).2=0):(bj ls id).2=0/\eg ls a id=sR ((bj ls id).1.reverse.map λx=>sS ls a x.1) []:=by
 unfold eg at h⊢;by_cases c:(bj ls id).2=0
 .rw[aW c];exact⟨c,rfl⟩
 .rw[aQ c] at h;exact absurd h c
def IA:Valid []:=AE YS.1
def Fh.more{a b:List aD}{f g:List Tx}{x:aD}{d:Tx}(p:a.length=f.length)(L:vu (·.1) (a++b))(l:vu (·.1) (a++[x]++b))(r:Fh (a++b) (f++g))
  (h:∀y∈a++b,y.1≠x.1) (M:x.1≠[]) (N:x.2.1≠x.1) (s:x.2.1=[]\/((bj (a++b) x.2.1).2=0/\(bj (a++b) x.2.1).1.length<16))
  (t:x.2.2.2.2.2.2.1=true/\x.2.2.2.2.2.1=0/\x.2.2.2.2.1=(d.length:Int)/\x.2.2.2.1=ky d/\sx d)
  (m:(jI (if x.2.1=[] then [] else(eg (a++b) (f++g) x.2.1).1) d).2=0):Fh (a++[x]++b) (f++[d]++g):=by
 have hlen:(f++g).length=(a++b).length:=r.same;have n:(f++[d]++g).length=(a++[x]++b).length:=by
  simp only[hY,DE] at hlen⊢;omega
 have u:∀(y:aD) (e:Tx),y.1≠x.1->(AtD (a++[x]++b) (f++[d]++g) y e↔AtD (a++b) (f++g) y e):=λy e k=>by
  rw[Tv p];constructor
  .rintro(q|q)
   .exact absurd (congrArg (·.1) q.1) k
   .exact q
  .exact .inr
 have O:∀y∈a++b,y.2.1≠x.1:=λy k e=>by
  rcases acT L k (r.chain y k) with q|⟨z,H,q⟩
  .exact M (e.symm.trans q)
  .exact h z H (q.trans e)
 have v:x∈a++[x]++b:=aY;have w:∀y∈a++[x]++b,y=x\/y∈a++b:=λy k=>by
  simp only[Ht,yE] at k⊢;rcases k with (q|q)|q
  .exact .inr (.inl q)
  .exact .inl q
  .exact .inr (.inr q)
 have o:∀{id:Tx},id≠x.1->bj (a++[x]++b) id=bj (a++b) id/\eg (a++[x]++b) (f++[d]++g) id=eg (a++b) (f++g) id :=
  λ{id} P=>acV L l hlen n u (λy k=>.inr (O y k)) (.inl h) P
 have A:sS (a++[x]++b) (f++[d]++g) x.1=d:=G1 l ((Tv p).2<|.inl ⟨rfl,rfl⟩);have key:(bj (a++[x]++b) x.1).2=0/\(eg (a++[x]++b) (f++[d]++g) x.1).2=0:=by
  by_cases B:x.2.1=[]
  .have Q:bj (a++[x]++b) x.1=([x],0):=by
    unfold bj;rw[qh l v,aW B];rfl
   rw[aW B] at m;unfold eg;rw[Q,aW rfl];refine⟨rfl,?_⟩;show(sR [sS (a++[x]++b) (f++[d]++g) x.1] []).2=0
   rw[A];unfold sR;rw[aW m];rfl
  .rcases s with q|⟨C,V⟩
   .exact absurd q B
   rw[aQ B] at m;obtain⟨T,W⟩:=o N;obtain⟨y,k,R⟩:∃y∈a++b,y.1=x.2.1:=by
    apply JS;intro q;unfold bj at C;rw[CI λy k e=>q ⟨y,k,e⟩] at C;cases C
   have S:(eg (a++b) (f++g) x.2.1).2=0:=by
    obtain⟨i,I⟩:=bz.1 k;have:=aG I;rw[<-R];exact(r.each i y (f++g)[i] I<|ia ai).2.2.2.2.2
   obtain⟨t1,J⟩:=Wt S;obtain⟨c,X,Y⟩:=Ro l 16 x.2.1 [] (by have:=T;unfold bj at this C;rw[this];exact C);have D:(bj (a++b) x.2.1).1=c:=by rw[<-T];exact X
   rw[D] at V J;have Q:bj (a++[x]++b) x.1=(x::c,0):=by
    unfold bj;rw[qh l v,aQ B,Y 15 _ ai];rfl
   unfold eg;rw[Q,aW rfl];refine⟨rfl,?_⟩;rw[W.symm] at J m S;rw[show(x::c,(0:Int)).1=x::c from rfl,List.reverse_cons,ZP,List.map_singleton,A];have E:(c.reverse.map λz=>sS (a++[x]++b) (f++[d]++g) z.1)=(c.reverse.map λz=>sS (a++b) (f++g) z.1):=by
    apply Lw;intro z H;rw[Uf] at H;have F:z∈a++b:=(pF (ls:=a++b) (id:=x.2.1)).1 z (by rw[D];exact H);obtain⟨e,K⟩:=G0 hlen F;rw[G1 L K,G1 l ((u z e<|h z F).2 K)]
   rw[E,acO _ d [] (eg (a++[x]++b) (f++[d]++g) x.2.1).1 (Prod.ext (by rw[J])<|by rw[<-J];exact S),aW m]
 refine⟨n,λy k=>?_,λi y e I K=>?_⟩
 .rcases w y k with rfl|G
  .exact key.1
  .rw[(o<|h y G).1];exact r.chain y G
 .have Z:AtD (a++[x]++b) (f++[d]++g) y e:=⟨i,I,K⟩;rcases(Tv p).1 Z with ⟨rfl,rfl⟩|⟨j,U,g2⟩
  .exact⟨t.1,t.2.1,t.2.2.1,t.2.2.2.1,t.2.2.2.2,key.2⟩
  .obtain⟨a1,a2,a3,a4,a5,a6⟩:=r.each j y e U g2;exact⟨a1,a2,a3,a4,a5,by rw[(o<|h y<|eT U).2];exact a6⟩
def afU:DM (kG 1024)=([],0):=by
 unfold DM;rw[Y0]
def acW:sx (kG 1024):=by
 unfold sx;rw[afU];exact⟨rfl,rfl⟩
def ah7{t:List Nd}(h:Valid t):jI t (kG 1024)=(t,0):=by
 unfold jI;rw[afU,aW rfl];unfold my;rw[aW h];rfl
def AB.boxes{l:List ep}(b:l.length<=32)(c:∀x∈l,OkB x)(d:vu (·.1) l)(e:(l.flatMap (·.2.1)).Nodup):AB 1 (0,[],[],l,()) :=
 ⟨b,by show l.length+0+0=l.length;omega,λx a=>(by cases a),λx a=>(by cases a),c,by unfold Th;simpa [vu] using d,by unfold YJ;simpa using e⟩
def AB.lays{l:List aD}(b:l.length<=32)(c:∀x∈l,OkL x)(d:vu (·.1) l)(e:(l.flatMap (·.2.2.1)).Nodup):AB 3 (0,l,[],[],()) :=
 ⟨b,by show 0+0+l.length=l.length;omega,c,λx a=>(by cases a),λx a=>(by cases a),by unfold Th;simpa [vu] using d,by unfold YJ;simpa using e⟩
def NU.ane{s:aA}(h:NU s):(s.2.2.1.flatMap (·.2.2.1)).Nodup:=by
 have:=h.l.YI;unfold YJ at this;simpa using this
def NU.ah2{s:aA}(h:NU s):s.1.length<=32:=h.b.few
def NU.ajJ{s:aA}(h:NU s):s.2.2.1.length<=32:=h.l.few
def sF{a:Type}(l:List a)(k:Nat)(x:a):List a:=l.take k++[x]++l.drop k
def ah8{a:Type}(l:List a)(k:Nat)(x:a)(b:k<=l.length)(c:l.length<=1000000):uU l (k:Int) [x]=ab (sF l k x):=by
 unfold uU sF;rw[show inside 0 (k:Int) (len l)=true from aU aK ai ft,bo (by simp only[eU,gj];omega),pS];rfl
def wC{b S:Type}{f:S->Option (S⊕(Nat×S))}(l:List b)(p:b->Bool)(a:Int×Int×al->S)(k:l.length<=1000000)
  (c:∀(i:Nat) (y:b),l[i]?=ab y->i<l.length->f (a (0,(i:Int),()))=ab (if p y=true then .inr (1,a ((i:Int),(i:Int),())) else .inl (a (0,aH .i64 (i:Int) 1,()))))
  (d:f (a (0,(l.length:Int),()))=ab (.inr (0,a (0,(l.length:Int),())))) :
  (∃(i:Nat) (y:b),l[i]?=ab y/\p y=true/\Loop f (a (0,0,()))=ab (1,a ((i:Int),(i:Int),())))\/((∀y∈l,p y=false)/\Loop f (a (0,0,()))=ab (0,a (0,(l.length:Int),()))):=by
 rcases iQ (f:=f) l (λi=>a (0,i,())) (λ_ y=>p y) (λi _=>(1,a ((i:Int),(i:Int),()))) (0,a (0,(l.length:Int),())) ai (λi y hy hi e=>by rw[c i y hy hi,e]) d with ⟨i,y,hy,g,_,h⟩|⟨j,h⟩
 .exact .inl ⟨i,y,hy,g,h⟩
 .refine .inr ⟨λy hy=>?_,h⟩;obtain⟨i,hi⟩:=bz.1 hy;exact j i y hi
def aaQ(s:aA)(x:aD)(d:Tx):aA:=(s.1,(s.2.1,(kH (·.1) s.2.2.1 x,sF s.2.2.2.1 (cK (λy:aD=>y.1) s.2.2.1 x.1) d,s.2.2.2.2)))
def Rp(s:aA)(id:Tx):Bool:=s.2.2.1.any (λx=>decide (x.2.1=id))||s.2.1.any (λx=>decide (x.2.2.1=id))||s.1.any (λx=>decide (x.2.2.2.1=id))
def ai0{a:Type}{l:List a}{p:a->Bool}{i:Nat}{y:a}(b:l[i]?=ab y)(c:p y=true):l.any p=true:=Qn.2 ⟨y,eT b,c⟩
def ai1{a:Type}{l:List a}{p:a->Bool}(h:∀y∈l,p y=false):l.any p=false:=by
 cases q:l.any p with
 | false=>rfl
 | true=>obtain⟨y,c,b⟩:=Qn.1 q;rw[h y c] at b;cases b
def cutAt{a:Type}(l:List a)(i:Nat):List a:=l.take i++l.drop (i+1)
def Wu(a:List aD)(b:List Tx)(x:aD)(d:Tx)(g:b.length=a.length):∃(c f:List aD) (e r2:List Tx),c.length=e.length/\a=c++f/\b=e++r2/\c.length=cK (λy:aD=>y.1) a x.1 /\
  kH (λy:aD=>y.1) a x=c++[x]++f/\sF b (cK (λy:aD=>y.1) a x.1) d=e++[d]++r2:=by
 have h:=pG (λy:aD=>y.1) a x.1;refine⟨a.takeWhile<|λy=>fq y.1 x.1,a.dropWhile (λy=>fq y.1 x.1),b.take (cK (λy:aD=>y.1) a x.1),b.drop (cK (λy:aD=>y.1) a x.1),?_,(BP).symm,(BR _ _).symm,rfl,rfl,rfl⟩;rw[km,yF ai];rfl
def NU.more{s:aA}(h:NU s){x:aD}{d:Tx}(A:OkL x)(K:s.2.2.1.length<32)(j:∀y∈s.2.2.1,y.1≠x.1)(C:∀y∈s.2.2.1,∀n∈y.2.2.1,n∉x.2.2.1)
  (p:x.2.1=[]\/((bj s.2.2.1 x.2.1).2=0/\(bj s.2.2.1 x.2.1).1.length<16)) (L:x.2.2.2.2.2.2.1=true/\x.2.2.2.2.2.1=0/\x.2.2.2.2.1=(d.length:Int)/\x.2.2.2.1=ky d/\sx d)
  (D:(jI (if x.2.1=[] then [] else(eg s.2.2.1 s.2.2.2.1 x.2.1).1) d).2=0):NU (aaQ s x d):=by
 obtain⟨S,T,m,G,U,u⟩:=s;have H:=h.Y8;have B:=h.b;have hi:=h.i;have M:=h.l;have e:=h.lays;have E:=h.ajG;have o:=h.tops;have hrefs:=h.refs;have r:=h.mts;have F:=h.aiZ;have t:=h.ane;unfold aaQ;dsimp only at *;have c:∀y:aD,y∈kH (λy:aD=>y.1) m x↔y=x\/y∈m:=λy=>sy _;have f:vu (λy:aD=>y.1) (kH (λy:aD=>y.1) m x):=ahZ _ H j;refine⟨B,hi,AB.lays ?_ ?_ f ?_,?_,E,?_,?_,?_,F⟩
 .rw[qf];omega
 .intro y hy;rcases(c y).1 hy with rfl|hy
  .exact A
  .exact M.ll y hy
 .have N:=(Iy (λy:aD=>y.1) m x).flatMap_right (λy:aD=>y.2.2.1);rw[N.nodup_iff,ZK,List.nodup_append];refine⟨?_,t,λa O b B=>?_⟩
  .have:=A.YI;unfold se at this;simp only[gw,pR] at this;exact this.1.2
  .rw[Lv] at B;obtain⟨y,hy,P⟩:=B;rintro rfl;exact C y hy a P O
 .obtain⟨V,W,X,Y,Q,v,I,_,J,R⟩:=Wu m G x d e.same;show Fh (kH (λy:aD=>y.1) m x) (sF G (cK (λy:aD=>y.1) m x.1) d)
  rw[J] at f;rw[J,R];have g:=A.id;refine Fh.more Q (by rw[<-v];exact H) f (by rw[<-v,<-I];exact e) (by rw[<-v];exact j) (λq=>?_) ?_ (by rw[<-v];exact p) L (by rw[<-v,<-I];exact D)
  .rw[q] at g;exact N0 g
  .rcases A.par with q|q
   .rw[q];intro k;rw[<-k] at g;exact N0 g
   .exact q.2
 .intro y hy;rcases o y hy with q|⟨z,w,q⟩
  .exact .inl q
  .exact .inr ⟨z,(c z).2 (.inr w),q⟩
 .intro y hy;obtain⟨z,w,q⟩:=(hrefs y hy).2;exact⟨(hrefs y hy).1,z,(c z).2 (.inr w),q⟩
 .intro y hy;obtain⟨⟨z,w,q⟩,k⟩:=r y hy;exact⟨⟨z,(c z).2 (.inr w),q⟩,k⟩
def BdS.more{s:aA}(h:BdS s){x:aD}{d:Tx}(b:BdL x)(c:s.2.2.1.length<32)(f:d.length<=8192):BdS (aaQ s x d):=by
 refine⟨?_,h.il,h.bl,λy hy=>?_,h.xi,h.xb,λe a=>?_,h.ml⟩
 .show(kH (λy:aD=>y.1) s.2.2.1 x).length<=40
  rw[qf];omega
 .rcases(sy _).1 hy with rfl|hy
  .exact b
  .exact h.xl y hy
 .have a:e∈sF s.2.2.2.1 (cK (λy:aD=>y.1) s.2.2.1 x.1) d:=a;unfold sF at a;rw[Ht,Ht,yE] at a;rcases a with (a|rfl)|a
  .exact h.dl e (Hq a)
  .exact f
  .exact h.dl e (Xg a)
def N3{a:List aD}{b:List Tx}{id:Tx}(h:(eg a b id).2=0):Valid (eg a b id).1:=by
 obtain⟨_,t⟩:=Wt h;rw[t] at h⊢;exact Za _ _ IA h
def acX{b:Type}(l:List b)(i:Nat):∀x∈cutAt l i,x∈l:=λx a=>by
 unfold cutAt at a;rw[Ht] at a;exact a.elim Hq Xg
def Rq{a:Type}(l:List a)(i:Nat):(cutAt l i).length<=l.length:=by
 unfold cutAt;rw[hY,km,nV];omega
def aaR{a:Type}(l:List a)(i:Nat)(b:i<l.length)(c:l.length<=1000000):HS l (i:Int) (aH .i64 (i:Int) 1)=ab (cutAt l i):=by
 unfold HS cutAt;rw[aL ai,aU ai ai ft,z6,pS,pS]
def tI(n:Nat)(a:List Tx):List Tx:=a.take n++List.replicate (n-a.length) []
def xK(n:Nat)(a:List Tx):(tI n a).length=n:=by
 unfold tI
 grind
def AQ{n:Nat}{a:List Tx}(h:a.length=n):tI n a=a:=by
 unfold tI;rw[Hp ai,show n-a.length=0 from ai,List.replicate_zero,zi]
def ah9{n i:Nat}{a:List Tx}(h:i<n):(tI n a)[i]?=ab ((a[i]?).getD []):=by
 unfold tI
 grind
def IB(s:aA)(a:s.2.2.1.length<=1000000):nu (s,())=ab (tI s.2.2.1.length s.2.2.2.1,()):=by
 unfold nu;dsimp only;rw[aU aK ft<|sN _,ae,cO ai,ae]
 congr 1
 unfold over kn len jd tI
 grind
def JE(s:aA)(x:aD)(d:Tx):aA:=(s.1,(s.2.1,(kH (·.1) s.2.2.1 x,sF (tI s.2.2.1.length s.2.2.2.1) (cK (λy:aD=>y.1) s.2.2.1 x.1) d,s.2.2.2.2)))
def Wv(s:aA)(x:aD)(d:Tx)(r:s.2.2.1.length<=100000):pA (s,x,d,())=ab (JE s x d,()):=by
 obtain⟨n,o,a,b,p⟩:=s;dsimp only at r;have l:=pG (λy:aD=>y.1) a x.1;unfold pA;have c:=tE (f:=qJ ((n,o,a,b,p),x,d,())) (λy:aD=>y.1) a x.1 ai (λi=>(((0:Int),i,()),x,())) (λi=>(1,((i:Int),(i:Int),()),x,()))
  (0,((0:Int),(a.length:Int),()),x,()) (λi y q=>by
   have hi:=aG q;unfold qJ;rw[aq hi,ae,au q,aa,aL ai];cases fq y.1 x.1<;>rfl) (by unfold qJ;dsimp only;rw[ay,af])
 rw[c,aa];have e:=IB (n,o,a,b,p) BF;have g:∀k:Nat,k<=a.length->kY (tI a.length b,(k:Int),d,())=ab (sF (tI a.length b) k d,()):=λk l=>by
  unfold kY;rw[show @len aw=@len Tx from rfl,cO (by rw[xK];omega),ae];unfold e9;rw[ah8 (tI a.length b) k d (by rw[xK];omega)<|by rw[xK];omega,aa]
 have h:iG (a,((cK (λy:aD=>y.1) a x.1:Nat):Int),x,())=ab (kH (λy:aD=>y.1) a x,()):=by
  unfold iG;dsimp only;rw[cO ai,ae];unfold dI;rw[show uU a ((cK (λy:aD=>y.1) a x.1:Nat):Int) [x]=_ from tD (λy:aD=>y.1) a x ai,aa]
 by_cases j:cK (λy:aD=>y.1) a x.1<a.length
 .rw[aW j];rw[show da 1 0=false from rfl,af,aa];dsimp only;rw[e,aa,aI ai,af];rw[g _ l,aa,h,aa];rfl
 .rw[aQ j];have m:cK (λy:aD=>y.1) a x.1=a.length:=ai;rw[bW,ae,aa];dsimp only;rw[e,aa,aP aK,ae];rw[show @len (Tx×Tx×List Tx×Tx×Int×Int×Bool×al) a=((cK (λy:aD=>y.1) a x.1:Nat):Int) from by rw[m];rfl,g _ l,aa,h,aa];rfl
def Ww:yV ()=ab (kG 1024,()):=by
 exact V0 1024 aK
abbrev Ch1:=(List aD×Int×al×Tx×Int×al)×List aD×al
def N4(b:List aD)(j:Tx)(u:b.length<=1000000)(p:∀x∈b,x.2.2.1.length<=4294967296)(c:List aD)(d:Int)(id:Tx)(a:List aD)(v:a.length<=16) :
  ∃i:Int,Loop (lL (b,j,())) ((c,d,(),id,(0:Int),()),a,())=ab (match Ef b id with
   | none=>(0,(c,d,(),id,i,()),a,())
   | some k=>match b[k]? with
     | none=>(0,(c,d,(),id,i,()),a,())
     | some x=>if a.length=16 then(1,([],5,(),id,i,()),a,()) else if x.2.1=[] then(2,(c,d,(),id,i,()),a++[x],()) else(3,(c,d,(),x.2.1,i,()),a++[x],())):=by
 rcases iQ (f:=lL (b,j,())) b (λi=>((c,d,(),id,i,()),a,())) (λ_ x=>decide (x.1=id))
  (λi x=>if a.length=16 then(1,([],5,(),id,(i:Int),()),a,()) else if x.2.1=[] then(2,(c,d,(),id,(i:Int),()),a++[x],()) else(3,(c,d,(),x.2.1,(i:Int),()),a++[x],()))
  (0,(c,d,(),id,(b.length:Int),()),a,()) ai (λi x l r m=>by
   unfold lL;rw[aq r,ae,au l,aa,cZ,m];by_cases q:x.1=id
   .rw[dE q,aF,af,aW rfl,rv _ (p x<|eT l),aa];have n:aS (@len aD a) (16:Int)=decide (a.length=16):=by unfold aS len;apply hH.2;omega
    rw[n];by_cases e:a.length=16
    .rw[dE e,ae,aW e]
    .rw[cL e,af,aQ e];rw[show fits (plus (@len aD a)<|@len aD ([(x.1,x.2.1,x.2.2.1,x.2.2.2)]:List aD))=true from bo (by show _+1<=_;omega),ae,cZ,eA];by_cases g:x.2.1=[]
     .rw[dE g,aW rfl,aW g];rfl
     .rw[cL g,aQ g];rfl
   .rw[cL q,az,ae];rfl) (by unfold lL;dsimp only;rw[ay,af]) with ⟨i,x,l,g,s,h⟩|⟨o,h⟩
 .refine⟨(i:Int),?_⟩;have t:x.1=id:=iy g;rw[NR l t s]
  grind
 .refine⟨(b.length:Int),?_⟩;rw[GV o];exact h
def Wx{b:List aD}{id:Tx}(h:Ef b id=ah)(n:Nat)(a:List aD):BK b n id a=([],3):=by
 unfold BK;rw[h]
def aia{b:List aD}{id:Tx}{k:Nat}(h:Ef b id=ab k)(a:List aD):BK b 0 id a=([],5):=by
 unfold BK;rw[h]
def ajN{b:List aD}{id:Tx}{k:Nat}{x:aD}(h:Ef b id=ab k)(c:b[k]?=ab x)(n:Nat)(a:List aD) :
  BK b (n+1) id a=if x.2.1=[] then(a++[x],0) else BK b n x.2.1 (a++[x]):=by
 conv=>lhs;unfold BK
 grind
def JF(ls:List aD)(a:Tx)(j:ls.length<=1000000)(l:∀x∈ls,x.2.2.1.length<=4294967296):∀(n:Nat) (id:Tx) (acc:List aD),n+acc.length=16 ->
  ∃e f g,Loop (lM (ls,a,())) ((([]:List aD),(0:Int),(),id,()),acc,()) =
   ab (if(BK ls n id acc).2=0 then(1,e,(BK ls n id acc).1,()) else(0,((BK ls n id acc).1,(BK ls n id acc).2,f),g)):=by
 intro n;induction n with
 | zero =>
   intro id acc m;rw[aT];unfold lM;obtain⟨i,h⟩:=N4 ls a j l [] 0 id acc ai;rw[h,aa];cases b:Ef ls id with
   | none =>
     rw[Wx b];exact⟨(([]:List aD),(0:Int),(),id,()),_,_,rfl⟩
   | some k =>
     obtain⟨x,c,_⟩:=yZ b;rw[aia b];dsimp only;rw[c];dsimp only;rw[aW ai];exact⟨(([]:List aD),(0:Int),(),id,()),_,_,rfl⟩
 | succ n o =>
   intro id acc m;rw[aT];unfold lM;obtain⟨i,h⟩:=N4 ls a j l [] 0 id acc ai;rw[h,aa];cases b:Ef ls id with
   | none =>
     rw[Wx b];exact⟨(([]:List aD),(0:Int),(),id,()),_,_,rfl⟩
   | some k =>
     obtain⟨x,c,_⟩:=yZ b;rw[ajN b c];dsimp only;rw[c];dsimp only;rw[aQ ai];by_cases d:x.2.1=[]
     .rw[aW d,aW d];exact⟨_,((),([]:Tx),()),(acc,()),rfl⟩
     .rw[aQ d,aQ d];obtain⟨e,f,g,p⟩:=o x.2.1 (acc++[x]) (by rw[hY];show n+(_+1)=16;omega);exact⟨e,f,g,p⟩
def Fi(a:List aD)(id:Tx)(b:a.length<=1000000)(d:∀x∈a,x.2.2.1.length<=4294967296):kz (a,id,())=ab ((bj a id).1,(bj a id).2,()):=by
 unfold kz;obtain⟨e,f,g,h⟩:=JF a id b d 16 id [] rfl;rw[h,aa];unfold bj;by_cases c:(BK a 16 id []).2=0
 .rw[aW c,c];rfl
 .rw[aQ c];rfl
def Tw{a:Type}(key:a->Tx)(l:List a)(x:a):kH key l x=sF l (cK key l<|key x) x:=by
 unfold kH sF;rw[(AK key l x).1,(AK key l x).2]
def aib(id a:Tx)(b:List Tx):aD:=(id,a,b,ky<|kG 1024,1024,0,true,())
def de(s:aA)(a:Tx):Tx:=if a=[] then [] else(aX (eS s) a).1
def Wy(s:aA)(b:Tx)(a:List Tx)(d:Int):aA×tF×al :=
 if jk a≠0 then(s,iZ<|jk a,()) else
 if b≠[]/\(aX (eS s) b).2.1≠0 then(s,iZ (aX (eS s) b).2.1,()) else
 if mL (eS s) [] a≠0 then(s,iZ<|mL (eS s) [] a,()) else
 if(cC (eS s) d).2.1≠0 then(s,iZ (cC (eS s) d).2.1,()) else
 if de s b≠[]/\(bj s.2.2.1<|de s b).2=0/\16<=(bj s.2.2.1<|de s b).1.length then(s,iZ 5,()) else
 (JE s (aib (cC (eS s) d).1 (de s b) a)<|kG 1024,xF (cC (eS s) d).1,())
def vv(s:aA)(b:Tx)(a:List Tx)(d:Int)(h:AN s)(n:a.length<=4294967296) :
  hU (s,b,a,[],d,())=ab (Wy s b a d):=by
 have o:=h.ll;have k:aS (0:Int) 0=true:=rfl;have es:bG ([]:aw) ([]:aw)=true:=rfl;unfold hU;dsimp only;simp only[k,es,ae,af,aF];rw[rm a n,aa];unfold Wy;dsimp only;by_cases c1:jk a=0
 rotate_left
 .rw[aW c1,ax c1];simp only[az,ae,aa,ax c1];rfl
 rw[aQ<|λq=>q c1,aE c1];simp only[aF,af,aa,k,cZ];have l:(ao (nt<|decide<|b=[]) (ag (dG (s,b,())) λe=>ab ((e.2.1,()),e.1,()))<|some (((0:Int),()),([]:Tx),())) =
   ab (((if b=[] then 0 else(aX (eS s) b).2.1),()),de s b,()):=by
  unfold de;by_cases q:b=[]
  .rw[dE q,aF,af,aW q,aW q]
  .rw[cL q,az,ae,gb s b h,aa,aQ q,aQ q]
 rw[show(ao (nt<|decide<|b=[]) (ag (dG (s,b,())) λe=>ab ((e.2.1,()),e.1,()))<|some (((0:Int),()),([]:aw),()))=_ from l,aa];dsimp only;have c:(b≠[]/\(aX (eS s) b).2.1≠0)↔¬((if b=[] then 0 else(aX (eS s) b).2.1)=0):=by
  by_cases q:b=[]
  .simp[q]
  .simp[q]
 have f:(b≠[]/\(aX (eS s) b).2.1≠0)->(if b=[] then 0 else(aX (eS s) b).2.1)=(aX (eS s) b).2.1:=λq=>aQ q.1;by_cases c2:(if b=[] then 0 else(aX (eS s) b).2.1)=0
 rotate_left
 .rw[aW<|c.2 c2,ax c2];simp only[az,ae,aa,ax c2];rw[f<|c.2 c2];rfl
 rw[aQ<|λq=>c.1 q c2,aE c2];simp only[aF,af];rw[tG s h,aa,ot (eS s) [] a (Iz h) n,aa];dsimp only;by_cases c3:mL (eS s) [] a=0
 rotate_left
 .rw[aW<|show mL (eS s) [] a≠0 from c3,ax c3];simp only[az,ae,aa,ax c3];rfl
 rw[aQ<|show ¬(mL (eS s) [] a≠0) from λq=>q c3,aE c3];simp only[aF,af,aa];rw[Ds,aa];by_cases c4:(cC (eS s) d).2.1=0
 rotate_left
 .rw[aW<|show(cC (eS s) d).2.1≠0 from c4,ax c4];simp only[az,ae,aa,ax c4];rfl
 rw[aQ<|show ¬((cC (eS s) d).2.1≠0) from λq=>q c4,aE c4];simp only[aF,af];rw[Fi _ _ ai<|λx p=>(h.ln x p).small,aa];dsimp only;have r:(ao (ao (ao (nt<|decide<|de s b=[]) (aS (bj s.2.2.1<|de s b).2 0) false) (cj 16<|len (bj s.2.2.1<|de s b).1) false) (ab (((5:Int),()),de s b,s,()))<|some (((0:Int),()),de s b,s,())) =
   ab (((if de s b≠[]/\(bj s.2.2.1<|de s b).2=0/\16<=(bj s.2.2.1<|de s b).1.length then 5 else 0),()),de s b,s,()):=by
  have m:cj (16:Int) (len (bj s.2.2.1<|de s b).1)=decide (16<=(bj s.2.2.1<|de s b).1.length):=by unfold cj len;apply hH.2;omega
  rw[m,GO];by_cases g:de s b=[]
  .rw[dE g,aF,af,af,af,aQ λq=>q.1 g]
  .rw[cL g,az,ae];by_cases i:(bj s.2.2.1<|de s b).2=0
   .rw[dE i,ae];by_cases j:16<=(bj s.2.2.1<|de s b).1.length
    .rw[dE j,ae,aW ⟨g,i,j⟩]
    .rw[cL j,af,aQ λq=>j q.2.2]
   .rw[cL i,af,af,aQ λq=>i q.2.1]
 rw[show(ao (ao (ao (nt<|decide<|de s b=[]) (aS (bj s.2.2.1<|de s b).2 0) false) (cj 16<|len (bj s.2.2.1<|de s b).1) false) (ab (((5:Int),()),de s b,s,()))<|some (((0:Int),()),de s b,s,()))=_ from r,aa];dsimp only;by_cases c5:de s b≠[]/\(bj s.2.2.1<|de s b).2=0/\16<=(bj s.2.2.1<|de s b).1.length
 .rw[aW c5,aW c5];rfl
 rw[aQ c5,aQ c5];simp only[k,aF,af,aa,LH,ae];rw[Ww,aa,aa];dsimp only;rw[show fits (plus (@len aw [])<|@len aw a)=true from bo (by simp only[gj];omega),ae,Yx _ (by rw[tz];decide),aa];dsimp only;rw[show @app aw [] a=a from rfl,show @len UInt8 (kG 1024)=1024 from by unfold len;rw[tz];rfl];rw[show pA (s,((cC (eS s) d).1,de s b,a,ky<|kG 1024,(1024:Int),(0:Int),true,()),kG 1024,())=ab (JE s (aib (cC (eS s) d).1 (de s b) a)<|kG 1024,()) from Wv s (aib _ _ a) (kG 1024) ai,aa];rfl
set_option maxRecDepth 100000
def Nl.hd{s:aA}(h:Nl s):AN s:=⟨h.base.ll,h.base.il,h.base.bl,h.base.ln,h.base.pV,h.base.bn,λx a=>(h.base.im x a).2⟩
structure ajO (s:aA):Prop where
 bl:s.1.length<=1000000
 il:s.2.1.length<=1000000
 ll:s.2.2.1.length<=1000000
 dl:s.2.2.2.1.length<=1000000
 ml:s.2.2.2.2.1.length<=1000000
 xb:∀x∈s.1,nZ x.2.1/\tw x.2.2.2.2.2.1
 xi:∀x∈s.2.1,nZ x.2.1/\tw x.2.2.2.2.1
 xl:∀x∈s.2.2.1,nZ x.2.2.1
def Zb{s:aA}(h:ajO s):wu (s,s,())=ab (true,()):=by
 unfold wu;dsimp only;rw[Y7 _ h.bl h.xb,aa];dsimp only;rw[ae,Wq _ h.il h.xi,aa,aa,ae,Wr _ h.ll (λx a=>(h.xl x a).small),aa,aa,ae,AP _ (by have:=h.dl;omega),aa,aa,ae,Ws _ h.ml,aa];rfl
def Nl.slf{s:aA}(h:Nl s):ajO s:=⟨by have:=h.base.bl;dsimp only at this;omega,by have:=h.base.il;dsimp only at this;omega,by have:=h.lays;omega,by have:=h.aau;omega,by have:=h.mts;omega,
 λx a=>⟨h.base.bn x a,(h.base.bm x a).2⟩,λx a=>⟨h.base.pV x a,(h.base.im x a).2⟩,h.base.ln⟩
def e0:aA:=([],[],[],[],[],())
def e5:Tx:=[48,48,48,48,48,53]
def e6:Tx:=[48,48,48,48,48,54]
def eb:Tx:=[98,97,115,101]
def L5(D:Tx):aD:=(e5,[],[eb],D,1024,0,true,())
def L6(D:Tx):aD:=(e6,e5,[],D,1024,0,true,())
def s1(D N:Tx):aA:=([],[],[L5 D],[N],[],())
def s2(D N:Tx):aA:=([],[],[L5 D,L6 D],[N,N],[],())
def s3(D N:Tx):aA:=([],[],[L5 D,L6 D],[N,N],[(e6,1,())],())
def afV(a:tF):an (aS a.1 a.1) (an (bG a.2.1 a.2.1)<|an (aS a.2.2.1 a.2.2.1)<|an (bG a.2.2.2.1 a.2.2.2.1) true)=true:=by
 simp only[oe,xJ];rfl
end Go.Ge
namespace Go.Ge
variable [Lp]
def Zc(s:aA)(id:Tx)(c:s.2.2.2.2.1.length<=1000000):∃n,dB (s,id,())=ab (n,())/\((∃x∈s.2.2.2.2.1,x.1=id/\x.2.1=n)\/(n=0/\∀x∈s.2.2.2.2.1,x.1≠id)):=by
 unfold dB;rcases wC (f:=kg (s,_)) s.2.2.2.2.1 (λy=>decide (y.1=id)) (λq=>(q,(),id,())) c (λi y a d=>by
  unfold kg vq;rw[aq d,ae,au a,aa,aa,cZ,eA];by_cases q:y.1=id<;>simp[q]) (by unfold kg;dsimp only;rw[ay,af]) with ⟨i,y,a,e,b⟩|⟨g,b⟩
 .rw[b,aa];dsimp only;rw[show da 1 0=false from rfl,af,aI ai,af,au a,aa]
  grind
 .rw[b,aa];rw[bW,ae]
  grind
def Zd{f:(Int×Int×al)×Tx×al->Option (((Int×Int×al)×Tx×al)⊕(Nat×(Int×Int×al)×Tx×al))}(l:List ep)(id:Tx)(g:l.length<=1000000)
  (d:∀c i:Int,f ((c,i,()),id,())=ao (aZ i<|len l) (ag (idx l i) λy=>ao (bG y.2.2.2.1 id) (ab<|.inr (1,(i,i,()),id,())) (ab<|.inl ((c,aH .i64 i 1,()),id,()))) (ab<|.inr (0,(c,i,()),id,()))) :
  ag (Loop f (((0:Int),(0:Int),()),id,())) (λe=>ao (da e.1 0) (ab (false,())) (ab (cj (0:Int) e.2.1.1,())))=ab (l.any<|λx=>decide (x.2.2.2.1=id),()):=by
 rcases wC (f:=f) l (λy=>decide (y.2.2.2.1=id)) (λq=>(q,_)) g (λi y a h=>by
  rw[d,aq h,ae,au a,aa,cZ,eA];by_cases q:y.2.2.2.1=id<;>simp[q]) (by rw[d,ay,af]) with ⟨i,y,a,j,b⟩|⟨k,b⟩
 .rw[b,aa,ai0 a j];dsimp only;rw[show da 1 0=false from rfl,af,bO ai]
 .rw[b,aa,ai1 k];rfl
def Wz(s:aA)(id:Tx)(m:s.1.length<=1000000)(n:s.2.1.length<=1000000)(o:s.2.2.1.length<=1000000):pB (s,id,())=ab (Rp s id,()):=by
 unfold pB Rp;have li:∀{f:_×Tx×al->Option _},
   (∀c i:Int,f ((c,i,()),_)=ao (aZ i _) (ag (idx s.2.1 i) λy=>ao (bG y.2.2.1 id) (ab<|.inr (1,(i,i,()),id,())) (ab<|.inl ((c,aH .i64 i 1,()),id,()))) (ab<|.inr (0,(c,i,()),id,()))) ->
   (∃(i:Nat),s.2.1.any (λx=>decide (x.2.2.1=id))=true/\Loop f (((0:Int),(0:Int),()),id,())=ab (1,((i:Int),(i:Int),()),id,()))\/(s.2.1.any (λx=>decide (x.2.2.1=id))=false/\Loop f (((0:Int),(0:Int),()),id,())=ab (0,((0:Int),(s.2.1.length:Int),()),id,())):=λ{f} h=>by
  rcases wC (f:=f) s.2.1 (λy=>decide (y.2.2.1=id)) (λq=>(q,id,())) n (λi y b g=>by
   rw[h,aq g,ae,au b,aa,cZ,eA];by_cases q:y.2.2.1=id<;>simp[q]) (by rw[h,ay,af]) with ⟨i,y,b,j,d⟩|⟨l,d⟩
  .grind
  .grind
 rcases wC (f:=qK (s,_)) s.2.2.1 (λy=>decide (y.2.1=id)) (λq=>(q,id,())) o (λi y b g=>by
  unfold qK;rw[aq g,ae,au b,aa,cZ,eA];by_cases q:y.2.1=id<;>simp[q]) (by unfold qK;dsimp only;rw[ay,af]) with ⟨i,y,b,j,d⟩|⟨l,d⟩
 .rw[d,aa,ai0 b j];rw[show da 1 0=false from rfl,af,aa];rcases li (f:=vp (s,_)) (λc i=>rfl) with ⟨k,e,a⟩|⟨e,a⟩
  .rw[a,aa];rfl
  .rw[a,aa];rfl
 .rw[d,aa,ai1 l];rw[bW,ae,aa];rcases li (f:=vp (s,id,())) (λc i=>rfl) with ⟨k,e,a⟩|⟨e,a⟩
  .rw[a,aa,e];rfl
  .rw[a,aa,e];exact Zd s.1 id m (λc i=>rfl)
def lQ(s:aA)(id:Tx):aD×Tx×Bool×al:=match Ef s.2.2.1 id with
 | none=>(([],[],[],[],(0:Int),(0:Int),false,()),[],false,())
 | some i=>match s.2.2.1[i]? with
   | none=>(([],[],[],[],(0:Int),(0:Int),false,()),[],false,())
   | some x=>(x,(s.2.2.2.1[i]?).getD [],true,())
def ixL{f:(Int×Int×al)×al×Tx×al->Option (((Int×Int×al)×al×Tx×al)⊕(Nat×(Int×Int×al)×al×Tx×al))}(a:List aD)(id:Tx)(o:a.length<=1000000)
  (e:∀c i:Int,f ((c,i,()),(),id,())=ao (aZ i<|len a) (ag (idx a i) λy=>ao (bG y.1 id) (ab<|.inr (1,(i,i,()),(),id,())) (ab<|.inl ((c,aH .i64 i 1,()),(),id,()))) (ab<|.inr (0,(c,i,()),(),id,()))) :
  ag (Loop f (((0:Int),(0:Int),()),(),id,())) (λb=>ao (da b.1 0) (ab (((-1:Int),()),(),b.2.2.2.1,())) (ab ((b.2.1.1,()),(),b.2.2.2.1,())))=ab ((BJ a id,()),(),id,()):=by
 rcases iQ (f:=f) a (λj=>(((0:Int),j,()),_)) (λ_ y=>decide (y.1=id)) (λi _=>(1,((i:Int),(i:Int),()),(),id,())) _ ai (λi y d g k=>by
  rw[e,aq g,ae,au d,aa,cZ,eA,k];by_cases q:y.1=id<;>simp[q]) (by rw[e,ay,af]) with ⟨i,y,d,l,m,h⟩|⟨n,h⟩
 .rw[h,aa];unfold BJ;rw[NR d (iy l) m];rfl
 .rw[h,aa];unfold BJ;rw[GV n];rfl
def yx(s:aA)(id:Tx)(e:s.2.2.1.length<=100000)(b:∀x∈s.2.2.1,x.2.2.1.length<=4294967296):iO (s,id,())=ab (lQ s id):=by
 unfold iO lQ;rw[ixL s.2.2.1 id ai<|λc i=>rfl,aa];unfold BJ;cases h:Ef s.2.2.1 id with
 | none=>rfl
 | some i =>
   obtain⟨x,a,_⟩:=yZ h;have hi:=aG a;dsimp only;rw[aI ai,af,au a,aa,a];have d:=b x (eT a);rw[xf x.2.2.1 d,aa,IB s ai,aa];rw[au<|ah9 hi,aa]
def PJ(s:aA)(id:Tx)(n:Int):aA:=(s.1,(s.2.1,(s.2.2.1,(s.2.2.2.1,((if 0<n then kH (·.1) (vg (·.1) s.2.2.2.2.1 id) (id,n,()) else vg (·.1) s.2.2.2.2.1 id),s.2.2.2.2.2)))))
def anf(l:List fT)(id:Tx)(n:Int)(o:l.length<=100000)(k:∀x∈l,x.1≠id){f:(Int×Int×al)×Tx×al->Option (((Int×Int×al)×Tx×al)⊕(Nat×(Int×Int×al)×Tx×al))}
  (d:∀c i:Int,f ((c,i,()),id,())=ao (aZ i<|len l) (ag (idx l i) λy=>ao (nt<|oor (fq y.1 id)<|bG y.1 id) (ab<|.inr (1,(i,i,()),id,())) (ab<|.inl ((c,aH .i64 i 1,()),id,()))) (ab<|.inr (0,(c,i,()),id,()))) :
  ag (Loop f (((0:Int),(0:Int),()),id,())) (λa=>ao (da a.1 0) (ag (bM (l,(((@len fT l,()),()).1).1,(a.2.2.1,n,()),())) λb=>ab ((b.1,()),a.2.2.1,()))
   (ag (bM (l,((ao (aZ a.2.1.1 (0:Int)) ((@len fT l,()),()) ((a.2.1.1,()),())).1).1,(a.2.2.1,n,()),())) λb=>ab ((b.1,()),a.2.2.1,())))=ab ((kH (·.1) l (id,n,()),()),id,()):=by
 have g:∀x:fT,x.1=id->bM (l,((cK (λy:fT=>y.1) l id:Nat):Int),x,())=ab (kH (·.1) l x,()):=by
  intro x m;unfold bM;dsimp only;rw[cO ai,ae];have:=tD (λy:fT=>y.1) l x ai;rw[m] at this;exact ob this rfl
 have h:=tE (f:=f) _ l id ai (λi=>(((0:Int),i,()),_)) _ _ (λi y j=>by
  have hi:=aG j;rw[d,aq hi,ae,au j,aa,Yi,aL ai];rcases Di y.1 id with q|q|q
  .rw[q,rj q];rfl
  .grind
  .rw[q,rj q];rfl) (by rw[d,ay,af])
 have p:=pG (λy:fT=>y.1) l id;rw[h,aa];by_cases q:cK (λy:fT=>y.1) l id<l.length
 .rw[aW q];refine ob (g _ rfl) rfl
 .rw[aQ q];have e:(@len fT l)=((cK (λy:fT=>y.1) l id:Nat):Int):=ft;rw[e];refine ob (g _ rfl) rfl
def CJ(s:aA)(id:Tx)(n:Int)(k:s.2.2.2.2.1.length<=50000):qe (s,id,n,())=ab (PJ s id n,()):=by
 obtain⟨E,F,G,H,a,u⟩:=s;dsimp only at k;have go:∀l:List fT,l.length<=100000->(∀x∈l,x.1≠id)->∀{f:_×Tx×al->Option _},
   (∀c i:Int,f ((c,i,()),id,())=ao (aZ i<|len l) (ag (idx l i) λy=>ao (nt<|oor (fq y.1 id)<|bG y.1 id) (ab<|.inr (1,(i,i,()),id,())) (ab<|.inl ((c,aH .i64 i 1,()),id,()))) (ab<|.inr (0,(c,i,()),id,()))) ->
   ao (aZ 0 n) (ag (Loop f (((0:Int),(0:Int),()),id,())) λd=>ao (da d.1 0) (ag (bM (l,(((@len fT l,()),()).1).1,(d.2.2.1,n,()),())) λm=>ab ((m.1,()),d.2.2.1,()))
    (ag (bM (l,((ao (aZ d.2.1.1 (0:Int)) ((@len fT l,()),()) ((d.2.1.1,()),())).1).1,(d.2.2.1,n,()),())) λm=>ab ((m.1,()),d.2.2.1,()))) (ab ((l,()),id,())) =
    ab (((if 0<n then kH (·.1) l (id,n,()) else l),()),id,()):=by
  intro l k b f I;by_cases q:0<n
  .rw[aP q,ae,aW q];exact anf l id n k b I
  .rw[aI ai,af,aQ q]
 unfold qe PJ;dsimp only;rw[cO ai,ae];rcases iQ (f:=pC ((E,F,G,H,a,u),_)) a (λj=>(((0:Int),j,()),id,())) (λ_ y=>decide (y.1=id)) (λi _=>(1,((i:Int),(i:Int),()),id,())) _ ai (λi y e o p=>by
  unfold pC;dsimp only;rw[aq o,ae,aM ai ft,ae,au e,aa,cZ,eA,p];by_cases q:y.1=id<;>simp[q]) (by unfold pC;dsimp only;rw[ay,af]) with ⟨i,y,e,N,B,h⟩|⟨O,h⟩
 rotate_left
 .have b:∀x∈a,x.1≠id:=λx g=>by
   obtain⟨i,o⟩:=bz.1 g
   grind
  rw[Wp _ b];refine ob h ?_;exact ob (go a ai b λc i=>rfl) rfl
 have o:=aG e;refine ob h ?_;have r:a.take i=(a.take<|i+1).filter (λx=>!decide (x.1=id)):=by
  rw[ED,e,LA];have C:(a.take i).filter (λx=>!decide (x.1=id))=a.take i:=Hs.2 λz t=>by
   obtain⟨j,J⟩:=bz.1 t
   grind
  grind
 obtain⟨w,L,C,P,Q,R⟩:=GS (f:=pD) a _ (λw j L=>((w,j,_),id,L,())) (λw L=>((w,(L.length:Int),_),id,L,())) ai (λw j L x g v S B p K=>by
  unfold pD;dsimp only;have A:w<L.length:=ai;obtain⟨z,t⟩:∃z,L[w]?=ab z:=⟨_,ia A⟩;rw[aq B,ae,aM ai ft,ae,au v,aa,cZ,K];cases decide (x.1=id) with
  | true=>rfl
  | false =>
    rw[az,ae,aM ai ft,ae,au t,aa,aa,aa,aa,p,ig];rfl) (λw L=>by
  unfold pD;rw[ay,af];rfl) a.length i _ a ai ai ai rfl r rfl
 rw[aL ai];refine ob C ?_;dsimp only;have D:L.take w=vg (λx:fT=>x.1) a id:=by
  unfold vg
  grind
 have M:(vg (λx:fT=>x.1) a id).length<=a.length:=(sz _ a id).length_le;rw[aU ai ft<|sN _,ae,GU L w ai,aU (sN _) ai ai,ae,Cx L w ai,D];exact ob (go (vg (λx:fT=>x.1) a id) ai (λx g=>((AL _).1 g).2)
  (λc i=>by
   unfold zH;rw[Cx L w ai,D])) rfl
abbrev cf:=Int×Int×Tx×Tx×List Tx×Tx×Tx×Int×al
def acY(l:List Int)(v:Int)(j:l.length<=1000000):∃i:Int,iI (l,v,())=ab (i,())/\cj 0 i=decide (v∈l):=by
 unfold iI;rcases iQ (f:=gh (l,v,())) l (λi=>(((0:Int),i,()),())) (λ_ x=>decide (v=x)) (λi x=>(1,((i:Int),(i:Int),()),())) (0,((0:Int),(l.length:Int),()),()) ai (λi x a b c=>by
  unfold gh;dsimp only;rw[aq b,ae,au a,aa,eA,c];by_cases h:v=x<;>simp[aS,h]) (by unfold gh;dsimp only;rw[ay,af]) with ⟨i,x,a,d,k,h⟩|⟨e,h⟩
 .refine⟨(i:Int),by rw[h];rfl,?_⟩;rw[bO ai,dE];rw[iy d];exact eT a
 .refine⟨-1,by rw[h];rfl,?_⟩;rw[ea ai,cL];intro g;obtain⟨i,b⟩:=bz.1 g;have:=e i v b;simp at this
def wD(l:List Int)(v:Int)(a:l.length<=1000000):dd (l,v,())=ab (decide<|v∈l,()):=by
 obtain⟨i,b,c⟩:=acY l v a;unfold dd;dsimp only;rw[b,aa,c]
def PK(a:Int)(l:List Int):List Int:=if a∈l then [a] else []
def cG(c:cf):List Int :=
 if c.1=2\/c.1=11\/c.1=12 then [1,2,3] else if c.1=7 then [2,3] else if c.1=8 then [1,2] else
 if c.1=1\/c.1=3\/c.1=4\/c.1=5\/c.1=6 then [3] else if c.1=9\/c.1=10 then PK c.2.1 [1,2] else
 if c.1=13\/c.1=14\/c.1=15 then PK c.2.1 [1,2,3] else []
def aic(a b:Bool):((ao a ((a,()),()) ((b,()),())).1).1=(a||b):=by cases a<;>rfl
def WA(c:cf)(l:List Int)(a:l.length<=1000000):xI (c,l,())=ab (PK c.2.1 l,()):=by
 unfold xI PK;dsimp only;rw[wD l _ a,aa];by_cases h:c.2.1∈l
 .rw[aW h,dE h];rfl
 .rw[aQ h,cL h];rfl
def IC(c:cf):iP (c,())=ab (cG c,()):=by
 unfold iP cG;dsimp only;simp only[aic];rw[WA c [1,2] aY,WA c [1,2,3] aY,aa,aa];simp only[eA,aS,BS,pR];repeat' (first|rfl|split)
def N5(c:cf):(cG c).length<=3:=by
 unfold cG PK;repeat' (first|(simp;done)|split)
def eC(c:cf):Bool:=decide (c.1=2\/c.1=5\/c.1=6\/c.1=12)
def Eg(c:cf):mW (c,())=ab (eC c,()):=by
 unfold mW eC;dsimp only;rw[wD _ _ aY,aa]
 congr 2
 apply hH.2;simp
def JG(c:cf):Option Tx :=
 if c.1=1 then(if c.2.2.2.1=[]\/c.2.2.2.2.2.1=[] then ah else ab c.2.2.2.1) else if c.1=3\/c.1=4 then ab c.2.2.1 else ah
def AR(s:aA)(k:Int)(a:Tx):List Tx :=
 if(aX (eS s) a).2.1=0 then(if k=3 then [(aX (eS s) a).1] else(bj s.2.2.1 (aX (eS s) a).1).1.map (·.1)) else []
def sG(s:aA)(c:cf):List Tx:=match JG c with|some ref=>AR s c.1 ref|none=>[]
def afW{f:(al×Int×al)×List Tx×al->Option (((al×Int×al)×List Tx×al)⊕((al×Int×al)×List Tx×al))}(l:List aD)(h:l.length<=1000000)
  (b:∀a,f a=dn (ao (aZ a.1.2.1<|len l) (ag (idx l a.1.2.1) λc=>ao (fits<|plus (len a.2.1)<|len ([c.1]:List Tx)) (ab<|Sum.inl (((),aH i64 a.1.2.1 1,()),app a.2.1 ([c.1]:List Tx),())) ah)<|some<|Sum.inr (0,((),a.1.2.1,()),a.2.1,()))) :
  Loop f (((),(0:Int),()),([]:List Tx),())=ab (((),(l.length:Int),()),(l.map (·.1),())):=by
 have key:=rY (f:=f) l (λ(out:List Tx) (i:Int)=>(((),i,()),out,())) (λx=>[x.1]) (((),(l.length:Int),()),(l.map (·.1),())) ai (λi x d e g=>by
  have j:((l.take i).flatMap λx:aD=>[x.1]).length<=1000000:=by
   rw[<-ZG,uI,km];omega
  rw[b];dsimp only;rw[aq e,ae,au d,aa,bo (by rw[DE];omega),ae,g];rfl) (by
  rw[b];dsimp only;rw[ay,af,<-ZG];rfl)
 exact key
def Ze{s:aA}(h:AN s)(k:Int)(b:Tx)(j:(bj s.2.2.1 (aX (eS s) b).1).1.length<=1000000)
  {f:List aD×Int×al->(al×Int×al)×List Tx×al->Option (((al×Int×al)×List Tx×al)⊕((al×Int×al)×List Tx×al))}
  (l:∀c a,f c a=dn (ao (aZ a.1.2.1<|len c.1) (ag (idx c.1 a.1.2.1) λi=>ao (fits<|plus (len a.2.1)<|len ([i.1]:List Tx)) (ab<|Sum.inl (((),aH i64 a.1.2.1 1,()),app a.2.1 ([i.1]:List Tx),())) ah)<|some<|Sum.inr (0,((),a.1.2.1,()),a.2.1,())))
  {F:Option (Tx×Int×al)} {C:Tx->Option (List aD×Int×al)} (m:F=ab (aX (eS s) b)) (n:∀id,C id=ab ((bj s.2.2.1 id).1,(bj s.2.2.1 id).2,())) :
  ag F (λg=>ao (nt<|aS g.2.1 0) (ab (([]:List Tx),())) (ao (aS k 3) (ab (([g.1]:List Tx),()))<|ag (C g.1) λc=>ag (Loop (f c) (((),(0:Int),()),([]:List Tx),())) λa=>ab (a.2.1,())))=ab (AR s k b,()):=by
 rw[m,aa];unfold AR;by_cases d:(aX (eS s) b).2.1=0
 .rw[aW d,aE d,aF,af];by_cases e:k=3
  .rw[aW e,aE e,ae]
  .rw[aQ e,ax e,af,n,aa,afW _ j (λa=>l _ a),aa]
 .rw[aQ d,ax d,az,ae]
def WB(s:aA)(c:cf)(h:AN s)(j:∀id,(bj s.2.2.1 id).1.length<=1000000):uB (s,c,())=ab (sG s c,()):=by
 have i:∀id,kz (s.2.2.1,id,())=ab ((bj s.2.2.1 id).1,(bj s.2.2.1 id).2,()):=λid=>Fi s.2.2.1 id (by have:=h.ll;omega) (λx k=>by have:=(h.ln x k).1;omega);have key:=λb=>Ze h c.1 b (j _) (f:=zN) (λl m=>rfl) (C:=λid=>kz (s.2.2.1,id,())) (gb s b h) i;unfold uB sG JG;dsimp only;by_cases d:c.1=1
 .rw[aW d,aE d,ae];by_cases e:c.2.2.2.1=[]
  .rw[aW<|.inl e,cZ,dE e,aF,af,af,ax ai,az,ae,ax ai,az,ae,aa];rfl
  .rw[cZ,cL e,az,ae,cZ];by_cases a:c.2.2.2.2.2.1=[]
   .rw[aW<|.inr a,dE a,aF,af,ax ai,az,ae,ax ai,az,ae,aa];rfl
   .rw[aQ<|by rintro(q|q);exact e q;exact a q,cL a,az,ae,aa];exact key _
 .rw[aQ d,ax d,af,af,af];by_cases a:c.1=3
  .rw[aW<|.inl a,aE a,aF,af,af,aa];have:=key c.2.2.1;rw[aE a] at this;exact this
  .by_cases g:c.1=4
   .rw[aW<|.inr g,ax a,az,ae,aE g,aF,af,aa];have:=key c.2.2.1;rw[ax a] at this;exact this
   .rw[aQ<|by rintro(q|q);exact a q;exact g q,ax a,az,ae,ax g,az,ae,aa];rfl
set_option maxRecDepth 100000
def DO(a:List aD)(b:List Tx)(g:Nat->aD->Option Tx):List Tx:=(a.zip b).mapIdx λi p=>(g i p.1).getD p.2
def zP{a:List aD}{b:List Tx}{g:Nat->aD->Option Tx}(h:b.length=a.length):(DO a b g).length=a.length:=by
 unfold DO;rw[List.length_mapIdx,adP,h];omega
def Tz{a:List aD}{b:List Tx}{g:Nat->aD->Option Tx}{i:Nat}{x:aD}{d:Tx}(c:a[i]?=ab x)(e:b[i]?=ab d):(DO a b g)[i]?=ab ((g i x).getD d):=by
 unfold DO
 grind
def s7(b:List aD)(a:List Tx)(g:Nat->aD->Option Tx)(i:Nat):List Tx:=(DO b a g).take i++a.drop i
def WC{b:List aD}{a:List Tx}{g:Nat->aD->Option Tx}{i:Nat}{d:Tx}(h:a.length=b.length)(c:a[i]?=ab d):(s7 b a g i)[i]?=ab d:=by
 have hi:=aG c;have e:((DO b a g).take i).length=i:=by rw[km,zP h];omega
 unfold s7
 grind
def Rr{a:List aD}{b:List Tx}{g:Nat->aD->Option Tx}{i:Nat}(h:b.length=a.length)(c:i<=a.length):(s7 a b g i).length=a.length:=by
 unfold s7;rw[hY,km,zP h,nV];omega
def N6{b:List aD}{a:List Tx}{g:Nat->aD->Option Tx}{i:Nat}{x:aD}{d:Tx}(h:a.length=b.length)(e:b[i]?=ab x)(c:a[i]?=ab d) :
  s7 b a g (i+1)=(match g i x with|some v=>(s7 b a g i).set i v|none=>s7 b a g i):=by
 have hi:=aG c;have m:((DO b a g).take i).length=i:=by rw[km,zP h];omega
 have f:(DO b a g).take (i+1)=(DO b a g).take i++[(g i x).getD d]:=by
  rw[ED,Tz e c];rfl
 have j:a.drop i=d::a.drop (i+1):=by
  rw[zg hi]
  grind
 have k:s7 b a g i=(DO b a g).take i++d::a.drop (i+1):=by unfold s7;rw[j]
 have l:s7 b a g (i+1)=(DO b a g).take i++(g i x).getD d::a.drop (i+1):=by unfold s7;rw[f,uH];rfl
 rw[l,k];cases g i x with
 | none=>rfl
 | some v =>
   simp_all
def Rs{a:List aD}{b:List Tx}{g:Nat->aD->Option Tx}(h:b.length=a.length):s7 a b g a.length=DO a b g:=by
 unfold s7;rw[Hp<|by rw[zP h];omega,JT ai,zi]
def tJ(l:List Int)(a:List Bool)(c:cf)(b:cG c=l)(d:Loop (yw (l,())) (((0:Int),()),[false,false,false,false],())=ab (((l.length:Int),()),a,())):lP (c,())=ab (a,()):=by
 unfold lP;rw[IC c,aa,b,d,aa]
def WD(c:cf):cG c=[1,2,3]\/cG c=[2,3]\/cG c=[1,2]\/cG c=[1]\/cG c=[2]\/cG c=[3]\/cG c=[]:=by
 unfold cG PK
 grind
def dD(c:cf)(k:Int):Bool:=decide (k∈cG c)
def N7(c:cf):lP (c,())=ab ([false,dD c 1,dD c 2,dD c 3],()):=by
 unfold dD;rcases WD c with h|h|h|h|h|h|h<;>rw[h]
 .refine tJ _ [false,true,true,true] c h ?_;obtain rfl:‹Lp›=Lp.l7:=Lp.one _ _;kernel_rfl
 .refine tJ _ [false,false,true,true] c h ?_;obtain rfl:‹Lp›=Lp.l7:=Lp.one _ _;kernel_rfl
 .refine tJ _ [false,true,true,false] c h ?_;obtain rfl:‹Lp›=Lp.l7:=Lp.one _ _;kernel_rfl
 .refine tJ _ [false,true,false,false] c h ?_;obtain rfl:‹Lp›=Lp.l7:=Lp.one _ _;kernel_rfl
 .refine tJ _ [false,false,true,false] c h ?_;obtain rfl:‹Lp›=Lp.l7:=Lp.one _ _;kernel_rfl
 .refine tJ _ [false,false,false,true] c h ?_;obtain rfl:‹Lp›=Lp.l7:=Lp.one _ _;kernel_rfl
 .refine tJ _ [false,false,false,false] c h ?_;obtain rfl:‹Lp›=Lp.l7:=Lp.one _ _;kernel_rfl
def ha{a:Type}(b:Bool)(x y:a):a:=bif b then x else y
def vM(s:aA)(a:List Tx)(i:Nat)(x:aD):Option Tx:=if i<s.2.2.2.1.length/\x.1∈a then s.2.2.2.1[i]? else ah
def gP(s:aA)(c:cf):List Tx:=DO s.2.2.1 (List.replicate s.2.2.1.length []) (vM s<|sG s c)
def fb(s:aA)(c:cf):aA:=(ha (dD c 1) s.1 [],ha (dD c 2) s.2.1 [],ha (dD c 3) s.2.2.1 [],ha (dD c 3) (gP s c) [],ha (eC c) s.2.2.2.2.1 [],())
def acZ(s:aA)(c:cf)(a:List Tx)(w:s.2.2.1.length<=1000000)(u:a.length<=1000000)(b:List ep)(j:List bI)(k:List aD)(l:List fT) :
  Loop (mX (s,c,()) (a,())) (((0:Int),()),(b,j,k,(),l,()),List.replicate s.2.2.1.length [],()) =
   ab (((s.2.2.1.length:Int),()),(b,j,k,(),l,()),DO s.2.2.1 (List.replicate s.2.2.1.length [])<|vM s a,()):=by
 have m:(List.replicate s.2.2.1.length ([]:Tx)).length=s.2.2.1.length:=Qj;have key:=dh (f:=mX (s,c,()) (a,())) (r:=(((s.2.2.1.length:Int),()),(b,j,k,(),l,()),DO s.2.2.1 (List.replicate s.2.2.1.length [])<|vM s a,())) s.2.2.1.length
  (λi:Nat=>(((i:Int),()),(b,j,k,(),l,()),s7 s.2.2.1 (List.replicate s.2.2.1.length []) (vM s a) i,()))
  (λi n=>by
   have hx:s.2.2.1[i]?=ab s.2.2.1[i]:=ia n;have hd:(List.replicate s.2.2.1.length ([]:Tx))[i]?=ab []:=by rw[Zz,aW n]
   have t:=WC (g:=vM s a) m hd;have d:=N6 (g:=vM s a) m hx hd;have hlen:=Rr (g:=vM s a) m (ZV n);have v:aH .i64 (i:Int) 1=((i+1:Nat):Int):=aL ai;unfold mX;dsimp only;rw[aq n,ae,au hx,aa,v];by_cases o:i<s.2.2.2.1.length
   .rw[aq o,ae,xe _ _ ai,aa,aa];by_cases p:s.2.2.1[i].1∈a
    .have e:s.2.2.2.1[i]?=ab s.2.2.2.1[i]:=ia o;have h:vM s a i s.2.2.1[i]=ab s.2.2.2.1[i]:=by unfold vM;rw[aW ⟨o,p⟩,e]
     rw[h] at d;rw[dE p,ae,au e,aa,show within (i:Int) (len<|s7 s.2.2.1 (List.replicate s.2.2.1.length []) (vM s a) i)=true from aM ai (by unfold len;rw[hlen];omega),ae,au t,aa,aa,aa,aa,d];rfl
    .have h:vM s a i s.2.2.1[i]=none:=by unfold vM;rw[aQ λq=>p q.2]
     rw[h] at d;rw[cL p,af,aa,d];rfl
   .have h:vM s a i s.2.2.1[i]=none:=by unfold vM;rw[aQ λq=>o q.1]
    rw[h] at d;rw[aI ft,af,aa,af,aa,d];rfl)
  (by
   unfold mX;rw[ay,af,Rs m];rfl)
 have e0:s7 s.2.2.1 (List.replicate s.2.2.1.length []) (vM s a) 0=List.replicate s.2.2.1.length []:=rfl
 grind
def aaS(l:List ep)(h:l.length<=1000000):dC (l,())=ab (l,()):=by
 unfold dC;rw[cO<|by show l.length<=_;omega];rfl
structure Zf (s:aA):Prop where
 hd:AN s
 dl:s.2.2.2.1.length<=1000000
 ml:s.2.2.2.2.1.length<=1000000
def Zg(s:aA)(c:cf):(sG s c).length<=16:=by
 unfold sG AR;split
 .split
  .split
   .simp
   .rw[uI];exact pF.2
  .simp
 .simp
def vb{a:Type}(b:Bool)(x y:a):ao b (ab x) (ab y)=ab (ha b x y):=by cases b<;>rfl
def afX(s:aA)(c:cf)(h:Zf s):wA (s,c,())=ab (fb s c,()):=by
 have a:=h.hd.ll;have b:=aaS s.1 (by have:=h.hd.bl;omega);have ci:b3 (s.2.1,())=ab (s.2.1,()):=by
  unfold b3;rw[cO (by have:=h.hd.il;show s.2.1.length<=_;omega)];rfl
 have d:b4 (s.2.2.1,())=ab (s.2.2.1,()):=by
  unfold b4;rw[cO<|by show s.2.2.1.length<=_;omega];rfl
 have e:b5 (s.2.2.2.2.1,())=ab (s.2.2.2.2.1,()):=by
  unfold b5;rw[cO (by have:=h.ml;show s.2.2.2.2.1.length<=_;omega)];rfl
 unfold wA;rw[N7,aa,WB s c h.hd (λid=>by have:=(pF (ls:=s.2.2.1) (id:=id)).2;omega),aa];rw[show within (1:Int) 4=true from rfl,ae,show idx [false,dD c 1,dD c 2,dD c 3] (1:Int)=ab (dD c 1) from rfl,aa,b,aa,vb,aa];rw[show within (2:Int) 4=true from rfl,ae,show idx [false,dD c 1,dD c 2,dD c 3] (2:Int)=ab (dD c 2) from rfl,aa,ci,aa,vb,aa];rw[Eg,aa,e,aa];rw[vb,aa,show within (3:Int) 4=true from rfl,ae,show idx [false,dD c 1,dD c 2,dD c 3] (3:Int)=ab (dD c 3) from rfl,aa,d,aa];rw[show inside (0:Int) (len s.2.2.1) (len s.2.2.1)=true from aU ai ft ai,ae,show fits (len s.2.2.1)=true from cO ai,ae];rw[show(kn (len s.2.2.1) ([]:Tx))=List.replicate s.2.2.1.length [] from by unfold kn len;rw[pS]];rw[acZ s c (sG s c) ai (by have:=Zg s c;omega),aa,vb];unfold fb gP;cases dD c 1<;>cases dD c 2<;>cases dD c 3<;>cases eC c<;>rfl
end Go.Ge
namespace Go.Ge
variable [Lp]
set_option maxRecDepth 100000
def Zh(s:aA)(i:Nat)(x:aD):Option Tx:=if(lQ s x.1).2.2.1=true then ab (lQ s x.1).2.1 else ah
def G2(s p:aA):List Tx:=DO p.2.2.1 (tI p.2.2.1.length p.2.2.2.1) (Zh s)
def jnF(s:aA)(c:cf)(p:aA):aA:=(ha (dD c 1) p.1 s.1,ha (dD c 2) p.2.1 s.2.1,ha (dD c 3) p.2.2.1 s.2.2.1,ha (dD c 3) (G2 s p) s.2.2.2.1,ha (eC c) p.2.2.2.2.1 s.2.2.2.2.1,())
def afY(n:Nat)(a:List Tx):over (kn (n:Int) ([]:Tx)) (0:Int) (jd a<|len<|kn (n:Int) ([]:Tx))=tI n a:=by
 unfold over kn jd len tI;rw[pS,Qj,pS];simp only[Int.toNat_zero,ZQ,BG,BT,km,List.drop_replicate]
 congr 2
 omega
def ac0(s p:aA)(c:cf)(o:Zf s)(v:p.2.2.1.length<=1000000)(b:List ep)(h:List bI)(j:List aD)(k:List fT) :
  Loop (mY (s,c,p,())) (((0:Int),()),(b,h,j,(),k,()),tI p.2.2.1.length p.2.2.2.1,()) =
   ab (((p.2.2.1.length:Int),()),(b,h,j,(),k,()),G2 s p,()):=by
 have d:(tI p.2.2.1.length p.2.2.2.1).length=p.2.2.1.length:=xK _ _;have t:=o.hd.ll;have key:=dh (f:=mY (s,c,p,())) (r:=(((p.2.2.1.length:Int),()),(b,h,j,(),k,()),G2 s p,())) p.2.2.1.length
  (λi:Nat=>(((i:Int),()),(b,h,j,(),k,()),s7 p.2.2.1 (tI p.2.2.1.length p.2.2.2.1) (Zh s) i,()))
  (λi l=>by
   have hx:p.2.2.1[i]?=ab p.2.2.1[i]:=ia l;have hd:(tI p.2.2.1.length p.2.2.2.1)[i]?=ab (tI p.2.2.1.length p.2.2.2.1)[i]:=ia (by rw[d];exact l);have m:=WC (g:=Zh s) d hd;have a:=N6 (g:=Zh s) d hx hd;have hlen:=Rr (g:=Zh s) d (ZV l);have u:aH .i64 (i:Int) 1=((i+1:Nat):Int):=aL ai;have e:=yx s p.2.2.1[i].1 ai (λx hx=>by have:=(o.hd.ln x hx).1;omega);unfold mY;dsimp only;rw[aq l,ae,au hx,aa,e,aa,u];cases q:(lQ s p.2.2.1[i].1).2.2.1 with
   | true =>
     have n:Zh s i p.2.2.1[i]=ab (lQ s p.2.2.1[i].1).2.1:=by unfold Zh;rw[aW q]
     rw[n] at a;rw[ae,show within (i:Int) (len<|s7 p.2.2.1 (tI p.2.2.1.length p.2.2.2.1) (Zh s) i)=true from aM ai (by unfold len;rw[hlen];omega),ae,au m,aa,aa,aa,aa,a];unfold lS;rw[pS];rfl
   | false =>
     have n:Zh s i p.2.2.1[i]=none:=by unfold Zh;rw[aQ<|by rw[q];simp]
     rw[n] at a;rw[af,aa,a];rfl)
  (by
   unfold mY;dsimp only;rw[ay,af,Rs d];rfl)
 exact key
def afZ(s p:aA)(c:cf)(h:Zf s)(a:Zf p):wB (s,c,p,())=ab (jnF s c p,()):=by
 have b:=a.hd.ll;have d:=aaS p.1 (by have:=a.hd.bl;omega);have ci:b3 (p.2.1,())=ab (p.2.1,()):=by
  unfold b3;rw[cO (by have:=a.hd.il;show p.2.1.length<=_;omega)];rfl
 have e:b4 (p.2.2.1,())=ab (p.2.2.1,()):=by
  unfold b4;rw[cO<|by show p.2.2.1.length<=_;omega];rfl
 have f:b5 (p.2.2.2.2.1,())=ab (p.2.2.2.2.1,()):=by
  unfold b5;rw[cO (by have:=a.ml;show p.2.2.2.2.1.length<=_;omega)];rfl
 unfold wB;dsimp only;rw[N7,aa];dsimp only;rw[show within (1:Int) 4=true from rfl,ae,show idx [false,dD c 1,dD c 2,dD c 3] (1:Int)=ab (dD c 1) from rfl,aa,d,aa,vb,aa];rw[show within (2:Int) 4=true from rfl,ae,show idx [false,dD c 1,dD c 2,dD c 3] (2:Int)=ab (dD c 2) from rfl,aa,ci,aa,vb,aa];rw[Eg,aa,f,aa];dsimp only;rw[vb,aa,show within (3:Int) 4=true from rfl,ae,show idx [false,dD c 1,dD c 2,dD c 3] (3:Int)=ab (dD c 3) from rfl,aa,e,aa];rw[show inside (0:Int) (len p.2.2.1) (len p.2.2.1)=true from aU ai ft ai,ae,show fits (len p.2.2.1)=true from cO ai,ae];dsimp only;rw[show(len p.2.2.1)=((p.2.2.1.length:Nat):Int) from rfl,afY];rw[ac0 s p c h ai,aa,vb];unfold jnF;cases dD c 1<;>cases dD c 2<;>cases dD c 3<;>cases eC c<;>rfl
end Go.Ge
namespace Go.Ge
variable [Lp]
def Rt{s:aA}(h:AN s):Small (AM s):=Dm 1 _ h.ah2
def aaT{s:aA}(h:AN s):(AM s).length<=40:=jb (lW SN _) h.bl
def Bs(s:aA)(h:AN s):kB (s,())=ab (AM s,()):=by
 unfold kB;rw[vZ 1 _ h.ah2,aa];rfl
def N8(s:aA)(a:Tx)(h:AN s):wy (s,a,())=ab (aX (AM s) a):=by
 unfold wy;rw[Bs s h,aa,mN _ _ (Rt h) (by have:=aaT h;omega),aa]
def PL(s:aA)(x:ep)(p:s.1.length<=1000000)(v:x.2.1.length<=4294967296)(m:x.2.2.2.2.2.1.length<=4294967296)(c:∀y∈s.1,y.1≠x.1) :
  kh (s,x,())=ab ((kH (·.1) s.1 x,s.2),()):=by
 obtain⟨b,d⟩:=s;obtain⟨a,e,g,h,j,k,u⟩:=x;dsimp only at p v m c;unfold kh;dsimp only;rw[cO ai,ae];rcases wC (f:=jv ((b,d),(a,e,g,h,j,k,u),())) b (λy=>decide (y.1=a)) (λq=>(q,a,())) p (λi y n m=>by
  unfold jv;dsimp only;rw[aq m,ae,aM ai ft,ae,au n,aa,cZ,eA];by_cases q:y.1=a<;>simp[q]) (by unfold jv;dsimp only;rw[ay,af]) with ⟨i,y,n,z,_⟩|⟨_,r⟩
 .exact absurd (iy z) (c y<|eT n)
 rw[r,aa];rw[bW,ae,rv _ v,aa,ry _ m,aa];have o:=tE (f:=sA ((b,d),(a,e,g,h,j,k,u),())) (·.1) b a p (λi=>(((0:Int),i,()),(a,e,g,h,j,k,u),())) (λi=>(1,((i:Int),(i:Int),()),(a,e,g,h,j,k,u),()))
  (0,((0:Int),(b.length:Int),()),(a,e,g,h,j,k,u),()) (λi y n=>by
   have m:=aG n;unfold sA;dsimp only;rw[aq m,ae,aM ai ft,ae,au n,aa,aL ai];cases fq y.1 a<;>rfl) (by unfold sA;dsimp only;rw[ay,af])
 rw[o,aa];have l:=tD (·.1) b ((a,e,g,h,j,k,u):ep) p;unfold bY;by_cases w:cK (λy:ep=>y.1) b a<b.length
 .rw[aW w];dsimp only;rw[show da 1 0=false from rfl,af,aI ai,af];rw[show uU b ((cK (λy:ep=>y.1) b a:Nat):Int) [((a,e,g,h,j,k,u):ep)]=_ from l,aa]
 .rw[aQ w];have t:cK (λy:ep=>y.1) b a=b.length:=by have:=pG (λy:ep=>y.1) b a;omega
  rw[bW,ae];rw[bE,<-t,show uU b ((cK (λy:ep=>y.1) b a:Nat):Int) [((a,e,g,h,j,k,u):ep)]=_ from l,aa]
def y4(s:aA)(id:Tx)(h:AN s)(b:∀x∈s.1,tw x.2.2.2.2.2.1):∃r,rz (s,id,())=ab r/\(∀x∈s.1,vu (·.1) s.1->x.1=id->r=(x,true,())):=by
 have e:=h.bl;unfold rz;rcases wC (f:=sC (s,id,())) s.1 (λy=>decide (y.1=id)) (λq=>(q,id,())) ai (λi y a g=>by
  unfold sC;rw[aq g,ae,au a,aa,cZ,eA];by_cases q:y.1=id<;>simp[q]) (by unfold sC;dsimp only;rw[ay,af]) with ⟨i,y,a,j,c⟩|⟨n,c⟩
 .have d:=eT a;rw[c,aa];dsimp only;rw[show da 1 0=false from rfl,af,aI ai,af,au a,aa,rv _ (h.bn y d).small,aa,ry _ (by have:=(b y d).1;omega),aa];refine⟨(y,true,()),rfl,λx k l m=>?_⟩;rw[l.inj (λz:ep=>z.1) k d<|m.trans (iy j).symm]
 .rw[c,aa];rw[bW,ae]
  grind
def CK(s:aA)(id:Tx):Tx:=((s.2.1.find?<|λx=>decide (x.1=id)).map λx:bI=>x.2.2.1).getD []
def ac1{s:aA}(c:vu (·.1) s.2.1){x:bI}(b:x∈s.2.1):CK s x.1=x.2.2.1:=by
 unfold CK;cases a:s.2.1.find? (λy=>decide (y.1=x.1)) with
 | none=>have:=T6.1 a x b;simp at this
 | some y =>
   have d:=Xf a;have e:y.1=x.1:=by simpa using Qo a
   rw[c.inj (λz:bI=>z.1) d b e];rfl
def DP(s:aA)(a:Tx):Tx:=if a=[] then [] else(aX (xG s) a).1
def PM(d:Int):Int:=jV i64 d 16777215
def Eh(d:Int):Int:=jV i64 (mE i64 d 24) 16777215
def crB(s:aA)(a:Tx)(b:List Tx)(c:Tx)(d:Int):aA×tF×al :=
 if jk b≠0\/64<c.length then(s,iZ 1,()) else
 if a≠[]/\(aX (xG s) a).2.1≠0 then(s,iZ (aX (xG s) a).2.1,()) else
 if mL (AM s) [] b≠0 then(s,iZ<|mL (AM s) [] b,()) else
 if(cC (AM s)<|PM d).2.1≠0 then(s,iZ (cC (AM s)<|PM d).2.1,()) else
 if(Wy s (if a=[] then [] else CK s (DP s a)) []<|Eh d).2.1.1≠0 then(s,iZ (Wy s (if a=[] then [] else CK s (DP s a)) []<|Eh d).2.1.1,()) else
 ((kH (·.1) s.1 ((cC (AM s)<|PM d).1,b,DP s a,(Wy s (if a=[] then [] else CK s (DP s a)) []<|Eh d).2.1.2.1,c,[],()),(Wy s (if a=[] then [] else CK s (DP s a)) []<|Eh d).1.2),
  (0,(cC (AM s)<|PM d).1,0,(Wy s (if a=[] then [] else CK s (DP s a)) []<|Eh d).2.1.2.1,()),())
def ac2(s:aA)(b:Tx)(a:List Tx)(d:Int):(Wy s b a d).1.1=s.1:=by
 unfold Wy;split
 .rfl
 split
 .rfl
 split
 .rfl
 split
 .rfl
 split
 .rfl
 rfl
def aid{s:aA}{x:ep}(a:x∈s.1):((x.1,x.2.1,()):Nm)∈AM s:=by
 unfold AM;rw[Lv];exact⟨x,a,by unfold ofB;exact yE.2 rfl⟩
def Ll{s:aA}{y:Nm}(h:y∈AM s):∃x∈s.1,y=(x.1,x.2.1,()):=by
 unfold AM at h;rw[Lv] at h;obtain⟨x,b,a⟩:=h;unfold ofB at a
 grind
def ID(s:aA)(a:Tx)(b:List Tx)(c:Tx)(d:Int)(h:AN s)(i:vu (·.1) s.2.1)(o:b.length<=4294967296) :
  lO (s,a,b,c,d,())=ab (crB s a b c d):=by
 have A:=h.bl;unfold lO crB;have p:aZ (64:Int) (@len UInt8 c)=decide (64<c.length):=by unfold aZ len;apply hH.2;omega
 rw[rm b o,aa,p];by_cases c1:jk b=0
 rotate_left
 .rw[aW<|.inl c1,ax c1];rfl
 by_cases c2:64<c.length
 .rw[aW<|.inr c2,aE c1,dE c2];rfl
 rw[aQ<|by rintro(q|q);exact q c1;exact c2 q,aE c1,cL c2,aF,az,ae,af,cZ];have t:(ao (nt<|decide<|a=[]) (ag (iN (s,a,())) λj=>ab ((j.2.1,()),(([]:Tx),b,j.1,([]:Tx),c,([]:List Item),()),()))<|some (((0:Int),()),(([]:Tx),b,([]:Tx),([]:Tx),c,([]:List Item),()),())) =
   ab (((if a=[] then 0 else(aX (xG s) a).2.1),()),(([]:Tx),b,DP s a,([]:Tx),c,([]:List Item),()),()):=by
  unfold DP;by_cases q:a=[]
  .rw[dE q,aF,af,aW q,aW q]
  .rw[cL q,az,ae,Br s a h,aa,aQ q,aQ q]
 rw[show(ao (nt<|decide<|a=[]) (ag (iN (s,a,())) λj=>ab ((j.2.1,()),(([]:aw),b,j.1,([]:aw),c,([]:List (aw×aw×aw×al)),()),()))<|some (((0:Int),()),(([]:aw),b,([]:aw),([]:aw),c,([]:List (aw×aw×aw×al)),()),()))=_ from t,aa];have f:(a≠[]/\(aX (xG s) a).2.1≠0)↔¬((if a=[] then 0 else(aX (xG s) a).2.1)=0):=by
  by_cases q:a=[]
  .simp[q]
  .simp[q]
 have k:(a≠[]/\(aX (xG s) a).2.1≠0)->(if a=[] then 0 else(aX (xG s) a).2.1)=(aX (xG s) a).2.1:=λq=>aQ q.1;by_cases c3:(if a=[] then 0 else(aX (xG s) a).2.1)=0
 rotate_left
 .rw[aW<|f.2 c3,ax c3];simp only[az,ae,af,aa,ax c3];rw[k<|f.2 c3];rfl
 rw[aQ<|λq=>f.1 q c3,aE c3];simp only[ae];rw[Bs s h,aa,ot (AM s) [] b (Rt h) o,aa,aa];by_cases c4:mL (AM s) [] b=0
 rotate_left
 .rw[aW<|show mL (AM s) [] b≠0 from c4,ax c4];simp only[az,ae,af,aa,ax c4];rfl
 rw[aQ<|show ¬(mL (AM s) [] b≠0) from λq=>q c4,aE c4];simp only[ae,aa];rw[show jV i64 d 16777215=PM d from rfl,Ds,aa,aa];by_cases c5:(cC (AM s)<|PM d).2.1=0
 rotate_left
 .rw[aW<|show(cC (AM s)<|PM d).2.1≠0 from c5,ax c5];simp only[az,ae,af,aa,ax c5];rfl
 rw[aQ<|show ¬((cC (AM s)<|PM d).2.1≠0) from λq=>q c5,aE c5];simp only[aF,af];obtain⟨g,u,v⟩:=xH s (DP s a) h;rw[u,aa];have l:((((((ao (decide<|a=[]) (((),(([]:Tx),([]:List Tx),([]:Tx),([]:Tx),([]:List Item),()),()):al×bI×al) ((),g.1,())).2).1).2).2).1)=(if a=[] then [] else CK s (DP s a)):=by
  by_cases q:a=[]
  .rw[dE q,ae,aW q]
  .rw[cL q,af,aQ q];rw[aQ q] at c3;obtain⟨y,m,n⟩:=zO c3;obtain⟨x,z,rfl⟩:=Lk m;have n:x.1=DP s a:=by unfold DP;rw[aQ q];exact n
   rw[v x z i n,<-n,ac1 i z]
 rw[show((((((ao (decide<|a=[]) (((),(([]:aw),([]:List aw),([]:aw),([]:aw),([]:List (aw×aw×aw×al)),()),()):al×bI×al) ((),g.1,())).2).1).2).2).1)=_ from l];rw[show jV i64 (mE i64 d 24) 16777215=Eh d from rfl,vv s _ [] (Eh d) h aY,aa];have e:=ac2 s (if a=[] then [] else CK s (DP s a)) [] (Eh d);generalize Wy s (if a=[] then [] else CK s (DP s a)) [] (Eh d)=r at e;by_cases c6:r.2.1.1=0
 rotate_left
 .rw[aW c6,ax c6,az,ae];rfl
 rw[aQ<|λq=>q c6,aE c6,aF,af];obtain⟨_,_,w⟩:=GJ c5;rw[PL r.1 _ (by rw[e];omega) o aY<|λy m=>by rw[e] at m;exact w _ (aid m),aa,e]
def Ei(s:aA)(x:ep)(t:s.1.length<=1000000)(v:x.2.1.length<=4294967296)(m:x.2.2.2.2.2.1.length<=4294967296)(w:vu (·.1) s.1)(c:∃y∈s.1,y.1=x.1) :
  kh (s,x,())=ab ((kH (·.1) (vg (·.1) s.1 x.1) x,s.2),()):=by
 obtain⟨b,n⟩:=s;obtain⟨a,g,h,j,k,l,u⟩:=x;dsimp only at t v m c w;unfold kh;dsimp only;rw[cO ai,ae];rcases wC (f:=jv ((b,n),(a,g,h,j,k,l,u),())) b (λy=>decide (y.1=a)) (λq=>(q,a,())) t (λi y d m=>by
  unfold jv;dsimp only;rw[aq m,ae,aM ai ft,ae,au d,aa,cZ,eA];by_cases q:y.1=a<;>simp[q]) (by unfold jv;dsimp only;rw[ay,af]) with ⟨i,y,d,B,C⟩|⟨p,_⟩
 rotate_left
 .obtain⟨y,d,D⟩:=c;have:=p y d;simp[D] at this
 rw[C,aa];dsimp only;rw[show da 1 0=false from rfl,af,bO ai,ae];unfold cH;dsimp only;rw[Lj (λz:ep=>z.1) b a w i y d (iy B) ai,aa,aa,rv _ v,aa,ry _ m,aa];dsimp only;have E:=(sz (λz:ep=>z.1) b a).length_le;have o:=tE (f:=sB (((),()),vg (λz:ep=>z.1) b a,())) (·.1) (vg (λz:ep=>z.1) b a) a ai (λi=>(((0:Int),i,()),(a,g,h,j,k,l,u),())) (λi=>(1,((i:Int),(i:Int),()),(a,g,h,j,k,l,u),()))
  (0,((0:Int),((vg (λz:ep=>z.1) b a).length:Int),()),(a,g,h,j,k,l,u),()) (λi y d=>by
   have m:=aG d;unfold sB;dsimp only;rw[aq m,ae,aM ai ft,ae,au d,aa,aL ai];cases fq y.1 a<;>rfl) (by unfold sB;dsimp only;rw[ay,af])
 rw[o,aa];have e:=tD (·.1) (vg (λz:ep=>z.1) b a) ((a,g,h,j,k,l,u):ep) ai;unfold bY;by_cases A:cK (λy:ep=>y.1) (vg (λz:ep=>z.1) b a) a<(vg (λz:ep=>z.1) b a).length
 .rw[aW A];dsimp only;rw[show da 1 0=false from rfl,af,aI ai,af];dsimp only;rw[show uU (vg (λz:ep=>z.1) b a) ((cK (λy:ep=>y.1) (vg (λz:ep=>z.1) b a) a:Nat):Int) [((a,g,h,j,k,l,u):ep)]=_ from e,aa]
 .rw[aQ A];dsimp only;have r:cK (λy:ep=>y.1) (vg (λz:ep=>z.1) b a) a=(vg (λz:ep=>z.1) b a).length:=by have:=pG (λy:ep=>y.1) (vg (λz:ep=>z.1) b a) a;omega
  rw[bW,ae];rw[bE,<-r,show uU (vg (λz:ep=>z.1) b a) ((cK (λy:ep=>y.1) (vg (λz:ep=>z.1) b a) a:Nat):Int) [((a,g,h,j,k,l,u):ep)]=_ from e,aa]
def CL(s:aA)(x:bI)(D:s.2.1.length<=1000000)(w:x.2.1.length<=4294967296)(d:x.2.2.2.2.1.length<=4294967296)(A:vu (·.1) s.2.1)(e:∃y∈s.2.1,y.1=x.1) :
  iD (s,x,())=ab ((s.1,(kH (·.1) (vg (·.1) s.2.1 x.1) x,s.2.2)),()):=by
 obtain⟨B,b,g⟩:=s;obtain⟨a,j,k,l,m,u⟩:=x;dsimp only at D w d e A;unfold iD;dsimp only;rw[rv _ w,aa,ry _ d,aa];unfold ef;dsimp only;rw[aa,cO ai,ae];have o:∃(i:Nat) (y:bI),b[i]?=ab y/\y.1=a/\Loop (fk ((B,b,g),(a,j,k,l,m,u),())) (((0:Int),(0:Int),()),(),a,())=ab (1,((i:Int),(i:Int),()),(),a,()):=by
  rcases iQ (f:=fk ((B,b,g),(a,j,k,l,m,u),())) b (λi=>(((0:Int),i,()),(),a,())) (λ_ y=>decide (y.1=a)) (λi _=>(1,((i:Int),(i:Int),()),(),a,())) (0,((0:Int),len b,()),(),a,()) ai (λi y c d E=>by
   unfold fk ef;dsimp only;rw[aq d,ae,au c,aa,aa,cZ,eA,E];by_cases q:y.1=a<;>simp[q]) (by unfold fk;dsimp only;rw[ay,af];rfl) with ⟨i,y,c,F,_,h⟩|⟨r,_⟩
  .exact⟨i,y,c,iy F,h⟩
  .obtain⟨y,c,t⟩:=e;obtain⟨i,d⟩:=bz.1 c;have:=r i y d;simp[t] at this
 obtain⟨i,y,c,t,G⟩:=o;rw[G,aa];dsimp only;rw[show da 1 0=false from rfl,af,bO ai,ae];unfold bk;dsimp only;rw[Lj (λz:bI=>z.1) b a A i y c t ai,aa,aa];dsimp only;have H:=(sz (λz:bI=>z.1) b a).length_le;have p:=tE (f:=qz (((),()),vg (λz:bI=>z.1) b a,())) (·.1) (vg (λz:bI=>z.1) b a) a ai (λi=>(((0:Int),i,()),(),(a,j,k,l,m,u),())) (λi=>(1,((i:Int),(i:Int),()),(),(a,j,k,l,m,u),()))
  (0,((0:Int),((vg (λz:bI=>z.1) b a).length:Int),()),(),(a,j,k,l,m,u),()) (λi y c=>by
   have d:=aG c;unfold qz ef;dsimp only;rw[aq d,ae,aM ai ft,ae,au c,aa,aa,aa,aL ai];cases fq y.1 a<;>rfl) (by unfold qz;dsimp only;rw[ay,af])
 rw[p,aa];have n:=tD (·.1) (vg (λz:bI=>z.1) b a) ((a,j,k,l,m,u):bI) ai;unfold bH;by_cases C:cK (λy:bI=>y.1) (vg (λz:bI=>z.1) b a) a<(vg (λz:bI=>z.1) b a).length
 .rw[aW C];dsimp only;rw[show da 1 0=false from rfl,af,aI ai,af];dsimp only;rw[show uU (vg (λz:bI=>z.1) b a) ((cK (λy:bI=>y.1) (vg (λz:bI=>z.1) b a) a:Nat):Int) [((a,j,k,l,m,u):bI)]=_ from n,aa]
 .rw[aQ C];dsimp only;have v:cK (λy:bI=>y.1) (vg (λz:bI=>z.1) b a) a=(vg (λz:bI=>z.1) b a).length:=by have:=pG (λy:bI=>y.1) (vg (λz:bI=>z.1) b a) a;omega
  rw[bW,ae,aP aK,ae];dsimp only;rw[bE,<-v,show uU (vg (λz:bI=>z.1) b a) ((cK (λy:bI=>y.1) (vg (λz:bI=>z.1) b a) a:Nat):Int) [((a,j,k,l,m,u):bI)]=_ from n,aa]
instance (s:Tx):Decidable (sx s):=by unfold sx;infer_instance
def Zi(s:Tx):hR (s,())=ab ((if sx s then 0 else 10),()):=by
 obtain⟨a,b⟩:=Ld s;rw[acG a b];rfl
def Fw(s:aA)(p:Tx):List Nd×Int:=if p=[] then([],0) else eg s.2.2.1 s.2.2.2.1 p
def Ru{s:aA}{p:Tx}(h:(Fw s p).2=0):Valid (Fw s p).1:=by
 unfold Fw at h⊢;by_cases q:p=[]
 .rw[aW q];exact IA
 .rw[aQ q] at h⊢;exact N3 h
def ac3(d:Tx):Tx:=if d=[] then kG 1024 else d
def af0(id a:Tx)(b:List Tx)(d:Tx):aD:=(id,a,b,ky<|ac3 d,((ac3 d).length:Int),0,true,())
def crS(s:aA)(b:Tx)(a:List Tx)(c:Tx)(d:Int):aA×tF×al :=
 if jk a≠0 then(s,iZ<|jk a,()) else
 if c≠[]/\¬sx c then(s,iZ 10,()) else
 if b≠[]/\(aX (eS s) b).2.1≠0 then(s,iZ (aX (eS s) b).2.1,()) else
 if mL (eS s) [] a≠0 then(s,iZ<|mL (eS s) [] a,()) else
 if(cC (eS s) d).2.1≠0 then(s,iZ (cC (eS s) d).2.1,()) else
 if de s b≠[]/\(bj s.2.2.1<|de s b).2=0/\16<=(bj s.2.2.1<|de s b).1.length then(s,iZ 5,()) else
 if c≠[]/\(Fw s<|de s b).2≠0 then(s,iZ (Fw s<|de s b).2,()) else
 if c≠[]/\(jI (Fw s<|de s b).1 c).2≠0 then(s,iZ (jI (Fw s<|de s b).1 c).2,()) else
 (JE s (af0 (cC (eS s) d).1 (de s b) a c)<|ac3 c,xF (cC (eS s) d).1,())
def Ky(s:aA)(a:Tx)(b:List Tx)(c:Tx)(d:Int)(h:AN s)(B:b.length<=4294967296)(u:c.length<=100000)
  (C:∀p,mw (s,p,())=ab ((eg s.2.2.1 s.2.2.2.1 p).1,(eg s.2.2.1 s.2.2.2.1 p).2,())) :
  hU (s,a,b,c,d,())=ab (crS s a b c d):=by
 have E:=h.ll;have m:aS (0:Int) 0=true:=rfl;have es:bG ([]:aw) ([]:aw)=true:=rfl;unfold hU;rw[rm b B,aa];unfold crS;by_cases c1:jk b=0
 rotate_left
 .rw[aW c1,ax c1];simp only[az,ae,aa,ax c1];rfl
 rw[aQ<|λq=>q c1,aE c1];rw[cZ c []];have v:(ao (decide<|c=[]) (ab (((0:Int),()),c,()))<|ag (hR (c,())) λw=>ab ((w.1,()),c,()))=ab (((if c≠[]/\¬sx c then 10 else 0),()),c,()):=by
  by_cases q:c=[]
  .rw[dE q,ae,aQ λk=>k.1 q]
  .rw[cL q,af,Zi,aa]
   grind
 rw[show(ao (decide<|c=[]) (ab (((0:Int),()),c,()))<|ag (hR (c,())) λw=>ab ((w.1,()),c,()))=_ from v,aa];by_cases n:c≠[]/\¬sx c
 .rw[aW n,aW n];rw[show aS (10:Int) 0=false from rfl];simp only[az,ae,aa,show aS (10:Int) 0=false from rfl];rfl
 rw[aQ n,aQ n];simp only[aF,af,m,cZ a];have y:(ao (nt<|decide<|a=[]) (ag (dG (s,a,())) λg=>ab ((g.2.1,()),g.1,()))<|some (((0:Int),()),([]:Tx),())) =
   ab (((if a=[] then 0 else(aX (eS s) a).2.1),()),de s a,()):=by
  unfold de;by_cases q:a=[]
  .rw[dE q,aF,af,aW q,aW q]
  .rw[cL q,az,ae,gb s a h,aa,aQ q,aQ q]
 rw[show(ao (nt<|decide<|a=[]) (ag (dG (s,a,())) λg=>ab ((g.2.1,()),g.1,()))<|some (((0:Int),()),([]:aw),()))=_ from y,aa];have i:(a≠[]/\(aX (eS s) a).2.1≠0)↔¬((if a=[] then 0 else(aX (eS s) a).2.1)=0):=by
  by_cases q:a=[]
  .simp[q]
  .simp[q]
 have l:(a≠[]/\(aX (eS s) a).2.1≠0)->(if a=[] then 0 else(aX (eS s) a).2.1)=(aX (eS s) a).2.1:=λq=>aQ q.1;by_cases c2:(if a=[] then 0 else(aX (eS s) a).2.1)=0
 rotate_left
 .rw[aW<|i.2 c2,ax c2];simp only[az,ae,aa,ax c2];rw[l<|i.2 c2];rfl
 rw[aQ<|λq=>i.1 q c2,aE c2];simp only[aF,af];rw[tG s h,aa,ot (eS s) [] b (Iz h) B,aa];by_cases c3:mL (eS s) [] b=0
 rotate_left
 .rw[aW<|show mL (eS s) [] b≠0 from c3,ax c3];simp only[az,ae,aa,ax c3];rfl
 rw[aQ<|show ¬(mL (eS s) [] b≠0) from λq=>q c3,aE c3];simp only[aF,af,aa];rw[Ds,aa];by_cases c4:(cC (eS s) d).2.1=0
 rotate_left
 .rw[aW<|show(cC (eS s) d).2.1≠0 from c4,ax c4];simp only[az,ae,aa,ax c4];rfl
 rw[aQ<|show ¬((cC (eS s) d).2.1≠0) from λq=>q c4,aE c4];rw[Fi _ _ ai<|λx F=>(h.ln x F).small,aa];rw[cZ (de s a) []];have G:(ao (ao (ao (nt<|decide<|de s a=[]) (aS (bj s.2.2.1<|de s a).2 0) false) (cj 16<|len (bj s.2.2.1<|de s a).1) false) (ab (((5:Int),()),de s a,s,()))<|some (((0:Int),()),de s a,s,())) =
   ab (((if de s a≠[]/\(bj s.2.2.1<|de s a).2=0/\16<=(bj s.2.2.1<|de s a).1.length then 5 else 0),()),de s a,s,()):=by
  have z:cj (16:Int) (len (bj s.2.2.1<|de s a).1)=decide (16<=(bj s.2.2.1<|de s a).1.length):=by unfold cj len;apply hH.2;omega
  rw[z,GO];by_cases o:de s a=[]
  .rw[dE o,aF,af,af,af,aQ λq=>q.1 o]
  .rw[cL o,az,ae];by_cases r:(bj s.2.2.1<|de s a).2=0
   .rw[dE r,ae];by_cases t:16<=(bj s.2.2.1<|de s a).1.length
    .rw[dE t,ae,aW ⟨o,r,t⟩]
    .rw[cL t,af,aQ λq=>t q.2.2]
   .rw[cL r,af,af,aQ λq=>r q.2.1]
 rw[show(ao (ao (ao (nt<|decide<|de s a=[]) (aS (bj s.2.2.1<|de s a).2 0) false) (cj 16<|len (bj s.2.2.1<|de s a).1) false) (ab (((5:Int),()),de s a,s,()))<|some (((0:Int),()),de s a,s,()))=_ from G,aa];by_cases c5:de s a≠[]/\(bj s.2.2.1<|de s a).2=0/\16<=(bj s.2.2.1<|de s a).1.length
 .rw[aW c5,aW c5];rfl
 rw[aQ c5,aQ c5];simp only[m,aF,af];have A:js (s,de s a,())=ab ((Fw s<|de s a).1,(Fw s<|de s a).2,()):=by
  unfold js Fw;by_cases q:de s a=[]
  .rw[cN q,ae,aW q]
  .rw[bw q,af,aQ q,C,aa]
 have fin:∀D:Tx,D.length<=100000->∀(f:(aA×al)->Option (aA×tF×al)),
   ag (oi (D,())) (λg=>ag (pA (s,((cC (eS s) d).1,de s a,@app Tx [] b,g.1,@len UInt8 D,(0:Int),true,()),D,())) f) =
    f (JE s ((cC (eS s) d).1,de s a,b,ky D,(D.length:Int),(0:Int),true,()) D,()):=by
  intro D H f;refine ob (Yx D ai) ?_;refine ob (Wv s ((cC (eS s) d).1,de s a,b,ky D,(D.length:Int),(0:Int),true,()) D ai) rfl
 have e:fits (plus (@len Tx [])<|@len Tx b)=true:=bo (by simp only[gj];omega);by_cases j:c=[]
 .subst j;rw[es,ae,aa];simp only[m,aF,af,aa];rw[es,ae,Ww,aa,aa];rw[e,ae,fin (kG 1024) (by rw[tz];decide)];rfl
 rw[bw j,af,A,aa];by_cases c6:(Fw s<|de s a).2=0
 rotate_left
 .rw[aW ⟨j,c6⟩,ax c6,af,aa,aa];simp only[ax c6,az,ae,aa];rfl
 rw[aQ<|λq=>q.2 c6,aE c6,ae,Rf (Ru c6),aa,aa,aa];by_cases c7:(jI (Fw s<|de s a).1 c).2=0
 rotate_left
 .rw[aW ⟨j,c7⟩];simp only[ax c7,az,ae,aa];rfl
 rw[aQ λq=>q.2 c7];simp only[aE c7,m,aF,af,aa];rw[bw j,af,aa];rw[e,ae,fin c u];unfold af0 ac3;rw[aQ j];rfl
structure ap7 (s:aA) (on:Tx) (given:List Tx) (df:Tx) (r:aA×tF×al):Prop where
 id:Ig r.2.1.2.1
 new:∀y∈s.2.2.1,y.1≠r.2.1.2.1
 YI:∀y∈s.2.2.1,∀n∈y.2.2.1,n∉given
 par:de s on=[]\/∃y∈s.2.2.1,y.1=de s on
 find:on≠[]->(aX (eS s) on).2.1=0
 app:df≠[]->(jI (Fw s<|de s on).1 df).2=0
 val:r=(aaQ s (af0 r.2.1.2.1 (de s on) given df)<|ac3 df,xF r.2.1.2.1,())
 okl:OkL (af0 r.2.1.2.1 (de s on) given df)
def aie{s:aA}(a:NU s){y:aD}(b:y∈s.2.2.1):((y.1,y.2.2.1,()):Nm)∈eS s:=by
 obtain⟨e,i,c,d⟩:=G0 a.lays.same b;have hd:=(a.lays.each i y e c d).1;unfold eS;rw[Lv];refine⟨y,b,?_⟩;unfold ofL;simp[hd]
def TA(s:aA)(id:Tx):aA:=match Ef s.2.2.1 id with
 | none=>PJ (s.1,s.2.1,s.2.2.1,tI s.2.2.1.length s.2.2.2.1,s.2.2.2.2) id 0
 | some i=>PJ (s.1,s.2.1,cutAt s.2.2.1 i,cutAt (tI s.2.2.1.length s.2.2.2.1) i,s.2.2.2.2) id 0
def Ej(s:aA)(id:Tx)(d:s.2.2.1.length<=100000)(a:s.2.2.2.2.1.length<=50000):jT (s,id,())=ab (TA s id,()):=by
 unfold jT TA;dsimp only;rw[ixL (f:=xr (s,id,())) s.2.2.1 id ai<|λc i=>rfl,aa,IB s ai,aa];unfold BJ;cases h:Ef s.2.2.1 id with
 | none =>
   dsimp only;unfold iH gg;dsimp only;rw[aP ai,ae,aa,ae,aa];exact ob (CJ (s.1,s.2.1,s.2.2.1,tI s.2.2.1.length s.2.2.2.1,s.2.2.2.2) id 0 a) rfl
 | some i =>
   obtain⟨x,b,_⟩:=yZ h;have hi:=aG b;have e:=xK s.2.2.1.length s.2.2.2.1;dsimp only;unfold iH gg fa dJ;dsimp only;rw[aI ai,af,af,show @len aw=@len Tx from rfl,cO ai,ae,aaR _ i ai ai,aa,aa,cO ai,ae,aaR _ i ai ai,aa,aa];exact ob (CJ (s.1,s.2.1,cutAt s.2.2.1 i,cutAt (tI s.2.2.1.length s.2.2.2.1) i,s.2.2.2.2) id 0 a) rfl
def tK(s:aA)(id:Tx):Int:=match(dB (s,id,())) with|some (n,_)=>n|none=>0
def WE(s:aA)(id:Tx)(b:s.2.2.2.2.1.length<=1000000):dB (s,id,())=ab (tK s id,())/\((∃x∈s.2.2.2.2.1,x.1=id/\x.2.1=tK s id)\/(tK s id=0/\∀x∈s.2.2.2.2.1,x.1≠id)):=by
 obtain⟨n,a,c⟩:=Zc s id b;have e:tK s id=n:=by unfold tK;rw[a]
 rw[e];exact⟨a,c⟩
def dlS(s:aA)(a:Tx):aA×tF×al :=
 if(aX (eS s) a).2.1≠0 then(s,iZ (aX (eS s) a).2.1,()) else
 if Rp s (aX (eS s) a).1=true\/0<tK s (aX (eS s) a).1 then(s,iZ 7,()) else
 (TA s (aX (eS s) a).1,xF (aX (eS s) a).1,())
def G3(s:aA)(a:Tx)(h:AN s)(b:s.2.2.2.2.1.length<=50000):qL (s,a,())=ab (dlS s a):=by
 have d:=h.ll;have e:=h.il;have f:=h.bl;unfold qL dlS;refine ob (gb s a h) ?_;dsimp only;by_cases c:(aX (eS s) a).2.1=0
 rotate_left
 .rw[ax c,az,ae,aW c];rfl
 rw[aE c,aF,af,aQ λq=>q c];refine ob (Wz s _ ai ai ai) ?_;obtain⟨g,_⟩:=WE s (aX (eS s) a).1 ai;dsimp only;cases i:Rp s (aX (eS s) a).1 with
 | true =>
   rw[aF,af,aa,ae,aW (.inl rfl)];rfl
 | false =>
   rw[az,ae];refine ob (ob g rfl) ?_;by_cases q:0<tK s (aX (eS s) a).1
   .rw[aP q,ae,aW (.inr q)];rfl
   .rw[aI ai,af,aQ (by rintro(k|k);cases k;exact q k)];exact ob (Ej s _ ai b) rfl
def Zj(s:aA)(id:Tx):Bq (s,id,())=lM (s.2.2.1,id,()):=rfl
def aaU{a:Type}(A B:List a)(x y:a):(A++x::B).set A.length y=A++y::B:=by
 rw[List.set_append];simp
def af1:∀(k:Nat) (A M B:List aD),M.length<=k->A.length+M.length+B.length<=1000000 ->
  ∃q,Loop fl (((A.length:Int),(A.length:Int)+(M.length:Int)-1,(),()),A++M++B,())=ab (q,A++M.reverse++B,()):=by
 intro k;induction k with
 | zero =>
   intro A M B e f;obtain rfl:M=[]:=zY.1 ai;apply Exists.intro;rw[aT,show fl (((A.length:Int),(A.length:Int)+(([]:List aD).length:Int)-1,(),()),A++[]++B,())=ab (.inr (((A.length:Int),(A.length:Int)+(([]:List aD).length:Int)-1,(),()),A++[]++B,())) from by
    unfold fl;dsimp only;rw[aI<|by simp only[gj];omega,af];rfl]
   rfl
 | succ k g =>
   intro A M B e f;by_cases c:M.length<=1
   .have h:M.reverse=M:=by
     match M,c with
     | [],_=>rfl
     | [a],_=>rfl
    rw[h];apply Exists.intro;rw[aT,show fl (((A.length:Int),(A.length:Int)+(M.length:Int)-1,(),()),A++M++B,())=ab (.inr (((A.length:Int),(A.length:Int)+(M.length:Int)-1,(),()),A++M++B,())) from by
     unfold fl;dsimp only;rw[aI ai,af];rfl]
    rfl
   .obtain⟨x,N,y,rfl⟩:∃x N y,M=x::(N++[y]):=by
     cases M with
     | nil=>simp at c
     | cons x t =>
       have i:t≠[]:=by rintro rfl;simp at c
       exact⟨x,t.dropLast,t.getLast i,by rw[aiC]⟩
    have j:(A.length:Int)+((x::(N++[y])).length:Int)-1=((A.length+N.length+1:Nat):Int):=nU;have hlen:(x::(N++[y])).length=N.length+2:=aY;rw[hlen] at f e;rw[j];obtain⟨q,l⟩:=g (A++[y]) N (x::B) ai nU;refine⟨q,?_⟩;have m:A++x::(N++[y])++B=A++x::(N++y::B):=aY;have n:(A++x::(N++y::B)).length=A.length+N.length+B.length+2:=nU;have o:(A++x::(N++y::B))[A.length]?=ab x:=aY;have p:(A++x::(N++y::B))[A.length+N.length+1]?=ab y:=by
     rw[aa4 ai,show A.length+N.length+1-A.length=N.length+1 by omega,adw];simp
    have s1:(A++x::(N++y::B)).set A.length y=A++y::(N++y::B):=aaU A _ x y;have d:A++y::(N++y::B)=(A++y::N)++y::B:=aY;have r:(A++y::(N++y::B))[A.length+N.length+1]?=ab y:=by
     rw[aa4 ai,show A.length+N.length+1-A.length=N.length+1 by omega,adw];simp
    have s2:(A++y::(N++y::B)).set (A.length+N.length+1) x=(A++[y])++N++(x::B):=by
     rw[d,show A.length+N.length+1=(A++y::N).length by simp;omega,aaU];simp
    have b:fl (((A.length:Int),((A.length+N.length+1:Nat):Int),(),()),(A++x::(N++y::B),())) =
      ab (.inl ((((A++[y]).length:Int),((A++[y]).length:Int)+(N.length:Int)-1,(),()),(A++[y])++N++(x::B),())):=by
     unfold fl;dsimp only;rw[aP ai,ae,aM ai ft,ae,au p,aa,aM ai ft,ae,au o,aa,ae,aa,aa,aa,
      ig,s1,aM ai (by unfold len;simp;omega),ae,au r,aa,aa,aa,ig,s2,aL ai,dL ai ai]
     rw[show((A.length+N.length+1:Nat):Int)-1=((A++[y]).length:Int)+(N.length:Int)-1 by simp;omega,show((A.length+1:Nat):Int)=((A++[y]).length:Int) by simp];rfl
    rw[m,aT,b];show Loop _ _=_
    rw[l];simp
def Zk(s:aA)(id:Tx)(e:s.2.2.1.length<=100000)(d:∀x∈s.2.2.1,x.2.2.1.length<=4294967296):mw (s,id,())=ab ((eg s.2.2.1 s.2.2.2.1 id).1,(eg s.2.2.1 s.2.2.2.1 id).2,()):=by
 unfold mw eg;obtain⟨p,r,t,h⟩:=JF s.2.2.1 id ai d 16 id [] rfl;rw[<-Zj] at h;refine ob h ?_;unfold bj;by_cases c:(BK s.2.2.1 16 id []).2=0
 rotate_left
 .rw[aQ c,aQ c];dsimp only;rw[show da 0 0=true from rfl,ae,ax c,az,ae]
 rw[aW c,aW c];have b:(BK s.2.2.1 16 id []).1.length<=16:=(pF (ls:=s.2.2.1) (id:=id)).2;generalize (BK s.2.2.1 16 id []).1=L at b⊢;dsimp only;rw[show da 1 0=false from rfl,af];obtain⟨q,g⟩:=af1 L.length [] L [] (cq _) nU;rw[show db i64 (@len aD L) 1=(([]:List aD).length:Int)+(L.length:Int)-1 from by rw[dL ft ft];unfold len;simp];refine ob (show Loop fl (((0:Int),(([]:List aD).length:Int)+(L.length:Int)-1,(),()),L,())=ab (q,L.reverse,()) from by simpa using g) ?_;have k:=rY (f:=qI (s,id,()) (q,L.reverse,())) L.reverse (λ(ds:List Tx) (i:Int)=>(((),i,()),ds,())) (λx=>[sS s.2.2.1 s.2.2.2.1 x.1]) (((),(L.reverse.length:Int),()),L.reverse.flatMap<|λx=>[sS s.2.2.1 s.2.2.2.1 x.1],()) (by rw[Ql];omega)
  (λi x l m a=>by
   unfold qI;dsimp only;have n:((L.reverse.take i).flatMap λx:aD=>[sS s.2.2.1 s.2.2.2.1 x.1]).length<=16:=by
    rw[<-ZG,uI,km,Ql];omega
   have hd:(lQ s x.1).2.1=sS s.2.2.1 s.2.2.2.1 x.1:=by
    unfold lQ sS;cases h:Ef s.2.2.1 x.1 with
    | none=>rfl
    | some j =>
      obtain⟨z,o,_⟩:=yZ h;dsimp only;rw[o]
   rw[aq m,ae,au l,aa];refine(congrArg dn<|ob (yx s x.1 e d) rfl).trans ?_;rw[hd,bo (by simp only[DE];omega),ae,a];rfl)
  (by
   unfold qI;dsimp only;rw[ay,af];rfl)
 refine ob k ?_;dsimp only;rw[show(L.reverse.flatMap λx:aD=>[sS s.2.2.1 s.2.2.2.1 x.1])=L.reverse.map (λx:aD=>sS s.2.2.1 s.2.2.2.1 x.1) from(ZG).symm];refine ob (ahW _<|by rw[uI,Ql];omega) ?_;rfl
structure W24 (s:aA):Prop where
 hd:AN s
 dl:s.2.2.2.1.length<=40
 ml:s.2.2.2.2.1.length<=40
 Y9:vu (·.1) s.1
 upI:vu (·.1) s.2.1
 Y8:vu (·.1) s.2.2.1
 bits:∀x∈s.1,tw x.2.2.2.2.2.1
 mts:∀x∈s.2.2.2.2.1,1<=x.2.1/\x.2.1<=1000
 idB:∀x∈s.1,x.1.length<=1000
 idI:∀x∈s.2.1,x.1.length<=1000
 idL:∀x∈s.2.2.1,x.1.length<=1000
def W24.row{s:aA}(h:W24 s):Zf s:=⟨h.hd,by have:=h.dl;omega,by have:=h.ml;omega⟩
def W24.tree{s:aA}(h:W24 s)(p:Tx):mw (s,p,())=ab ((eg s.2.2.1 s.2.2.2.1 p).1,(eg s.2.2.1 s.2.2.2.1 p).2,()) :=
 Zk s p (by have:=h.hd.ll;omega) (λx a=>(h.hd.ln x a).small)
def W24.cnt{s:aA}(h:W24 s)(id:Tx):dB (s,id,())=ab (tK s id,())/\(0<=tK s id/\tK s id<=1000)/\(tK s id<=0->∀x∈s.2.2.2.2.1,x.1≠id):=by
 obtain⟨b,c⟩:=WE s id (by have:=h.ml;omega);refine⟨b,?_⟩;rcases c with ⟨x,d,_,e⟩|⟨e,a⟩
 .have:=h.mts x d;rw[<-e];exact⟨⟨ai,this.2⟩,λq=>ai⟩
 .rw[e];exact⟨⟨aK,aK⟩,λ_=>a⟩
def ctS(s:aA)(a:Tx)(d:Int):aA×tF×al :=
 if(aX (eS s) a).2.1≠0 then(s,iZ (aX (eS s) a).2.1,()) else
 if 0<d/\1000<=tK s (aX (eS s) a).1 then(s,iZ 5,()) else
 if d<0/\tK s (aX (eS s) a).1<1 then(s,iZ 11,()) else
 (PJ s (aX (eS s) a).1<|tK s (aX (eS s) a).1+d,(0,(aX (eS s) a).1,tK s (aX (eS s) a).1+d,[],()),())
def JH{s:aA}(h:W24 s)(a:Tx){d:Int}(j:d=1\/d=-1):lN (s,a,d,())=ab (ctS s a d):=by
 obtain⟨e,⟨k,l⟩,_⟩:=h.cnt (aX (eS s) a).1;have f:=h.ml;unfold lN ctS;refine ob (gb s a h.hd) ?_;dsimp only;by_cases c:(aX (eS s) a).2.1=0
 rotate_left
 .rw[ax c,az,ae,aW c];rfl
 rw[aE c,aF,af,aQ λq=>q c];refine ob e ?_;dsimp only;have g:ao (aZ 0 d) (cj 1000<|tK s (aX (eS s) a).1) false=decide (0<d/\1000<=tK s (aX (eS s) a).1):=by
  rw[Tg,Q0,jC];exact(Bool.decide_and _ _).symm
 have i:ao (aZ d 0) (aZ (tK s (aX (eS s) a).1) 1) false=decide (d<0/\tK s (aX (eS s) a).1<1):=by
  rw[Tg,Tg,jC];exact(Bool.decide_and _ _).symm
 rw[g,i];by_cases q:0<d/\1000<=tK s (aX (eS s) a).1
 .rw[dE q,ae,aW q];rfl
 rw[cL q,af,aQ q];by_cases b:d<0/\tK s (aX (eS s) a).1<1
 .rw[dE b,ae,aW b];rfl
 rw[cL b,af,aQ b,ff ai ai];exact ob (CJ s _ _ ai) rfl
def dfA(s:aA)(a:Tx):tF :=
 if(aX (eS s) a).2.1≠0 then iZ (aX (eS s) a).2.1 else(0,(aX (eS s) a).1,0,(lQ s (aX (eS s) a).1).2.1,())
def Kz{s:aA}(h:W24 s)(a:Tx):uy (s,a,())=ab (dfA s a,()):=by
 unfold uy dfA;refine ob (gb s a h.hd) ?_;dsimp only;by_cases c:(aX (eS s) a).2.1=0
 rotate_left
 .rw[ax c,az,ae,aW c];rfl
 rw[aE c,aF,af,aQ λq=>q c];exact ob (yx s _ (by have:=h.hd.ll;omega) λx b=>(h.hd.ln x b).small) rfl
def ac4(s:aA)(id:Tx):Tx:=((s.1.find?<|λx=>decide (x.1=id)).map λx:ep=>x.2.2.2.1).getD []
def af2{s:aA}(c:vu (·.1) s.1){x:ep}(b:x∈s.1):ac4 s x.1=x.2.2.2.1:=by
 unfold ac4;cases a:s.1.find? (λy=>decide (y.1=x.1)) with
 | none=>have:=T6.1 a x b;simp at this
 | some y =>
   have d:=Xf a;have e:y.1=x.1:=by simpa using Qo a
   rw[c.inj (λz:ep=>z.1) d b e];rfl
def dlW(s:aA)(a:Tx):aA×tF×al :=
 if(aX (AM s) a).2.1≠0 then(s,iZ (aX (AM s) a).2.1,()) else
 if 0<tK s (ac4 s (aX (AM s) a).1)\/Rp (vg (·.1) s.1 (aX (AM s) a).1,s.2) (ac4 s (aX (AM s) a).1)=true then(s,iZ 7,()) else
 (TA (vg (·.1) s.1 (aX (AM s) a).1,s.2)<|ac4 s (aX (AM s) a).1,xF (aX (AM s) a).1,())
def N9{s:aA}(h:W24 s)(a:Tx):sD (s,a,())=ab (dlW s a):=by
 have n:=h.hd.bl;have o:=h.hd.il;have p:=h.hd.ll;have r:=h.ml;unfold sD dlW;dsimp only;rw[N8 s a h.hd,aa];by_cases c1:(aX (AM s) a).2.1=0
 rotate_left
 .rw[aW c1,ax c1];rfl
 rw[aQ<|λq=>q c1,aE c1,aF,af];obtain⟨y,b,c⟩:=zO c1;obtain⟨x,d,rfl⟩:=Ll b;have c:x.1=(aX (AM s) a).1:=c;rw[<-c];obtain⟨g,e,l⟩:=y4 s x.1 h.hd h.bits;rw[e,aa,l x d h.Y9 rfl,cO ai,ae,af2 h.Y9 d];dsimp only;rcases wC (f:=nS (s,a,())) s.1 (λy=>decide (y.1=x.1)) (λq=>(q,x.1,())) ai (λi y b t=>by
  unfold nS;dsimp only;rw[aq t,ae,aM ai ft,ae,au b,aa,cZ,eA];by_cases q:y.1=x.1<;>simp[q]) (by unfold nS;dsimp only;rw[ay,af]) with ⟨j,y,b,u,v⟩|⟨m,_⟩
 rotate_left
 .have:=m x d;simp at this
 rw[v,aa];dsimp only;rw[show da 1 0=false from rfl,af,bO ai,ae];unfold cH;dsimp only;rw[Lj (λz:ep=>z.1) s.1 x.1 h.Y9 j y b (iy u) ai,aa,aa];dsimp only;obtain⟨w,_,_⟩:=h.cnt x.2.2.2.1;rw[w,aa];dsimp only;have A:=(sz (λz:ep=>z.1) s.1 x.1).length_le;by_cases q:0<tK s x.2.2.2.1
 .rw[aP q,aF,af,aa,ae,aW (.inl q)];rfl
 .rw[aI ai,az,ae,Wz _ _ BF BF BF,aa,aa];dsimp only;cases B:Rp (vg (λz:ep=>z.1) s.1 x.1,s.2) x.2.2.2.1 with
  | true =>
    rw[aW<|.inr rfl,ae];rfl
  | false =>
    rw[aQ (by rintro(k|k);exact q k;cases k),af];exact ob (Ej (vg (λz:ep=>z.1) s.1 x.1,s.2) x.2.2.2.1 BF BF) rfl
abbrev Dl:=Int×aw×al
def Ho:List Nd->List Nd->List Dl
 | [],[]=>[]
 | x::a,[]=>(3,x.1,())::Ho a []
 | [],y::b=>(1,y.1,())::Ho [] b
 | x::a,y::b =>
   if cmpL (key x) (key y)<0 then(3,x.1,())::Ho a (y::b)
   else if 0<cmpL (key x) (key y) then(1,y.1,())::Ho (x::a) b
   else(if x=y then [] else [(2,x.1,())])++Ho a b
 termination_by a b=>a.length+b.length
def aih:∀(n:Nat) (a b:List Nd),a.length+b.length<=n->(Ho a b).length<=a.length+b.length:=by
 intro n;induction n with
 | zero =>
   intro a b h;obtain rfl:=zY.1 (show a.length=0 by omega);obtain rfl:=zY.1 (show b.length=0 by omega);simp[Ho]
 | succ n c =>
   intro a b h;cases a with
   | nil =>
     cases b with
     | nil=>simp[Ho]
     | cons y b =>
       rw[Ho]
       grind
   | cons x a =>
     cases b with
     | nil =>
       rw[Ho]
       grind
     | cons y b =>
       rw[Ho]
       grind
def G4{a:Type}(x:a)(r:List a):sub (x::r) 1 (minus (len (x::r)) 1)=r:=mG (x::r) 1 aY
def zQ(a b:List Nd):Int:=match a,b with
 | [],_=>1
 | _::_,[]=>-1
 | x::_,y::_=>cmpL (key x) (key y)
def af3(a b:List Nd)(d:wx a)(e:wx b) :
  (ag (ao (aS (len a) 0) (ab (((1:Int),()),()))<|ag (ao (aS (len b) 0) (ab (((-1:Int),()),()))<|ag (idx a 0) λ(c:Nd)=>ag (idx b 0) λ(f:Nd)=>ag (hM (c.1,f.1,())) λ(g:Int×al)=>ab ((g.1,()),())) λ(c:(Int×al)×al)=>ab ((c.1.1,()),())) λ(y:(Int×al)×al)=>ab y)=ab ((zQ a b,()),()):=by
 cases a with
 | nil=>rfl
 | cons x a =>
   cases b with
   | nil=>rfl
   | cons y b =>
     have h:aS (len (y::b)) 0=false:=by unfold aS len;exact cL nU
     rw[h,af,show idx (x::a) 0=ab x from rfl,show idx (y::b) 0=ab y from rfl,aa,aa,Cp _ _ (by have:=(d.2 x aY).1;omega) (by have:=(e.2 y aY).1;omega)];rfl
def Oa(a b:List Nd):List Dl:=match a,b with
 | x::_,y::_=>if x=y then [] else [(2,x.1,())]
 | _,_=>[]
def ac5(a b:List Nd):(Oa a b).length<=1:=by
 unfold Oa
 grind
def TB(a b:List Nd)(d:List Dl)(l:wx a)(m:wx b)(h:a≠[]\/b≠[])(j:∀c:Dl,fits (plus (len d)<|len [c])=true) :
  jo ((a,b,()),(),(),d,())=ab (.inl<|
   if zQ a b<0 then((a.drop 1,b,()),(),(),d++(a.take 1).map (λx=>(3,x.1,())),())
   else if 0<zQ a b then((a,b.drop 1,()),(),(),d++(b.take 1).map (λy=>(1,y.1,())),())
   else((a.drop 1,b.drop 1,()),(),(),d++Oa a b,())):=by
 have n:ao (nt<|aZ 0<|len a) (aZ 0<|len b) true=true:=by
  rw[Gn,Gn];cases a with
  | cons x a=>simp[ao,nt]
  | nil =>
    cases b with
    | cons y b=>simp[ao,nt]
    | nil=>simp at h
 have k:=af3 a b l m;have p:∀o:Option ((Int×al)×al),ag o (λy=>ab y)=o:=λo=>by cases o<;>rfl
 rw[p] at k;unfold jo;rw[n,ae,k,aa];dsimp only;have f:∀{x:Nd} {r:List Nd},inside 1 (len (x::r)) (len (x::r))=true:=λ{x r}=>aU ai (by unfold len;simp;omega) (sN _);by_cases g:zQ a b<0
 .rw[aW g,aP g,ae,bO ai,ae,ea g,af];cases a with
  | nil=>simp[zQ] at g
  | cons x a =>
    rw[show idx (x::a) 0=ab x from rfl,aa,j,ae,f,ae,G4];rfl
 .rw[aQ g,aI ai,af];by_cases i:0<zQ a b
  .rw[aW i,aP i,ae,ea ai,af,bO ai,ae];cases b with
   | nil=>cases a<;>simp[zQ] at i h
   | cons y b =>
     rw[show idx (y::b) 0=ab y from rfl,aa,j,ae,f,ae,G4];rfl
  .rw[aQ i,aI ai,af,bO ai,ae,bO ai,ae];cases a with
   | nil=>simp[zQ] at i
   | cons x a =>
     cases b with
     | nil=>simp[zQ] at g
     | cons y b =>
       have q:an (bG x.1 y.1) (an (aS x.2.1 y.2.1)<|an (aS x.2.2.1 y.2.2.1)<|an (bG x.2.2.2.1 y.2.2.2.1)<|an (bG x.2.2.2.2.1 y.2.2.2.2.1) true)=decide (x=y):=by
        obtain⟨s,t,u,v,w,z⟩:=x;obtain⟨A,B,C,D,E,F⟩:=y;unfold an bG aS
        grind
       rw[show idx (x::a) 0=ab x from rfl,show idx (y::b) 0=ab y from rfl,aa,aa,q,j,f,f,G4,G4];by_cases e:x=y
       .rw[dE e,aF,af];unfold Oa;dsimp only;rw[aW e,zi];rfl
       .rw[cL e,az,ae];unfold Oa;dsimp only;rw[aQ e];rfl
def af4(a b:List Nd)(c:a≠[]\/b≠[]):Ho a b =
  if zQ a b<0 then(a.take 1).map (λx=>((3,x.1,()):Dl))++Ho (a.drop 1) b
  else if 0<zQ a b then(b.take 1).map (λy=>((1,y.1,()):Dl))++Ho a (b.drop 1)
  else Oa a b++Ho (a.drop 1) (b.drop 1):=by
 cases a with
 | nil =>
   cases b with
   | nil=>simp at c
   | cons y b=>rw[Ho,aQ (by simp[zQ]),aW (by simp[zQ])];rfl
 | cons x a =>
   cases b with
   | nil=>rw[Ho,aW (by simp[zQ])];rfl
   | cons y b =>
     rw[Ho];show _=if cmpL (key x) (key y)<0 then _ else if 0<cmpL (key x) (key y) then _ else _
     split
     .rfl
     .split
      .rfl
      .rfl
def wx.drop{l:List Nd}(h:wx l)(k:Nat):wx (l.drop k):=⟨by rw[nV];have:=h.1;omega,λx a=>h.2 x (Xg a)⟩
def TC:∀(n:Nat) (a b:List Nd) (acc:List Dl),a.length+b.length<=n->wx a->wx b->acc.length+a.length+b.length<=100000 ->
  ∃s,Loop jo ((a,b,()),(),(),acc,())=ab (s,(),(),acc++Ho a b,()):=by
 have fin:∀acc:List Dl,jo (([],[],()),(),(),acc,())=ab (.inr (([],[],()),(),(),acc,())):=λacc=>rfl;intro n;induction n with
 | zero =>
   intro a b acc h _ _ _;obtain rfl:=zY.1 (show a.length=0 by omega);obtain rfl:=zY.1 (show b.length=0 by omega);refine⟨([],[],()),?_⟩;rw[aT,fin,Ho,zi];rfl
 | succ n m =>
   intro a b acc h k l p;by_cases g:a≠[]\/b≠[]
   .have o:=TB a b acc k l g (λc=>bo nU);rw[aT,o,af4 a b g];have i:a≠[]->(a.drop 1).length=a.length-1/\0<a.length:=λh=>⟨aY,Ly.2 h⟩;have j:b≠[]->(b.drop 1).length=b.length-1/\0<b.length:=λh=>⟨aY,Ly.2 h⟩;by_cases q:zQ a b<0
    .have d:a≠[]:=λe=>by subst e;simp[zQ] at q
     have:=i d;obtain⟨s,r⟩:=m (a.drop 1) b (acc++(a.take 1).map λx=>(3,x.1,())) ai (k.drop 1) l (by simp at this⊢;omega)
     grind
    .by_cases t:0<zQ a b
     .have f:b≠[]:=λe=>by subst e;cases a<;>simp[zQ] at t g
      have:=j f;obtain⟨s,r⟩:=m a (b.drop 1) (acc++(b.take 1).map λy=>(1,y.1,())) ai k (l.drop 1) (by simp at this⊢;omega)
      grind
     .have d:a≠[]:=λe=>by subst e;simp[zQ] at t
      have f:b≠[]:=λe=>by subst e;cases a<;>simp[zQ] at q d
      have u:=i d;have v:=j f;obtain⟨s,r⟩:=m (a.drop 1) (b.drop 1) (acc++Oa a b) ai (k.drop 1) (l.drop 1) (by
       have:=ac5 a b;rw[hY];omega)
      grind
   .grind
open Classical in
def af5(a b:List Nd):List Dl×Int:=if Valid a/\Valid b then(Ho a b,0) else([],1)
def WG(a b:List Nd)(c:wx a)(d:wx b):qF (a,b,())=ab ((af5 a b).1,(af5 a b).2,()):=by
 obtain⟨e,l,i⟩:=mx a c;obtain⟨f,m,j⟩:=mx b d;unfold qF;dsimp only;rw[l,aa,m];simp only[aa];by_cases hv:Valid a/\Valid b
 .obtain rfl:=i.2 hv.1;obtain rfl:=j.2 hv.2;have h:=c.1;have g:=d.1;obtain⟨s,n⟩:=TC (a.length+b.length) a b [] (cq _) c d nU;rw[show(ao (nt<|nt<|aS 0 0) (ab<|nt<|aS 0 0) (ab true):Option Bool)=ab false from rfl,aa,af,n,aa];unfold af5;rw[aW hv,BG]
 .have o:(ao (nt<|nt<|aS e 0) (ab<|nt<|aS f 0) (ab true):Option Bool)=ab true:=by
   by_cases k:e=0
   .by_cases g:f=0
    .exact absurd ⟨i.1 k,j.1 g⟩ hv
    .rw[show aS f 0=false by simp[aS,g]];cases nt (nt<|aS e 0)<;>rfl
   .rw[show aS e 0=false by simp[aS,k]];rfl
  rw[o,aa,ae];unfold af5;rw[aQ hv]
end Go.Ge
