import Derived.Test.YtcebnmppipejfaaGreatDoorPlG
set_option linter.unusedSectionVars false
set_option linter.unusedVariables false
set_option linter.unusedSimpArgs false
set_option linter.defProp false
noncomputable section
open Option renaming some->ab,none->ah
open Go.IntKind (i64)
namespace Go.Ge
variable [Lp]
def YW:∀(r:List Tx) (t:List Nd),Valid t->(sJ r t).2=0->Valid (sJ r t).1:=by
 intro r;induction r with
 | nil=>intro t h _;exact h
 | cons s r b =>
   intro t h a;unfold sJ at a⊢;by_cases c:(jE t s).2=0
   .rw[aX c] at a⊢;rcases Im h s with ⟨_,v,_⟩|⟨v,_⟩
    .exact b _ v a
    .exact absurd c v
   .rw[aR c] at a⊢;exact absurd a c
def Wd{ls:List aD}{a:List Tx}{id:Tx}(h:(eg ls a id).2=0):(bj ls id).2=0/\eg ls a id=sJ ((bj ls id).1.reverse.map λx=>sK ls a x.1) []:=by
 unfold eg at h⊢;by_cases c:(bj ls id).2=0
 .rw[aX c];exact⟨c,rfl⟩
 .rw[aR c] at h;exact absurd h c
def Iq:Valid []:=Av YG.1
def E7.more{a b:List aD}{f g:List Tx}{x:aD}{d:Tx}(p:a.length=f.length)(L:vm (·.1) (a++b))(l:vm (·.1) (a++[x]++b))(r:E7 (a++b) (f++g))
  (h:∀y∈a++b,y.1≠x.1) (M:x.1≠[]) (N:x.2.1≠x.1) (s:x.2.1=[]\/((bj (a++b) x.2.1).2=0/\(bj (a++b) x.2.1).1.length<16))
  (t:x.2.2.2.2.2.2.1=true/\x.2.2.2.2.2.1=0/\x.2.2.2.2.1=(d.length:Int)/\x.2.2.2.1=ku d/\sr d)
  (m:(jE (if x.2.1=[] then [] else(eg (a++b) (f++g) x.2.1).1) d).2=0):E7 (a++[x]++b) (f++[d]++g):=by
 have hlen:(f++g).length=(a++b).length:=r.same;have n:(f++[d]++g).length=(a++[x]++b).length:=by
  simp only[jB,Fo] at hlen⊢;omega
 have u:∀(y:aD) (e:Tx),y.1≠x.1->(AtD (a++[x]++b) (f++[d]++g) y e↔AtD (a++b) (f++g) y e):=λy e k=>by
  rw[Te p];constructor
  .rintro(q|q)
   .exact absurd (congrArg (·.1) q.1) k
   .exact q
  .exact .inr
 have O:∀y∈a++b,y.2.1≠x.1:=λy k e=>by
  rcases acD L k (r.chain y k) with q|⟨z,H,q⟩
  .exact M (e.symm.trans q)
  .exact h z H (q.trans e)
 have v:x∈a++[x]++b:=bb;have w:∀y∈a++[x]++b,y=x\/y∈a++b:=λy k=>by
  simp only[Rr,zO] at k⊢;rcases k with (q|q)|q
  .exact .inr (.inl q)
  .exact .inl q
  .exact .inr (.inr q)
 have o:∀{id:Tx},id≠x.1->bj (a++[x]++b) id=bj (a++b) id/\eg (a++[x]++b) (f++[d]++g) id=eg (a++b) (f++g) id :=
  λ{id} P=>acF L l hlen n u (λy k=>.inr (O y k)) (.inl h) P
 have A:sK (a++[x]++b) (f++[d]++g) x.1=d:=GV l ((Te p).2<|.inl ⟨rfl,rfl⟩);have key:(bj (a++[x]++b) x.1).2=0/\(eg (a++[x]++b) (f++[d]++g) x.1).2=0:=by
  by_cases B:x.2.1=[]
  .have Q:bj (a++[x]++b) x.1=([x],0):=by
    unfold bj;rw[qc l v,aX B];rfl
   rw[aX B] at m;unfold eg;rw[Q,aX rfl];refine⟨rfl,?_⟩;show(sJ [sK (a++[x]++b) (f++[d]++g) x.1] []).2=0
   rw[A];unfold sJ;rw[aX m];rfl
  .rcases s with q|⟨C,V⟩
   .exact absurd q B
   rw[aR B] at m;obtain⟨T,W⟩:=o N;obtain⟨y,k,R⟩:∃y∈a++b,y.1=x.2.1:=by
    apply K9;intro q;unfold bj at C;rw[Cz λy k e=>q ⟨y,k,e⟩] at C;cases C
   have S:(eg (a++b) (f++g) x.2.1).2=0:=by
    obtain⟨i,I⟩:=bz.1 k;have:=aF I;rw[<-R];exact(r.each i y (f++g)[i] I<|ik ai).2.2.2.2.2
   obtain⟨t1,J⟩:=Wd S;obtain⟨c,X,Y⟩:=Q9 l 16 x.2.1 [] (by have:=T;unfold bj at this C;rw[this];exact C);have D:(bj (a++b) x.2.1).1=c:=by rw[<-T];exact X
   rw[D] at V J;have Q:bj (a++[x]++b) x.1=(x::c,0):=by
    unfold bj;rw[qc l v,aR B,Y 15 _ ai];rfl
   unfold eg;rw[Q,aX rfl];refine⟨rfl,?_⟩;rw[W.symm] at J m S;rw[show(x::c,(0:Int)).1=x::c from rfl,List.reverse_cons,ZA,List.map_singleton,A];have E:(c.reverse.map λz=>sK (a++[x]++b) (f++[d]++g) z.1)=(c.reverse.map λz=>sK (a++b) (f++g) z.1):=by
    apply W0;intro z H;rw[TY] at H;have F:z∈a++b:=(pB (ls:=a++b) (id:=x.2.1)).1 z (by rw[D];exact H);obtain⟨e,K⟩:=GU hlen F;rw[GV L K,GV l ((u z e<|h z F).2 K)]
   rw[E,acz _ d [] (eg (a++[x]++b) (f++[d]++g) x.2.1).1 (Fw (by rw[J])<|by rw[<-J];exact S),aX m]
 refine⟨n,λy k=>?_,λi y e I K=>?_⟩
 .rcases w y k with rfl|G
  .exact key.1
  .rw[(o<|h y G).1];exact r.chain y G
 .have Z:AtD (a++[x]++b) (f++[d]++g) y e:=⟨i,I,K⟩;rcases(Te p).1 Z with ⟨rfl,rfl⟩|⟨j,U,g2⟩
  .exact⟨t.1,t.2.1,t.2.2.1,t.2.2.2.1,t.2.2.2.2,key.2⟩
  .obtain⟨a1,a2,a3,a4,a5,a6⟩:=r.each j y e U g2;exact⟨a1,a2,a3,a4,a5,by rw[(o<|h y<|eQ U).2];exact a6⟩
def afB:Dy (kF 1024)=([],0):=by
 unfold Dy;rw[YO]
def acG:sr (kF 1024):=by
 unfold sr;rw[afB];exact⟨rfl,rfl⟩
def ahK{t:List Nd}(h:Valid t):jE t (kF 1024)=(t,0):=by
 unfold jE;rw[afB,aX rfl];unfold mu;rw[aX h];rfl
def As.boxes{l:List eP}(b:l.length<=32)(c:∀x∈l,OkB x)(d:vm (·.1) l)(e:(l.flatMap (·.2.1)).Nodup):As 1 (0,[],[],l,()) :=
 ⟨b,by show l.length+0+0=l.length;omega,λx a=>(by cases a),λx a=>(by cases a),c,by unfold SZ;simpa [vm] using d,by unfold Yx;simpa using e⟩
def As.lays{l:List aD}(b:l.length<=32)(c:∀x∈l,OkL x)(d:vm (·.1) l)(e:(l.flatMap (·.2.2.1)).Nodup):As 3 (0,l,[],[],()) :=
 ⟨b,by show 0+0+l.length=l.length;omega,c,λx a=>(by cases a),λx a=>(by cases a),by unfold SZ;simpa [vm] using d,by unfold Yx;simpa using e⟩
def NC.amQ{s:az}(h:NC s):(s.2.2.1.flatMap (·.2.2.1)).Nodup:=by
 have:=h.l.nms;unfold Yx at this;simpa using this
def NC.ahF{s:az}(h:NC s):s.1.length<=32:=h.b.few
def NC.ajl{s:az}(h:NC s):s.2.2.1.length<=32:=h.l.few
def uX{a:Type}(l:List a)(k:Nat)(x:a):List a:=l.take k++[x]++l.drop k
def ahL{a:Type}(l:List a)(k:Nat)(x:a)(b:k<=l.length)(c:l.length<=1000000):uJ l (k:Int) [x]=ab (uX l k x):=by
 unfold uJ uX;rw[show inside 0 (k:Int) (len l)=true from aV aK ai fi,bo (by simp only[jC,nQ];omega),qJ];rfl
def wu{b S:Type}{f:S->Option (S⊕(Nat×S))}(l:List b)(p:b->Bool)(a:Int×Int×al->S)(k:l.length<=1000000)
  (c:∀(i:Nat) (y:b),l[i]?=ab y->i<l.length->f (a (0,(i:Int),()))=ab (if p y=true then .inr (1,a ((i:Int),(i:Int),())) else .inl (a (0,aH .i64 (i:Int) 1,()))))
  (d:f (a (0,(l.length:Int),()))=ab (.inr (0,a (0,(l.length:Int),())))) :
  (∃(i:Nat) (y:b),l[i]?=ab y/\p y=true/\Loop f (a (0,0,()))=ab (1,a ((i:Int),(i:Int),())))\/((∀y∈l,p y=false)/\Loop f (a (0,0,()))=ab (0,a (0,(l.length:Int),()))):=by
 rcases iK (f:=f) l (λi=>a (0,i,())) (λ_ y=>p y) (λi _=>(1,a ((i:Int),(i:Int),()))) (0,a (0,(l.length:Int),())) ai (λi y hy hi e=>by rw[c i y hy hi,e]) d with ⟨i,y,hy,g,_,h⟩|⟨j,h⟩
 .exact .inl ⟨i,y,hy,g,h⟩
 .refine .inr ⟨λy hy=>?_,h⟩;obtain⟨i,hi⟩:=bz.1 hy;exact j i y hi
def aaB(s:az)(x:aD)(d:Tx):az:=(s.1,(s.2.1,(nx (·.1) s.2.2.1 x,uX s.2.2.2.1 (cK (λy:aD=>y.1) s.2.2.1 x.1) d,s.2.2.2.2)))
def Ra(s:az)(id:Tx):Bool:=s.2.2.1.any (λx=>decide (x.2.1=id))||s.2.1.any (λx=>decide (x.2.2.1=id))||s.1.any (λx=>decide (x.2.2.2.1=id))
def aiz{a:Type}{l:List a}{p:a->Bool}{i:Nat}{y:a}(b:l[i]?=ab y)(c:p y=true):l.any p=true:=P6.2 ⟨y,eQ b,c⟩
def aiA{a:Type}{l:List a}{p:a->Bool}(h:∀y∈l,p y=false):l.any p=false:=by
 cases q:l.any p with
 | false=>rfl
 | true=>obtain⟨y,c,b⟩:=P6.1 q;rw[h y c] at b;cases b
def cutAt{a:Type}(l:List a)(i:Nat):List a:=l.take i++l.drop (i+1)
def We(a:List aD)(b:List Tx)(x:aD)(d:Tx)(g:b.length=a.length):∃(c f:List aD) (e r2:List Tx),c.length=e.length/\a=c++f/\b=e++r2/\c.length=cK (λy:aD=>y.1) a x.1 /\
  nx (λy:aD=>y.1) a x=c++[x]++f/\uX b (cK (λy:aD=>y.1) a x.1) d=e++[d]++r2:=by
 have h:=pC (λy:aD=>y.1) a x.1;refine⟨a.takeWhile<|λy=>ft y.1 x.1,a.dropWhile (λy=>ft y.1 x.1),b.take (cK (λy:aD=>y.1) a x.1),b.drop (cK (λy:aD=>y.1) a x.1),?_,(El).symm,(BI _ _).symm,rfl,rfl,rfl⟩;rw[kC,yx ai];rfl
def NC.more{s:az}(h:NC s){x:aD}{d:Tx}(A:OkL x)(K:s.2.2.1.length<32)(j:∀y∈s.2.2.1,y.1≠x.1)(C:∀y∈s.2.2.1,∀n∈y.2.2.1,n∉x.2.2.1)
  (p:x.2.1=[]\/((bj s.2.2.1 x.2.1).2=0/\(bj s.2.2.1 x.2.1).1.length<16)) (L:x.2.2.2.2.2.2.1=true/\x.2.2.2.2.2.1=0/\x.2.2.2.2.1=(d.length:Int)/\x.2.2.2.1=ku d/\sr d)
  (D:(jE (if x.2.1=[] then [] else(eg s.2.2.1 s.2.2.2.1 x.2.1).1) d).2=0):NC (aaB s x d):=by
 obtain⟨S,T,m,G,U,u⟩:=s;have H:=h.Tb;have B:=h.b;have hi:=h.i;have M:=h.l;have e:=h.lays;have E:=h.aji;have o:=h.tops;have hrefs:=h.refs;have r:=h.Yv;have F:=h.aiy;have t:=h.amQ;unfold aaB;dsimp only at *;have c:∀y:aD,y∈nx (λy:aD=>y.1) m x↔y=x\/y∈m:=λy=>V6 _;have f:vm (λy:aD=>y.1) (nx (λy:aD=>y.1) m x):=ahB _ H j;refine⟨B,hi,As.lays ?_ ?_ f ?_,?_,E,?_,?_,?_,F⟩
 .rw[V7];omega
 .intro y hy;rcases(c y).1 hy with rfl|hy
  .exact A
  .exact M.ll y hy
 .have N:=(Io (λy:aD=>y.1) m x).flatMap_right (λy:aD=>y.2.2.1);rw[N.nodup_iff,Zv,List.nodup_append];refine⟨?_,t,λa O b B=>?_⟩
  .have:=A.nms;unfold r8 at this;simp only[gy,uv] at this;exact this.1.2
  .rw[Lh] at B;obtain⟨y,hy,P⟩:=B;rintro rfl;exact C y hy a P O
 .obtain⟨V,W,X,Y,Q,v,I,_,J,R⟩:=We m G x d e.same;show E7 (nx (λy:aD=>y.1) m x) (uX G (cK (λy:aD=>y.1) m x.1) d)
  rw[J] at f;rw[J,R];have g:=A.id;refine E7.more Q (by rw[<-v];exact H) f (by rw[<-v,<-I];exact e) (by rw[<-v];exact j) (λq=>?_) ?_ (by rw[<-v];exact p) L (by rw[<-v,<-I];exact D)
  .rw[q] at g;exact NJ g
  .rcases A.par with q|q
   .rw[q];intro k;rw[<-k] at g;exact NJ g
   .exact q.2
 .intro y hy;rcases o y hy with q|⟨z,w,q⟩
  .exact .inl q
  .exact .inr ⟨z,(c z).2 (.inr w),q⟩
 .intro y hy;obtain⟨z,w,q⟩:=(hrefs y hy).2;exact⟨(hrefs y hy).1,z,(c z).2 (.inr w),q⟩
 .intro y hy;obtain⟨⟨z,w,q⟩,k⟩:=r y hy;exact⟨⟨z,(c z).2 (.inr w),q⟩,k⟩
def BdS.more{s:az}(h:BdS s){x:aD}{d:Tx}(b:BdL x)(c:s.2.2.1.length<32)(f:d.length<=8192):BdS (aaB s x d):=by
 refine⟨?_,h.il,h.bl,λy hy=>?_,h.xi,h.xb,λe a=>?_,h.ml⟩
 .show(nx (λy:aD=>y.1) s.2.2.1 x).length<=40
  rw[V7];omega
 .rcases(V6 _).1 hy with rfl|hy
  .exact b
  .exact h.xl y hy
 .have a:e∈uX s.2.2.2.1 (cK (λy:aD=>y.1) s.2.2.1 x.1) d:=a;unfold uX at a;rw[Rr,Rr,zO] at a;rcases a with (a|rfl)|a
  .exact h.dl e (JI a)
  .exact f
  .exact h.dl e (P3 a)
def NM{a:List aD}{b:List Tx}{id:Tx}(h:(eg a b id).2=0):Valid (eg a b id).1:=by
 obtain⟨_,t⟩:=Wd h;rw[t] at h⊢;exact YW _ _ Iq h
def aaC{a:Type}(l:List a)(i:Nat)(b:i<l.length)(c:l.length<=1000000):HI l (i:Int) (aH .i64 (i:Int) 1)=ab (cutAt l i):=by
 unfold HI cutAt;rw[aL ai,aV ai ai fi,zS,qJ,qJ]
def vn(n:Nat)(a:List Tx):List Tx:=a.take n++List.replicate (n-a.length) []
def xE(n:Nat)(a:List Tx):(vn n a).length=n:=by
 unfold vn
 grind
def AE{n:Nat}{a:List Tx}(h:a.length=n):vn n a=a:=by
 unfold vn;rw[Hi ai,show n-a.length=0 from ai,List.replicate_zero,zQ]
def ahM{n i:Nat}{a:List Tx}(h:i<n):(vn n a)[i]?=ab ((a[i]?).getD []):=by
 unfold vn
 grind
def Ir(s:az)(a:s.2.2.1.length<=1000000):nk (s,())=ab (vn s.2.2.1.length s.2.2.2.1,()):=by
 unfold nk;dsimp only;rw[aV aK fi<|sF _,ae,cN ai,ae]
 congr 1
 unfold over kj len iW vn
 grind
def NN(s:az)(x:aD)(d:Tx):az:=(s.1,(s.2.1,(nx (·.1) s.2.2.1 x,uX (vn s.2.2.1.length s.2.2.2.1) (cK (λy:aD=>y.1) s.2.2.1 x.1) d,s.2.2.2.2)))
def Wf(s:az)(x:aD)(d:Tx)(r:s.2.2.1.length<=100000):pw (s,x,d,())=ab (NN s x d,()):=by
 obtain⟨n,o,a,b,p⟩:=s;dsimp only at r;have l:=pC (λy:aD=>y.1) a x.1;unfold pw;have c:=tn (f:=qE ((n,o,a,b,p),x,d,())) (λy:aD=>y.1) a x.1 ai (λi=>(((0:Int),i,()),x,())) (λi=>(1,((i:Int),(i:Int),()),x,()))
  (0,((0:Int),(a.length:Int),()),x,()) (λi y q=>by
   have hi:=aF q;unfold qE;rw[aq hi,ae,au q,aa,aL ai];cases ft y.1 x.1<;>rfl) (by unfold qE;dsimp only;rw[aw,af])
 rw[c,aa];have e:=Ir (n,o,a,b,p) Bw;have g:∀k:Nat,k<=a.length->kX (vn a.length b,(k:Int),d,())=ab (uX (vn a.length b) k d,()):=λk l=>by
  unfold kX;rw[show @len ay=@len Tx from rfl,cN (by rw[xE];omega),ae];unfold eX;rw[ahL (vn a.length b) k d (by rw[xE];omega)<|by rw[xE];omega,aa]
 have h:iA (a,((cK (λy:aD=>y.1) a x.1:Nat):Int),x,())=ab (nx (λy:aD=>y.1) a x,()):=by
  unfold iA;dsimp only;rw[cN ai,ae];unfold dH;rw[show uJ a ((cK (λy:aD=>y.1) a x.1:Nat):Int) [x]=_ from tm (λy:aD=>y.1) a x ai,aa]
 by_cases j:cK (λy:aD=>y.1) a x.1<a.length
 .rw[aX j];rw[show de 1 0=false from rfl,af,aa];dsimp only;rw[e,aa,aJ ai,af];rw[g _ l,aa,h,aa];rfl
 .rw[aR j];have m:cK (λy:aD=>y.1) a x.1=a.length:=ai;rw[b9,ae,aa];dsimp only;rw[e,aa,aO aK,ae];rw[show @len (Tx×Tx×List Tx×Tx×Int×Int×Bool×al) a=((cK (λy:aD=>y.1) a x.1:Nat):Int) from by rw[m];rfl,g _ l,aa,h,aa];rfl
def Wg:yN ()=ab (kF 1024,()):=by
 exact VH 1024 aK
abbrev Ch1:=(List aD×Int×al×Tx×Int×al)×List aD×al
def NO(b:List aD)(j:Tx)(u:b.length<=1000000)(p:∀x∈b,x.2.2.1.length<=4294967296)(c:List aD)(d:Int)(id:Tx)(a:List aD)(v:a.length<=16) :
  ∃i:Int,Loop (lI (b,j,())) ((c,d,(),id,(0:Int),()),a,())=ab (match E5 b id with
   | none=>(0,(c,d,(),id,i,()),a,())
   | some k=>match b[k]? with
     | none=>(0,(c,d,(),id,i,()),a,())
     | some x=>if a.length=16 then(1,([],5,(),id,i,()),a,()) else if x.2.1=[] then(2,(c,d,(),id,i,()),a++[x],()) else(3,(c,d,(),x.2.1,i,()),a++[x],())):=by
 rcases iK (f:=lI (b,j,())) b (λi=>((c,d,(),id,i,()),a,())) (λ_ x=>decide (x.1=id))
  (λi x=>if a.length=16 then(1,([],5,(),id,(i:Int),()),a,()) else if x.2.1=[] then(2,(c,d,(),id,(i:Int),()),a++[x],()) else(3,(c,d,(),x.2.1,(i:Int),()),a++[x],()))
  (0,(c,d,(),id,(b.length:Int),()),a,()) ai (λi x l r m=>by
   unfold lI;rw[aq r,ae,au l,aa,cZ,m];by_cases q:x.1=id
   .rw[dD q,aG,af,aX rfl,rn _ (p x<|eQ l),aa];have n:aS (@len aD a) (16:Int)=decide (a.length=16):=by unfold aS len;apply gX.2;omega
    rw[n];by_cases e:a.length=16
    .rw[dD e,ae,aX e]
    .rw[cL e,af,aR e];rw[show fits (plus (@len aD a)<|@len aD ([(x.1,x.2.1,x.2.2.1,x.2.2.2)]:List aD))=true from bo (by show _+1<=_;omega),ae,cZ,ew];by_cases g:x.2.1=[]
     .rw[dD g,aX rfl,aX g];rfl
     .rw[cL g,aR g];rfl
   .rw[cL q,aA,ae];rfl) (by unfold lI;dsimp only;rw[aw,af]) with ⟨i,x,l,g,s,h⟩|⟨o,h⟩
 .refine⟨(i:Int),?_⟩;have t:x.1=id:=iq g;rw[Nz l t s]
  grind
 .refine⟨(b.length:Int),?_⟩;rw[GO o];exact h
def Wh{b:List aD}{id:Tx}(h:E5 b id=ah)(n:Nat)(a:List aD):BD b n id a=([],3):=by
 unfold BD;rw[h]
def ahN{b:List aD}{id:Tx}{k:Nat}(h:E5 b id=ab k)(a:List aD):BD b 0 id a=([],5):=by
 unfold BD;rw[h]
def ajm{b:List aD}{id:Tx}{k:Nat}{x:aD}(h:E5 b id=ab k)(c:b[k]?=ab x)(n:Nat)(a:List aD) :
  BD b (n+1) id a=if x.2.1=[] then(a++[x],0) else BD b n x.2.1 (a++[x]):=by
 conv=>lhs;unfold BD
 grind
def Ju(ls:List aD)(a:Tx)(j:ls.length<=1000000)(l:∀x∈ls,x.2.2.1.length<=4294967296):∀(n:Nat) (id:Tx) (acc:List aD),n+acc.length=16 ->
  ∃e f g,Loop (lJ (ls,a,())) ((([]:List aD),(0:Int),(),id,()),acc,()) =
   ab (if(BD ls n id acc).2=0 then(1,e,(BD ls n id acc).1,()) else(0,((BD ls n id acc).1,(BD ls n id acc).2,f),g)):=by
 intro n;induction n with
 | zero =>
   intro id acc m;rw[aT];unfold lJ;obtain⟨i,h⟩:=NO ls a j l [] 0 id acc ai;rw[h,aa];cases b:E5 ls id with
   | none =>
     rw[Wh b];exact⟨(([]:List aD),(0:Int),(),id,()),_,_,rfl⟩
   | some k =>
     obtain⟨x,c,_⟩:=yS b;rw[ahN b];dsimp only;rw[c];dsimp only;rw[aX ai];exact⟨(([]:List aD),(0:Int),(),id,()),_,_,rfl⟩
 | succ n o =>
   intro id acc m;rw[aT];unfold lJ;obtain⟨i,h⟩:=NO ls a j l [] 0 id acc ai;rw[h,aa];cases b:E5 ls id with
   | none =>
     rw[Wh b];exact⟨(([]:List aD),(0:Int),(),id,()),_,_,rfl⟩
   | some k =>
     obtain⟨x,c,_⟩:=yS b;rw[ajm b c];dsimp only;rw[c];dsimp only;rw[aR ai];by_cases d:x.2.1=[]
     .rw[aX d,aX d];exact⟨_,((),([]:Tx),()),(acc,()),rfl⟩
     .rw[aR d,aR d];obtain⟨e,f,g,p⟩:=o x.2.1 (acc++[x]) (by rw[jB];show n+(_+1)=16;omega);exact⟨e,f,g,p⟩
def E9(a:List aD)(id:Tx)(b:a.length<=1000000)(d:∀x∈a,x.2.2.1.length<=4294967296):kv (a,id,())=ab ((bj a id).1,(bj a id).2,()):=by
 unfold kv;obtain⟨e,f,g,h⟩:=Ju a id b d 16 id [] rfl;rw[h,aa];unfold bj;by_cases c:(BD a 16 id []).2=0
 .rw[aX c,c];rfl
 .rw[aR c];rfl
def Tf{a:Type}(key:a->Tx)(l:List a)(x:a):nx key l x=uX l (cK key l<|key x) x:=by
 unfold nx uX;rw[(AA key l x).1,(AA key l x).2]
def ahO(id a:Tx)(b:List Tx):aD:=(id,a,b,ku<|kF 1024,1024,0,true,())
def dd(s:az)(a:Tx):Tx:=if a=[] then [] else(aW (eN s) a).1
def WX(s:az)(b:Tx)(a:List Tx)(d:Int):az×tp×al :=
 if jd a≠0 then(s,iS<|jd a,()) else
 if b≠[]/\(aW (eN s) b).2.1≠0 then(s,iS (aW (eN s) b).2.1,()) else
 if mH (eN s) [] a≠0 then(s,iS<|mH (eN s) [] a,()) else
 if(cD (eN s) d).2.1≠0 then(s,iS (cD (eN s) d).2.1,()) else
 if dd s b≠[]/\(bj s.2.2.1<|dd s b).2=0/\16<=(bj s.2.2.1<|dd s b).1.length then(s,iS 5,()) else
 (NN s (ahO (cD (eN s) d).1 (dd s b) a)<|kF 1024,xA (cD (eN s) d).1,())
def vo(s:az)(b:Tx)(a:List Tx)(d:Int)(h:AB s)(n:a.length<=4294967296) :
  hL (s,b,a,[],d,())=ab (WX s b a d):=by
 have o:=h.ll;have k:aS (0:Int) 0=true:=rfl;have es:bH ([]:ay) ([]:ay)=true:=rfl;unfold hL;dsimp only;simp only[k,es,ae,af,aG];rw[rh a n,aa];unfold WX;dsimp only;by_cases c1:jd a=0
 rotate_left
 .rw[aX c1,ax c1];simp only[aA,ae,aa,ax c1];rfl
 rw[aR<|λq=>q c1,aE c1];simp only[aG,af,aa,k,cZ];have l:(ao (nt<|decide<|b=[]) (ag (dF (s,b,())) λe=>ab ((e.2.1,()),e.1,()))<|some (((0:Int),()),([]:Tx),())) =
   ab (((if b=[] then 0 else(aW (eN s) b).2.1),()),dd s b,()):=by
  unfold dd;by_cases q:b=[]
  .rw[dD q,aG,af,aX q,aX q]
  .rw[cL q,aA,ae,fW s b h,aa,aR q,aR q]
 rw[show(ao (nt<|decide<|b=[]) (ag (dF (s,b,())) λe=>ab ((e.2.1,()),e.1,()))<|some (((0:Int),()),([]:ay),()))=_ from l,aa];dsimp only;have c:(b≠[]/\(aW (eN s) b).2.1≠0)↔¬((if b=[] then 0 else(aW (eN s) b).2.1)=0):=by
  by_cases q:b=[]
  .simp[q]
  .simp[q]
 have f:(b≠[]/\(aW (eN s) b).2.1≠0)->(if b=[] then 0 else(aW (eN s) b).2.1)=(aW (eN s) b).2.1:=λq=>aR q.1;by_cases c2:(if b=[] then 0 else(aW (eN s) b).2.1)=0
 rotate_left
 .rw[aX<|c.2 c2,ax c2];simp only[aA,ae,aa,ax c2];rw[f<|c.2 c2];rfl
 rw[aR<|λq=>c.1 q c2,aE c2];simp only[aG,af];rw[tq s h,aa,oh (eN s) [] a (Ip h) n,aa];dsimp only;by_cases c3:mH (eN s) [] a=0
 rotate_left
 .rw[aX<|show mH (eN s) [] a≠0 from c3,ax c3];simp only[aA,ae,aa,ax c3];rfl
 rw[aR<|show ¬(mH (eN s) [] a≠0) from λq=>q c3,aE c3];simp only[aG,af,aa];rw[Df,aa];by_cases c4:(cD (eN s) d).2.1=0
 rotate_left
 .rw[aX<|show(cD (eN s) d).2.1≠0 from c4,ax c4];simp only[aA,ae,aa,ax c4];rfl
 rw[aR<|show ¬((cD (eN s) d).2.1≠0) from λq=>q c4,aE c4];simp only[aG,af];rw[E9 _ _ ai<|λx p=>(h.ln x p).small,aa];dsimp only;have r:(ao (ao (ao (nt<|decide<|dd s b=[]) (aS (bj s.2.2.1<|dd s b).2 0) false) (cu 16<|len (bj s.2.2.1<|dd s b).1) false) (ab (((5:Int),()),dd s b,s,()))<|some (((0:Int),()),dd s b,s,())) =
   ab (((if dd s b≠[]/\(bj s.2.2.1<|dd s b).2=0/\16<=(bj s.2.2.1<|dd s b).1.length then 5 else 0),()),dd s b,s,()):=by
  have m:cu (16:Int) (len (bj s.2.2.1<|dd s b).1)=decide (16<=(bj s.2.2.1<|dd s b).1.length):=by unfold cu len;apply gX.2;omega
  rw[m,GI];by_cases g:dd s b=[]
  .rw[dD g,aG,af,af,af,aR λq=>q.1 g]
  .rw[cL g,aA,ae];by_cases i:(bj s.2.2.1<|dd s b).2=0
   .rw[dD i,ae];by_cases j:16<=(bj s.2.2.1<|dd s b).1.length
    .rw[dD j,ae,aX ⟨g,i,j⟩]
    .rw[cL j,af,aR λq=>j q.2.2]
   .rw[cL i,af,af,aR λq=>i q.2.1]
 rw[show(ao (ao (ao (nt<|decide<|dd s b=[]) (aS (bj s.2.2.1<|dd s b).2 0) false) (cu 16<|len (bj s.2.2.1<|dd s b).1) false) (ab (((5:Int),()),dd s b,s,()))<|some (((0:Int),()),dd s b,s,()))=_ from r,aa];dsimp only;by_cases c5:dd s b≠[]/\(bj s.2.2.1<|dd s b).2=0/\16<=(bj s.2.2.1<|dd s b).1.length
 .rw[aX c5,aX c5];rfl
 rw[aR c5,aR c5];simp only[k,aG,af,aa,T6,ae];rw[Wg,aa,aa];dsimp only;rw[show fits (plus (@len ay [])<|@len ay a)=true from bo (by simp only[nQ];omega),ae,Yk _ (by rw[tj];decide),aa];dsimp only;rw[show @app ay [] a=a from rfl,show @len UInt8 (kF 1024)=1024 from by unfold len;rw[tj];rfl];rw[show pw (s,((cD (eN s) d).1,dd s b,a,ku<|kF 1024,(1024:Int),(0:Int),true,()),kF 1024,())=ab (NN s (ahO (cD (eN s) d).1 (dd s b) a)<|kF 1024,()) from Wf s (ahO _ _ a) (kF 1024) ai,aa];rfl
set_option maxRecDepth 100000
def MZ.hd{s:az}(h:MZ s):AB s:=⟨h.base.ll,h.base.il,h.base.bl,h.base.ln,h.base.pJ,h.base.bn,λx a=>(h.base.im x a).2⟩
structure ajn (s:az):Prop where
 bl:s.1.length<=1000000
 il:s.2.1.length<=1000000
 ll:s.2.2.1.length<=1000000
 dl:s.2.2.2.1.length<=1000000
 ml:s.2.2.2.2.1.length<=1000000
 xb:∀x∈s.1,sa x.2.1/\BB x.2.2.2.2.2.1
 xi:∀x∈s.2.1,sa x.2.1/\BB x.2.2.2.2.1
 xl:∀x∈s.2.2.1,sa x.2.2.1
def MZ.slf{s:az}(h:MZ s):ajn s:=⟨by have:=h.base.bl;dsimp only at this;omega,by have:=h.base.il;dsimp only at this;omega,by have:=h.lays;omega,by have:=h.aag;omega,by have:=h.Yv;omega,
 λx a=>⟨h.base.bn x a,(h.base.bm x a).2⟩,λx a=>⟨h.base.pJ x a,(h.base.im x a).2⟩,h.base.ln⟩
def e0:az:=([],[],[],[],[],())
def e5:Tx:=[48,48,48,48,48,53]
def e6:Tx:=[48,48,48,48,48,54]
def eb:Tx:=[98,97,115,101]
def L5(D:Tx):aD:=(e5,[],[eb],D,1024,0,true,())
def L6(D:Tx):aD:=(e6,e5,[],D,1024,0,true,())
def s1(D N:Tx):az:=([],[],[L5 D],[N],[],())
def s2(D N:Tx):az:=([],[],[L5 D,L6 D],[N,N],[],())
def s3(D N:Tx):az:=([],[],[L5 D,L6 D],[N,N],[(e6,1,())],())
def afC(a:tp):an (aS a.1 a.1) (an (bH a.2.1 a.2.1)<|an (aS a.2.2.1 a.2.2.1)<|an (bH a.2.2.2.1 a.2.2.2.1) true)=true:=by
 simp only[n7,xD];rfl
end Go.Ge
namespace Go.Ge
variable [Lp]
def YX(s:az)(id:Tx)(c:s.2.2.2.2.1.length<=1000000):∃n,dB (s,id,())=ab (n,())/\((∃x∈s.2.2.2.2.1,x.1=id/\x.2.1=n)\/(n=0/\∀x∈s.2.2.2.2.1,x.1≠id)):=by
 unfold dB;rcases wu (f:=ke (s,_)) s.2.2.2.2.1 (λy=>decide (y.1=id)) (λq=>(q,(),id,())) c (λi y a d=>by
  unfold ke vj;rw[aq d,ae,au a,aa,aa,cZ,ew];by_cases q:y.1=id<;>simp[q]) (by unfold ke;dsimp only;rw[aw,af]) with ⟨i,y,a,e,b⟩|⟨g,b⟩
 .rw[b,aa];dsimp only;rw[show de 1 0=false from rfl,af,aJ ai,af,au a,aa]
  grind
 .rw[b,aa];rw[b9,ae]
  grind
def YY{f:(Int×Int×al)×Tx×al->Option (((Int×Int×al)×Tx×al)⊕(Nat×(Int×Int×al)×Tx×al))}(l:List eP)(id:Tx)(g:l.length<=1000000)
  (d:∀c i:Int,f ((c,i,()),id,())=ao (ba i<|len l) (ag (idx l i) λy=>ao (bH y.2.2.2.1 id) (ab<|.inr (1,(i,i,()),id,())) (ab<|.inl ((c,aH .i64 i 1,()),id,()))) (ab<|.inr (0,(c,i,()),id,()))) :
  ag (Loop f (((0:Int),(0:Int),()),id,())) (λe=>ao (de e.1 0) (ab (false,())) (ab (cu (0:Int) e.2.1.1,())))=ab (l.any<|λx=>decide (x.2.2.2.1=id),()):=by
 rcases wu (f:=f) l (λy=>decide (y.2.2.2.1=id)) (λq=>(q,_)) g (λi y a h=>by
  rw[d,aq h,ae,au a,aa,cZ,ew];by_cases q:y.2.2.2.1=id<;>simp[q]) (by rw[d,aw,af]) with ⟨i,y,a,j,b⟩|⟨k,b⟩
 .rw[b,aa,aiz a j];dsimp only;rw[show de 1 0=false from rfl,af,bO ai]
 .rw[b,aa,aiA k];rfl
def Wi(s:az)(id:Tx)(m:s.1.length<=1000000)(n:s.2.1.length<=1000000)(o:s.2.2.1.length<=1000000):px (s,id,())=ab (Ra s id,()):=by
 unfold px Ra;have li:∀{f:_×Tx×al->Option _},
   (∀c i:Int,f ((c,i,()),_)=ao (ba i _) (ag (idx s.2.1 i) λy=>ao (bH y.2.2.1 id) (ab<|.inr (1,(i,i,()),id,())) (ab<|.inl ((c,aH .i64 i 1,()),id,()))) (ab<|.inr (0,(c,i,()),id,()))) ->
   (∃(i:Nat),s.2.1.any (λx=>decide (x.2.2.1=id))=true/\Loop f (((0:Int),(0:Int),()),id,())=ab (1,((i:Int),(i:Int),()),id,()))\/(s.2.1.any (λx=>decide (x.2.2.1=id))=false/\Loop f (((0:Int),(0:Int),()),id,())=ab (0,((0:Int),(s.2.1.length:Int),()),id,())):=λ{f} h=>by
  rcases wu (f:=f) s.2.1 (λy=>decide (y.2.2.1=id)) (λq=>(q,id,())) n (λi y b g=>by
   rw[h,aq g,ae,au b,aa,cZ,ew];by_cases q:y.2.2.1=id<;>simp[q]) (by rw[h,aw,af]) with ⟨i,y,b,j,d⟩|⟨l,d⟩
  .grind
  .grind
 rcases wu (f:=qF (s,_)) s.2.2.1 (λy=>decide (y.2.1=id)) (λq=>(q,id,())) o (λi y b g=>by
  unfold qF;rw[aq g,ae,au b,aa,cZ,ew];by_cases q:y.2.1=id<;>simp[q]) (by unfold qF;dsimp only;rw[aw,af]) with ⟨i,y,b,j,d⟩|⟨l,d⟩
 .rw[d,aa,aiz b j];rw[show de 1 0=false from rfl,af,aa];rcases li (f:=vi (s,_)) (λc i=>rfl) with ⟨k,e,a⟩|⟨e,a⟩
  .rw[a,aa];rfl
  .rw[a,aa];rfl
 .rw[d,aa,aiA l];rw[b9,ae,aa];rcases li (f:=vi (s,id,())) (λc i=>rfl) with ⟨k,e,a⟩|⟨e,a⟩
  .rw[a,aa,e];rfl
  .rw[a,aa,e];exact YY s.1 id m (λc i=>rfl)
def lN(s:az)(id:Tx):aD×Tx×Bool×al:=match E5 s.2.2.1 id with
 | none=>(([],[],[],[],(0:Int),(0:Int),false,()),[],false,())
 | some i=>match s.2.2.1[i]? with
   | none=>(([],[],[],[],(0:Int),(0:Int),false,()),[],false,())
   | some x=>(x,(s.2.2.2.1[i]?).getD [],true,())
def ixL{f:(Int×Int×al)×al×Tx×al->Option (((Int×Int×al)×al×Tx×al)⊕(Nat×(Int×Int×al)×al×Tx×al))}(a:List aD)(id:Tx)(o:a.length<=1000000)
  (e:∀c i:Int,f ((c,i,()),(),id,())=ao (ba i<|len a) (ag (idx a i) λy=>ao (bH y.1 id) (ab<|.inr (1,(i,i,()),(),id,())) (ab<|.inl ((c,aH .i64 i 1,()),(),id,()))) (ab<|.inr (0,(c,i,()),(),id,()))) :
  ag (Loop f (((0:Int),(0:Int),()),(),id,())) (λb=>ao (de b.1 0) (ab (((-1:Int),()),(),b.2.2.2.1,())) (ab ((b.2.1.1,()),(),b.2.2.2.1,())))=ab ((BC a id,()),(),id,()):=by
 rcases iK (f:=f) a (λj=>(((0:Int),j,()),_)) (λ_ y=>decide (y.1=id)) (λi _=>(1,((i:Int),(i:Int),()),(),id,())) _ ai (λi y d g k=>by
  rw[e,aq g,ae,au d,aa,cZ,ew,k];by_cases q:y.1=id<;>simp[q]) (by rw[e,aw,af]) with ⟨i,y,d,l,m,h⟩|⟨n,h⟩
 .rw[h,aa];unfold BC;rw[Nz d (iq l) m];rfl
 .rw[h,aa];unfold BC;rw[GO n];rfl
def yo(s:az)(id:Tx)(e:s.2.2.1.length<=100000)(b:∀x∈s.2.2.1,x.2.2.1.length<=4294967296):iI (s,id,())=ab (lN s id):=by
 unfold iI lN;rw[ixL s.2.2.1 id ai<|λc i=>rfl,aa];unfold BC;cases h:E5 s.2.2.1 id with
 | none=>rfl
 | some i =>
   obtain⟨x,a,_⟩:=yS h;have hi:=aF a;dsimp only;rw[aJ ai,af,au a,aa,a];have d:=b x (eQ a);rw[w8 x.2.2.1 d,aa,Ir s ai,aa];rw[au<|ahM hi,aa]
def Wj(s:az)(id:Tx)(n:Int):az:=(s.1,(s.2.1,(s.2.2.1,(s.2.2.2.1,((if 0<n then nx (·.1) (u7 (·.1) s.2.2.2.2.1 id) (id,n,()) else u7 (·.1) s.2.2.2.2.1 id),s.2.2.2.2.2)))))
def amR(l:List fX)(id:Tx)(n:Int)(o:l.length<=100000)(k:∀x∈l,x.1≠id){f:(Int×Int×al)×Tx×al->Option (((Int×Int×al)×Tx×al)⊕(Nat×(Int×Int×al)×Tx×al))}
  (d:∀c i:Int,f ((c,i,()),id,())=ao (ba i<|len l) (ag (idx l i) λy=>ao (nt<|oor (ft y.1 id)<|bH y.1 id) (ab<|.inr (1,(i,i,()),id,())) (ab<|.inl ((c,aH .i64 i 1,()),id,()))) (ab<|.inr (0,(c,i,()),id,()))) :
  ag (Loop f (((0:Int),(0:Int),()),id,())) (λa=>ao (de a.1 0) (ag (bL (l,(((@len fX l,()),()).1).1,(a.2.2.1,n,()),())) λb=>ab ((b.1,()),a.2.2.1,()))
   (ag (bL (l,((ao (ba a.2.1.1 (0:Int)) ((@len fX l,()),()) ((a.2.1.1,()),())).1).1,(a.2.2.1,n,()),())) λb=>ab ((b.1,()),a.2.2.1,())))=ab ((nx (·.1) l (id,n,()),()),id,()):=by
 have g:∀x:fX,x.1=id->bL (l,((cK (λy:fX=>y.1) l id:Nat):Int),x,())=ab (nx (·.1) l x,()):=by
  intro x m;unfold bL;dsimp only;rw[cN ai,ae];have:=tm (λy:fX=>y.1) l x ai;rw[m] at this;exact ob this rfl
 have h:=tn (f:=f) _ l id ai (λi=>(((0:Int),i,()),_)) _ _ (λi y j=>by
  have hi:=aF j;rw[d,aq hi,ae,au j,aa,X4,aL ai];rcases C9 y.1 id with q|q|q
  .rw[q,rb q];rfl
  .grind
  .rw[q,rb q];rfl) (by rw[d,aw,af])
 have p:=pC (λy:fX=>y.1) l id;rw[h,aa];by_cases q:cK (λy:fX=>y.1) l id<l.length
 .rw[aX q];refine ob (g _ rfl) rfl
 .rw[aR q];have e:(@len fX l)=((cK (λy:fX=>y.1) l id:Nat):Int):=fi;rw[e];refine ob (g _ rfl) rfl
def CA(s:az)(id:Tx)(n:Int)(k:s.2.2.2.2.1.length<=50000):qa (s,id,n,())=ab (Wj s id n,()):=by
 obtain⟨E,F,G,H,a,u⟩:=s;dsimp only at k;have go:∀l:List fX,l.length<=100000->(∀x∈l,x.1≠id)->∀{f:_×Tx×al->Option _},
   (∀c i:Int,f ((c,i,()),id,())=ao (ba i<|len l) (ag (idx l i) λy=>ao (nt<|oor (ft y.1 id)<|bH y.1 id) (ab<|.inr (1,(i,i,()),id,())) (ab<|.inl ((c,aH .i64 i 1,()),id,()))) (ab<|.inr (0,(c,i,()),id,()))) ->
   ao (ba 0 n) (ag (Loop f (((0:Int),(0:Int),()),id,())) λd=>ao (de d.1 0) (ag (bL (l,(((@len fX l,()),()).1).1,(d.2.2.1,n,()),())) λm=>ab ((m.1,()),d.2.2.1,()))
    (ag (bL (l,((ao (ba d.2.1.1 (0:Int)) ((@len fX l,()),()) ((d.2.1.1,()),())).1).1,(d.2.2.1,n,()),())) λm=>ab ((m.1,()),d.2.2.1,()))) (ab ((l,()),id,())) =
    ab (((if 0<n then nx (·.1) l (id,n,()) else l),()),id,()):=by
  intro l k b f I;by_cases q:0<n
  .rw[aO q,ae,aX q];exact amR l id n k b I
  .rw[aJ ai,af,aR q]
 unfold qa Wj;dsimp only;rw[cN ai,ae];rcases iK (f:=py ((E,F,G,H,a,u),_)) a (λj=>(((0:Int),j,()),id,())) (λ_ y=>decide (y.1=id)) (λi _=>(1,((i:Int),(i:Int),()),id,())) _ ai (λi y e o p=>by
  unfold py;dsimp only;rw[aq o,ae,aM ai fi,ae,au e,aa,cZ,ew,p];by_cases q:y.1=id<;>simp[q]) (by unfold py;dsimp only;rw[aw,af]) with ⟨i,y,e,N,B,h⟩|⟨O,h⟩
 rotate_left
 .have b:∀x∈a,x.1≠id:=λx g=>by
   obtain⟨i,o⟩:=bz.1 g
   grind
  rw[V8 _ b];refine ob h ?_;exact ob (go a ai b λc i=>rfl) rfl
 have o:=aF e;refine ob h ?_;have r:a.take i=(a.take<|i+1).filter (λx=>!decide (x.1=id)):=by
  rw[Er,e,Lj];have C:(a.take i).filter (λx=>!decide (x.1=id))=a.take i:=Hj.2 λz t=>by
   obtain⟨j,J⟩:=bz.1 t
   grind
  grind
 obtain⟨w,L,C,P,Q,R⟩:=GM (f:=pz) a _ (λw j L=>((w,j,_),id,L,())) (λw L=>((w,(L.length:Int),_),id,L,())) ai (λw j L x g v S B p K=>by
  unfold pz;dsimp only;have A:w<L.length:=ai;obtain⟨z,t⟩:∃z,L[w]?=ab z:=⟨_,ik A⟩;rw[aq B,ae,aM ai fi,ae,au v,aa,cZ,K];cases decide (x.1=id) with
  | true=>rfl
  | false =>
    rw[aA,ae,aM ai fi,ae,au t,aa,aa,aa,aa,p,uK];rfl) (λw L=>by
  unfold pz;rw[aw,af];rfl) a.length i _ a ai ai ai rfl r rfl
 rw[aL ai];refine ob C ?_;dsimp only;have D:L.take w=u7 (λx:fX=>x.1) a id:=by
  unfold u7
  grind
 have M:(u7 (λx:fX=>x.1) a id).length<=a.length:=(K2 _ a id).length_le;rw[aV ai fi<|sF _,ae,GN L w ai,aV (sF _) ai ai,ae,Cn L w ai,D];exact ob (go (u7 (λx:fX=>x.1) a id) ai (λx g=>((ahC _).1 g).2)
  (λc i=>by
   unfold zy;rw[Cn L w ai,D])) rfl
abbrev cf:=Int×Int×Tx×Tx×List Tx×Tx×Tx×Int×al
def acH(l:List Int)(v:Int)(j:l.length<=1000000):∃i:Int,iC (l,v,())=ab (i,())/\cu 0 i=decide (v∈l):=by
 unfold iC;rcases iK (f:=gb (l,v,())) l (λi=>(((0:Int),i,()),())) (λ_ x=>decide (v=x)) (λi x=>(1,((i:Int),(i:Int),()),())) (0,((0:Int),(l.length:Int),()),()) ai (λi x a b c=>by
  unfold gb;dsimp only;rw[aq b,ae,au a,aa,ew,c];by_cases h:v=x<;>simp[aS,h]) (by unfold gb;dsimp only;rw[aw,af]) with ⟨i,x,a,d,k,h⟩|⟨e,h⟩
 .refine⟨(i:Int),by rw[h];rfl,?_⟩;rw[bO ai,dD];rw[iq d];exact eQ a
 .refine⟨-1,by rw[h];rfl,?_⟩;rw[ea ai,cL];intro g;obtain⟨i,b⟩:=bz.1 g;have:=e i v b;simp at this
def wv(l:List Int)(v:Int)(a:l.length<=1000000):dc (l,v,())=ab (decide<|v∈l,()):=by
 obtain⟨i,b,c⟩:=acH l v a;unfold dc;dsimp only;rw[b,aa,c]
def Ps(a:Int)(l:List Int):List Int:=if a∈l then [a] else []
def cG(c:cf):List Int :=
 if c.1=2\/c.1=11\/c.1=12 then [1,2,3] else if c.1=7 then [2,3] else if c.1=8 then [1,2] else
 if c.1=1\/c.1=3\/c.1=4\/c.1=5\/c.1=6 then [3] else if c.1=9\/c.1=10 then Ps c.2.1 [1,2] else
 if c.1=13\/c.1=14\/c.1=15 then Ps c.2.1 [1,2,3] else []
def ahP(a b:Bool):((ao a ((a,()),()) ((b,()),())).1).1=(a||b):=by cases a<;>rfl
def Wk(c:cf)(l:List Int)(a:l.length<=1000000):xC (c,l,())=ab (Ps c.2.1 l,()):=by
 unfold xC Ps;dsimp only;rw[wv l _ a,aa];by_cases h:c.2.1∈l
 .rw[aX h,dD h];rfl
 .rw[aR h,cL h];rfl
def Is(c:cf):iJ (c,())=ab (cG c,()):=by
 unfold iJ cG;dsimp only;simp only[ahP];rw[Wk c [1,2] bb,Wk c [1,2,3] bb,aa,aa];simp only[ew,aS,Fs,uv];repeat' (first|rfl|split)
def NP(c:cf):(cG c).length<=3:=by
 unfold cG Ps;repeat' (first|(simp;done)|split)
def dX(c:cf):Bool:=decide (c.1=2\/c.1=5\/c.1=6\/c.1=12)
def D2(c:cf):mS (c,())=ab (dX c,()):=by
 unfold mS dX;dsimp only;rw[wv _ _ bb,aa]
 congr 2
 apply gX.2;simp
def Jv(c:cf):Option Tx :=
 if c.1=1 then(if c.2.2.2.1=[]\/c.2.2.2.2.2.1=[] then ah else ab c.2.2.2.1) else if c.1=3\/c.1=4 then ab c.2.2.1 else ah
def AF(s:az)(k:Int)(a:Tx):List Tx :=
 if(aW (eN s) a).2.1=0 then(if k=3 then [(aW (eN s) a).1] else(bj s.2.2.1 (aW (eN s) a).1).1.map (·.1)) else []
def sy(s:az)(c:cf):List Tx:=match Jv c with|some ref=>AF s c.1 ref|none=>[]
def afD{f:(al×Int×al)×List Tx×al->Option (((al×Int×al)×List Tx×al)⊕((al×Int×al)×List Tx×al))}(l:List aD)(h:l.length<=1000000)
  (b:∀a,f a=dq (ao (ba a.1.2.1<|len l) (ag (idx l a.1.2.1) λc=>ao (fits<|plus (len a.2.1)<|len ([c.1]:List Tx)) (ab<|Sum.inl (((),aH i64 a.1.2.1 1,()),app a.2.1 ([c.1]:List Tx),())) ah)<|some<|Sum.inr (0,((),a.1.2.1,()),a.2.1,()))) :
  Loop f (((),(0:Int),()),([]:List Tx),())=ab (((),(l.length:Int),()),(l.map (·.1),())):=by
 have key:=rT (f:=f) l (λ(out:List Tx) (i:Int)=>(((),i,()),out,())) (λx=>[x.1]) (((),(l.length:Int),()),(l.map (·.1),())) ai (λi x d e g=>by
  have j:((l.take i).flatMap λx:aD=>[x.1]).length<=1000000:=by
   rw[<-Zs,ux,kC];omega
  rw[b];dsimp only;rw[aq e,ae,au d,aa,bo (by rw[Fo];omega),ae,g];rfl) (by
  rw[b];dsimp only;rw[aw,af,<-Zs];rfl)
 exact key
def YZ{s:az}(h:AB s)(k:Int)(b:Tx)(j:(bj s.2.2.1 (aW (eN s) b).1).1.length<=1000000)
  {f:List aD×Int×al->(al×Int×al)×List Tx×al->Option (((al×Int×al)×List Tx×al)⊕((al×Int×al)×List Tx×al))}
  (l:∀c a,f c a=dq (ao (ba a.1.2.1<|len c.1) (ag (idx c.1 a.1.2.1) λi=>ao (fits<|plus (len a.2.1)<|len ([i.1]:List Tx)) (ab<|Sum.inl (((),aH i64 a.1.2.1 1,()),app a.2.1 ([i.1]:List Tx),())) ah)<|some<|Sum.inr (0,((),a.1.2.1,()),a.2.1,())))
  {F:Option (Tx×Int×al)} {C:Tx->Option (List aD×Int×al)} (m:F=ab (aW (eN s) b)) (n:∀id,C id=ab ((bj s.2.2.1 id).1,(bj s.2.2.1 id).2,())) :
  ag F (λg=>ao (nt<|aS g.2.1 0) (ab (([]:List Tx),())) (ao (aS k 3) (ab (([g.1]:List Tx),()))<|ag (C g.1) λc=>ag (Loop (f c) (((),(0:Int),()),([]:List Tx),())) λa=>ab (a.2.1,())))=ab (AF s k b,()):=by
 rw[m,aa];unfold AF;by_cases d:(aW (eN s) b).2.1=0
 .rw[aX d,aE d,aG,af];by_cases e:k=3
  .rw[aX e,aE e,ae]
  .rw[aR e,ax e,af,n,aa,afD _ j (λa=>l _ a),aa]
 .rw[aR d,ax d,aA,ae]
def Wl(s:az)(c:cf)(h:AB s)(j:∀id,(bj s.2.2.1 id).1.length<=1000000):uj (s,c,())=ab (sy s c,()):=by
 have i:∀id,kv (s.2.2.1,id,())=ab ((bj s.2.2.1 id).1,(bj s.2.2.1 id).2,()):=λid=>E9 s.2.2.1 id (by have:=h.ll;omega) (λx k=>by have:=(h.ln x k).1;omega);have key:=λb=>YZ h c.1 b (j _) (f:=zE) (λl m=>rfl) (C:=λid=>kv (s.2.2.1,id,())) (fW s b h) i;unfold uj sy Jv;dsimp only;by_cases d:c.1=1
 .rw[aX d,aE d,ae];by_cases e:c.2.2.2.1=[]
  .rw[aX<|.inl e,cZ,dD e,aG,af,af,ax ai,aA,ae,ax ai,aA,ae,aa];rfl
  .rw[cZ,cL e,aA,ae,cZ];by_cases a:c.2.2.2.2.2.1=[]
   .rw[aX<|.inr a,dD a,aG,af,ax ai,aA,ae,ax ai,aA,ae,aa];rfl
   .rw[aR<|by rintro(q|q);exact e q;exact a q,cL a,aA,ae,aa];exact key _
 .rw[aR d,ax d,af,af,af];by_cases a:c.1=3
  .rw[aX<|.inl a,aE a,aG,af,af,aa];have:=key c.2.2.1;rw[aE a] at this;exact this
  .by_cases g:c.1=4
   .rw[aX<|.inr g,ax a,aA,ae,aE g,aG,af,aa];have:=key c.2.2.1;rw[ax a] at this;exact this
   .rw[aR<|by rintro(q|q);exact a q;exact g q,ax a,aA,ae,ax g,aA,ae,aa];rfl
set_option maxRecDepth 100000
def DA(a:List aD)(b:List Tx)(g:Nat->aD->Option Tx):List Tx:=(a.zip b).mapIdx λi p=>(g i p.1).getD p.2
def uY{a:List aD}{b:List Tx}{g:Nat->aD->Option Tx}(h:b.length=a.length):(DA a b g).length=a.length:=by
 unfold DA;rw[List.length_mapIdx,adx,h];omega
def Tg{a:List aD}{b:List Tx}{g:Nat->aD->Option Tx}{i:Nat}{x:aD}{d:Tx}(c:a[i]?=ab x)(e:b[i]?=ab d):(DA a b g)[i]?=ab ((g i x).getD d):=by
 unfold DA
 grind
def sT(b:List aD)(a:List Tx)(g:Nat->aD->Option Tx)(i:Nat):List Tx:=(DA b a g).take i++a.drop i
def Wm{b:List aD}{a:List Tx}{g:Nat->aD->Option Tx}{i:Nat}{d:Tx}(h:a.length=b.length)(c:a[i]?=ab d):(sT b a g i)[i]?=ab d:=by
 have hi:=aF c;have e:((DA b a g).take i).length=i:=by rw[kC,uY h];omega
 unfold sT
 grind
def Rb{a:List aD}{b:List Tx}{g:Nat->aD->Option Tx}{i:Nat}(h:b.length=a.length)(c:i<=a.length):(sT a b g i).length=a.length:=by
 unfold sT;rw[jB,kC,uY h,pP];omega
def NQ{b:List aD}{a:List Tx}{g:Nat->aD->Option Tx}{i:Nat}{x:aD}{d:Tx}(h:a.length=b.length)(e:b[i]?=ab x)(c:a[i]?=ab d) :
  sT b a g (i+1)=(match g i x with|some v=>(sT b a g i).set i v|none=>sT b a g i):=by
 have hi:=aF c;have m:((DA b a g).take i).length=i:=by rw[kC,uY h];omega
 have f:(DA b a g).take (i+1)=(DA b a g).take i++[(g i x).getD d]:=by
  rw[Er,Tg e c];rfl
 have j:a.drop i=d::a.drop (i+1):=by
  rw[y8 hi]
  grind
 have k:sT b a g i=(DA b a g).take i++d::a.drop (i+1):=by unfold sT;rw[j]
 have l:sT b a g (i+1)=(DA b a g).take i++(g i x).getD d::a.drop (i+1):=by unfold sT;rw[f,uw];rfl
 rw[l,k];cases g i x with
 | none=>rfl
 | some v =>
   simp_all
def Rc{a:List aD}{b:List Tx}{g:Nat->aD->Option Tx}(h:b.length=a.length):sT a b g a.length=DA a b g:=by
 unfold sT;rw[Hi<|by rw[uY h];omega,JG ai,zQ]
def tu(l:List Int)(a:List Bool)(c:cf)(b:cG c=l)(d:Loop (yn (l,())) (((0:Int),()),[false,false,false,false],())=ab (((l.length:Int),()),a,())):lM (c,())=ab (a,()):=by
 unfold lM;rw[Is c,aa,b,d,aa]
def Wn(c:cf):cG c=[1,2,3]\/cG c=[2,3]\/cG c=[1,2]\/cG c=[1]\/cG c=[2]\/cG c=[3]\/cG c=[]:=by
 unfold cG Ps
 grind
def cS(c:cf)(k:Int):Bool:=decide (k∈cG c)
def NR(c:cf):lM (c,())=ab ([false,cS c 1,cS c 2,cS c 3],()):=by
 unfold cS;rcases Wn c with h|h|h|h|h|h|h<;>rw[h]
 .refine tu _ [false,true,true,true] c h ?_;obtain rfl:‹Lp›=Lp.lZ:=Lp.one _ _;kernel_rfl
 .refine tu _ [false,false,true,true] c h ?_;obtain rfl:‹Lp›=Lp.lZ:=Lp.one _ _;kernel_rfl
 .refine tu _ [false,true,true,false] c h ?_;obtain rfl:‹Lp›=Lp.lZ:=Lp.one _ _;kernel_rfl
 .refine tu _ [false,true,false,false] c h ?_;obtain rfl:‹Lp›=Lp.lZ:=Lp.one _ _;kernel_rfl
 .refine tu _ [false,false,true,false] c h ?_;obtain rfl:‹Lp›=Lp.lZ:=Lp.one _ _;kernel_rfl
 .refine tu _ [false,false,false,true] c h ?_;obtain rfl:‹Lp›=Lp.lZ:=Lp.one _ _;kernel_rfl
 .refine tu _ [false,false,false,false] c h ?_;obtain rfl:‹Lp›=Lp.lZ:=Lp.one _ _;kernel_rfl
def gW{a:Type}(b:Bool)(x y:a):a:=bif b then x else y
def vG(s:az)(a:List Tx)(i:Nat)(x:aD):Option Tx:=if i<s.2.2.2.1.length/\x.1∈a then s.2.2.2.1[i]? else ah
def gL(s:az)(c:cf):List Tx:=DA s.2.2.1 (List.replicate s.2.2.1.length []) (vG s<|sy s c)
def ch(s:az)(c:cf):az:=(gW (cS c 1) s.1 [],gW (cS c 2) s.2.1 [],gW (cS c 3) s.2.2.1 [],gW (cS c 3) (gL s c) [],gW (dX c) s.2.2.2.2.1 [],())
def acI(s:az)(c:cf)(a:List Tx)(w:s.2.2.1.length<=1000000)(u:a.length<=1000000)(b:List eP)(j:List bN)(k:List aD)(l:List fX) :
  Loop (mT (s,c,()) (a,())) (((0:Int),()),(b,j,k,(),l,()),List.replicate s.2.2.1.length [],()) =
   ab (((s.2.2.1.length:Int),()),(b,j,k,(),l,()),DA s.2.2.1 (List.replicate s.2.2.1.length [])<|vG s a,()):=by
 have m:(List.replicate s.2.2.1.length ([]:Tx)).length=s.2.2.1.length:=P1;have key:=dh (f:=mT (s,c,()) (a,())) (r:=(((s.2.2.1.length:Int),()),(b,j,k,(),l,()),DA s.2.2.1 (List.replicate s.2.2.1.length [])<|vG s a,())) s.2.2.1.length
  (λi:Nat=>(((i:Int),()),(b,j,k,(),l,()),sT s.2.2.1 (List.replicate s.2.2.1.length []) (vG s a) i,()))
  (λi n=>by
   have hx:s.2.2.1[i]?=ab s.2.2.1[i]:=ik n;have hd:(List.replicate s.2.2.1.length ([]:Tx))[i]?=ab []:=by rw[Zk,aX n]
   have t:=Wm (g:=vG s a) m hd;have d:=NQ (g:=vG s a) m hx hd;have hlen:=Rb (g:=vG s a) m (ZF n);have v:aH .i64 (i:Int) 1=((i+1:Nat):Int):=aL ai;unfold mT;dsimp only;rw[aq n,ae,au hx,aa,v];by_cases o:i<s.2.2.2.1.length
   .rw[aq o,ae,wZ _ _ ai,aa,aa];by_cases p:s.2.2.1[i].1∈a
    .have e:s.2.2.2.1[i]?=ab s.2.2.2.1[i]:=ik o;have h:vG s a i s.2.2.1[i]=ab s.2.2.2.1[i]:=by unfold vG;rw[aX ⟨o,p⟩,e]
     rw[h] at d;rw[dD p,ae,au e,aa,show within (i:Int) (len<|sT s.2.2.1 (List.replicate s.2.2.1.length []) (vG s a) i)=true from aM ai (by unfold len;rw[hlen];omega),ae,au t,aa,aa,aa,aa,d];rfl
    .have h:vG s a i s.2.2.1[i]=none:=by unfold vG;rw[aR λq=>p q.2]
     rw[h] at d;rw[cL p,af,aa,d];rfl
   .have h:vG s a i s.2.2.1[i]=none:=by unfold vG;rw[aR λq=>o q.1]
    rw[h] at d;rw[aJ fi,af,aa,af,aa,d];rfl)
  (by
   unfold mT;rw[aw,af,Rc m];rfl)
 have e0:sT s.2.2.1 (List.replicate s.2.2.1.length []) (vG s a) 0=List.replicate s.2.2.1.length []:=rfl
 grind
def aaD(l:List eP)(h:l.length<=1000000):dC (l,())=ab (l,()):=by
 unfold dC;rw[cN<|by show l.length<=_;omega];rfl
structure Y0 (s:az):Prop where
 hd:AB s
 dl:s.2.2.2.1.length<=1000000
 ml:s.2.2.2.2.1.length<=1000000
def Y1(s:az)(c:cf):(sy s c).length<=16:=by
 unfold sy AF;split
 .split
  .split
   .simp
   .rw[ux];exact pB.2
  .simp
 .simp
def uZ{a:Type}(b:Bool)(x y:a):ao b (ab x) (ab y)=ab (gW b x y):=by cases b<;>rfl
def Wo(s:az)(c:cf)(h:Y0 s):pF (s,c,())=ab (ch s c,()):=by
 have a:=h.hd.ll;have b:=aaD s.1 (by have:=h.hd.bl;omega);have ci:bZ (s.2.1,())=ab (s.2.1,()):=by
  unfold bZ;rw[cN (by have:=h.hd.il;show s.2.1.length<=_;omega)];rfl
 have d:b3 (s.2.2.1,())=ab (s.2.2.1,()):=by
  unfold b3;rw[cN<|by show s.2.2.1.length<=_;omega];rfl
 have e:b4 (s.2.2.2.2.1,())=ab (s.2.2.2.2.1,()):=by
  unfold b4;rw[cN (by have:=h.ml;show s.2.2.2.2.1.length<=_;omega)];rfl
 unfold pF;rw[NR,aa,Wl s c h.hd (λid=>by have:=(pB (ls:=s.2.2.1) (id:=id)).2;omega),aa];rw[show within (1:Int) 4=true from rfl,ae,show idx [false,cS c 1,cS c 2,cS c 3] (1:Int)=ab (cS c 1) from rfl,aa,b,aa,uZ,aa];rw[show within (2:Int) 4=true from rfl,ae,show idx [false,cS c 1,cS c 2,cS c 3] (2:Int)=ab (cS c 2) from rfl,aa,ci,aa,uZ,aa];rw[D2,aa,e,aa];rw[uZ,aa,show within (3:Int) 4=true from rfl,ae,show idx [false,cS c 1,cS c 2,cS c 3] (3:Int)=ab (cS c 3) from rfl,aa,d,aa];rw[show inside (0:Int) (len s.2.2.1) (len s.2.2.1)=true from aV ai fi ai,ae,show fits (len s.2.2.1)=true from cN ai,ae];rw[show(kj (len s.2.2.1) ([]:Tx))=List.replicate s.2.2.1.length [] from by unfold kj len;rw[qJ]];rw[acI s c (sy s c) ai (by have:=Y1 s c;omega),aa,uZ];unfold ch gL;cases cS c 1<;>cases cS c 2<;>cases cS c 3<;>cases dX c<;>rfl
end Go.Ge
namespace Go.Ge
variable [Lp]
set_option maxRecDepth 100000
def Y2(s:az)(i:Nat)(x:aD):Option Tx:=if(lN s x.1).2.2.1=true then ab (lN s x.1).2.1 else ah
def CB(s p:az):List Tx:=DA p.2.2.1 (vn p.2.2.1.length p.2.2.2.1) (Y2 s)
def Iu(s:az)(c:cf)(p:az):az:=(gW (cS c 1) p.1 s.1,gW (cS c 2) p.2.1 s.2.1,gW (cS c 3) p.2.2.1 s.2.2.1,gW (cS c 3) (CB s p) s.2.2.2.1,gW (dX c) p.2.2.2.2.1 s.2.2.2.2.1,())
def afE(n:Nat)(a:List Tx):over (kj (n:Int) ([]:Tx)) (0:Int) (iW a<|len<|kj (n:Int) ([]:Tx))=vn n a:=by
 unfold over kj iW len vn;rw[qJ,P1,qJ];simp only[Int.toNat_zero,ady,Bx,BJ,kC,List.drop_replicate]
 congr 2
 omega
def acJ(s p:az)(c:cf)(o:Y0 s)(v:p.2.2.1.length<=1000000)(b:List eP)(h:List bN)(j:List aD)(k:List fX) :
  Loop (mU (s,c,p,())) (((0:Int),()),(b,h,j,(),k,()),vn p.2.2.1.length p.2.2.2.1,()) =
   ab (((p.2.2.1.length:Int),()),(b,h,j,(),k,()),CB s p,()):=by
 have d:(vn p.2.2.1.length p.2.2.2.1).length=p.2.2.1.length:=xE _ _;have t:=o.hd.ll;have key:=dh (f:=mU (s,c,p,())) (r:=(((p.2.2.1.length:Int),()),(b,h,j,(),k,()),CB s p,())) p.2.2.1.length
  (λi:Nat=>(((i:Int),()),(b,h,j,(),k,()),sT p.2.2.1 (vn p.2.2.1.length p.2.2.2.1) (Y2 s) i,()))
  (λi l=>by
   have hx:p.2.2.1[i]?=ab p.2.2.1[i]:=ik l;have hd:(vn p.2.2.1.length p.2.2.2.1)[i]?=ab (vn p.2.2.1.length p.2.2.2.1)[i]:=ik (by rw[d];exact l);have m:=Wm (g:=Y2 s) d hd;have a:=NQ (g:=Y2 s) d hx hd;have hlen:=Rb (g:=Y2 s) d (ZF l);have u:aH .i64 (i:Int) 1=((i+1:Nat):Int):=aL ai;have e:=yo s p.2.2.1[i].1 ai (λx hx=>by have:=(o.hd.ln x hx).1;omega);unfold mU;dsimp only;rw[aq l,ae,au hx,aa,e,aa,u];cases q:(lN s p.2.2.1[i].1).2.2.1 with
   | true =>
     have n:Y2 s i p.2.2.1[i]=ab (lN s p.2.2.1[i].1).2.1:=by unfold Y2;rw[aX q]
     rw[n] at a;rw[ae,show within (i:Int) (len<|sT p.2.2.1 (vn p.2.2.1.length p.2.2.2.1) (Y2 s) i)=true from aM ai (by unfold len;rw[hlen];omega),ae,au m,aa,aa,aa,aa,a];unfold lP;rw[qJ];rfl
   | false =>
     have n:Y2 s i p.2.2.1[i]=none:=by unfold Y2;rw[aR<|by rw[q];simp]
     rw[n] at a;rw[af,aa,a];rfl)
  (by
   unfold mU;dsimp only;rw[aw,af,Rc d];rfl)
 exact key
def afF(s p:az)(c:cf)(h:Y0 s)(a:Y0 p):wq (s,c,p,())=ab (Iu s c p,()):=by
 have b:=a.hd.ll;have d:=aaD p.1 (by have:=a.hd.bl;omega);have ci:bZ (p.2.1,())=ab (p.2.1,()):=by
  unfold bZ;rw[cN (by have:=a.hd.il;show p.2.1.length<=_;omega)];rfl
 have e:b3 (p.2.2.1,())=ab (p.2.2.1,()):=by
  unfold b3;rw[cN<|by show p.2.2.1.length<=_;omega];rfl
 have f:b4 (p.2.2.2.2.1,())=ab (p.2.2.2.2.1,()):=by
  unfold b4;rw[cN (by have:=a.ml;show p.2.2.2.2.1.length<=_;omega)];rfl
 unfold wq;dsimp only;rw[NR,aa];dsimp only;rw[show within (1:Int) 4=true from rfl,ae,show idx [false,cS c 1,cS c 2,cS c 3] (1:Int)=ab (cS c 1) from rfl,aa,d,aa,uZ,aa];rw[show within (2:Int) 4=true from rfl,ae,show idx [false,cS c 1,cS c 2,cS c 3] (2:Int)=ab (cS c 2) from rfl,aa,ci,aa,uZ,aa];rw[D2,aa,f,aa];dsimp only;rw[uZ,aa,show within (3:Int) 4=true from rfl,ae,show idx [false,cS c 1,cS c 2,cS c 3] (3:Int)=ab (cS c 3) from rfl,aa,e,aa];rw[show inside (0:Int) (len p.2.2.1) (len p.2.2.1)=true from aV ai fi ai,ae,show fits (len p.2.2.1)=true from cN ai,ae];dsimp only;rw[show(len p.2.2.1)=((p.2.2.1.length:Nat):Int) from rfl,afE];rw[acJ s p c h ai,aa,uZ];unfold Iu;cases cS c 1<;>cases cS c 2<;>cases cS c 3<;>cases dX c<;>rfl
end Go.Ge
namespace Go.Ge
variable [Lp]
def Re{s:az}(h:AB s):Small (Bh s):=Db 1 _ h.ahF
def aaE{s:az}(h:AB s):(Bh s).length<=40:=iU (lT Sx _) h.bl
def Bj(s:az)(h:AB s):ky (s,())=ab (Bh s,()):=by
 unfold ky;rw[vT 1 _ h.ahF,aa];rfl
def NS(s:az)(a:Tx)(h:AB s):wm (s,a,())=ab (aW (Bh s) a):=by
 unfold wm;rw[Bj s h,aa,mJ _ _ (Re h) (by have:=aaE h;omega),aa]
def Pu(s:az)(x:eP)(p:s.1.length<=1000000)(v:x.2.1.length<=4294967296)(m:x.2.2.2.2.2.1.length<=4294967296)(c:∀y∈s.1,y.1≠x.1) :
  kf (s,x,())=ab ((nx (·.1) s.1 x,s.2),()):=by
 obtain⟨b,d⟩:=s;obtain⟨a,e,g,h,j,k,u⟩:=x;dsimp only at p v m c;unfold kf;dsimp only;rw[cN ai,ae];rcases wu (f:=jo ((b,d),(a,e,g,h,j,k,u),())) b (λy=>decide (y.1=a)) (λq=>(q,a,())) p (λi y n m=>by
  unfold jo;dsimp only;rw[aq m,ae,aM ai fi,ae,au n,aa,cZ,ew];by_cases q:y.1=a<;>simp[q]) (by unfold jo;dsimp only;rw[aw,af]) with ⟨i,y,n,z,_⟩|⟨_,r⟩
 .exact absurd (iq z) (c y<|eQ n)
 rw[r,aa];rw[b9,ae,rn _ v,aa,rp _ m,aa];have o:=tn (f:=ss ((b,d),(a,e,g,h,j,k,u),())) (·.1) b a p (λi=>(((0:Int),i,()),(a,e,g,h,j,k,u),())) (λi=>(1,((i:Int),(i:Int),()),(a,e,g,h,j,k,u),()))
  (0,((0:Int),(b.length:Int),()),(a,e,g,h,j,k,u),()) (λi y n=>by
   have m:=aF n;unfold ss;dsimp only;rw[aq m,ae,aM ai fi,ae,au n,aa,aL ai];cases ft y.1 a<;>rfl) (by unfold ss;dsimp only;rw[aw,af])
 rw[o,aa];have l:=tm (·.1) b ((a,e,g,h,j,k,u):eP) p;unfold bX;by_cases w:cK (λy:eP=>y.1) b a<b.length
 .rw[aX w];dsimp only;rw[show de 1 0=false from rfl,af,aJ ai,af];rw[show uJ b ((cK (λy:eP=>y.1) b a:Nat):Int) [((a,e,g,h,j,k,u):eP)]=_ from l,aa]
 .rw[aR w];have t:cK (λy:eP=>y.1) b a=b.length:=by have:=pC (λy:eP=>y.1) b a;omega
  rw[b9,ae];rw[bE,<-t,show uJ b ((cK (λy:eP=>y.1) b a:Nat):Int) [((a,e,g,h,j,k,u):eP)]=_ from l,aa]
def yU(s:az)(id:Tx)(h:AB s)(b:∀x∈s.1,BB x.2.2.2.2.2.1):∃r,rq (s,id,())=ab r/\(∀x∈s.1,vm (·.1) s.1->x.1=id->r=(x,true,())):=by
 have e:=h.bl;unfold rq;rcases wu (f:=sv (s,id,())) s.1 (λy=>decide (y.1=id)) (λq=>(q,id,())) ai (λi y a g=>by
  unfold sv;rw[aq g,ae,au a,aa,cZ,ew];by_cases q:y.1=id<;>simp[q]) (by unfold sv;dsimp only;rw[aw,af]) with ⟨i,y,a,j,c⟩|⟨n,c⟩
 .have d:=eQ a;rw[c,aa];dsimp only;rw[show de 1 0=false from rfl,af,aJ ai,af,au a,aa,rn _ (h.bn y d).small,aa,rp _ (by have:=(b y d).1;omega),aa];refine⟨(y,true,()),rfl,λx k l m=>?_⟩;rw[l.inj (λz:eP=>z.1) k d<|m.trans (iq j).symm]
 .rw[c,aa];rw[b9,ae]
  grind
def CC(s:az)(id:Tx):Tx:=((s.2.1.find?<|λx=>decide (x.1=id)).map λx:bN=>x.2.2.1).getD []
def acK{s:az}(c:vm (·.1) s.2.1){x:bN}(b:x∈s.2.1):CC s x.1=x.2.2.1:=by
 unfold CC;cases a:s.2.1.find? (λy=>decide (y.1=x.1)) with
 | none=>have:=TQ.1 a x b;simp at this
 | some y =>
   have d:=aaQ a;have e:y.1=x.1:=by simpa using P8 a
   rw[c.inj (λz:bN=>z.1) d b e];rfl
def DB(s:az)(a:Tx):Tx:=if a=[] then [] else(aW (xK s) a).1
def Pv(d:Int):Int:=jR i64 d 16777215
def D3(d:Int):Int:=jR i64 (mz i64 d 24) 16777215
def crB(s:az)(a:Tx)(b:List Tx)(c:Tx)(d:Int):az×tp×al :=
 if jd b≠0\/64<c.length then(s,iS 1,()) else
 if a≠[]/\(aW (xK s) a).2.1≠0 then(s,iS (aW (xK s) a).2.1,()) else
 if mH (Bh s) [] b≠0 then(s,iS<|mH (Bh s) [] b,()) else
 if(cD (Bh s)<|Pv d).2.1≠0 then(s,iS (cD (Bh s)<|Pv d).2.1,()) else
 if(WX s (if a=[] then [] else CC s (DB s a)) []<|D3 d).2.1.1≠0 then(s,iS (WX s (if a=[] then [] else CC s (DB s a)) []<|D3 d).2.1.1,()) else
 ((nx (·.1) s.1 ((cD (Bh s)<|Pv d).1,b,DB s a,(WX s (if a=[] then [] else CC s (DB s a)) []<|D3 d).2.1.2.1,c,[],()),(WX s (if a=[] then [] else CC s (DB s a)) []<|D3 d).1.2),
  (0,(cD (Bh s)<|Pv d).1,0,(WX s (if a=[] then [] else CC s (DB s a)) []<|D3 d).2.1.2.1,()),())
def acL(s:az)(b:Tx)(a:List Tx)(d:Int):(WX s b a d).1.1=s.1:=by
 unfold WX;split
 .rfl
 split
 .rfl
 split
 .rfl
 split
 .rfl
 split
 .rfl
 rfl
def ahQ{s:az}{x:eP}(a:x∈s.1):((x.1,x.2.1,()):Nm)∈Bh s:=by
 unfold Bh;rw[Lh];exact⟨x,a,by unfold ofB;exact zO.2 rfl⟩
def K8{s:az}{y:Nm}(h:y∈Bh s):∃x∈s.1,y=(x.1,x.2.1,()):=by
 unfold Bh at h;rw[Lh] at h;obtain⟨x,b,a⟩:=h;unfold ofB at a
 grind
def Iv(s:az)(a:Tx)(b:List Tx)(c:Tx)(d:Int)(h:AB s)(i:vm (·.1) s.2.1)(o:b.length<=4294967296) :
  lL (s,a,b,c,d,())=ab (crB s a b c d):=by
 have A:=h.bl;unfold lL crB;have p:ba (64:Int) (@len UInt8 c)=decide (64<c.length):=by unfold ba len;apply gX.2;omega
 rw[rh b o,aa,p];by_cases c1:jd b=0
 rotate_left
 .rw[aX<|.inl c1,ax c1];rfl
 by_cases c2:64<c.length
 .rw[aX<|.inr c2,aE c1,dD c2];rfl
 rw[aR<|by rintro(q|q);exact q c1;exact c2 q,aE c1,cL c2,aG,aA,ae,af,cZ];have t:(ao (nt<|decide<|a=[]) (ag (iH (s,a,())) λj=>ab ((j.2.1,()),(([]:Tx),b,j.1,([]:Tx),c,([]:List Item),()),()))<|some (((0:Int),()),(([]:Tx),b,([]:Tx),([]:Tx),c,([]:List Item),()),())) =
   ab (((if a=[] then 0 else(aW (xK s) a).2.1),()),(([]:Tx),b,DB s a,([]:Tx),c,([]:List Item),()),()):=by
  unfold DB;by_cases q:a=[]
  .rw[dD q,aG,af,aX q,aX q]
  .rw[cL q,aA,ae,Bi s a h,aa,aR q,aR q]
 rw[show(ao (nt<|decide<|a=[]) (ag (iH (s,a,())) λj=>ab ((j.2.1,()),(([]:ay),b,j.1,([]:ay),c,([]:List (ay×ay×ay×al)),()),()))<|some (((0:Int),()),(([]:ay),b,([]:ay),([]:ay),c,([]:List (ay×ay×ay×al)),()),()))=_ from t,aa];have f:(a≠[]/\(aW (xK s) a).2.1≠0)↔¬((if a=[] then 0 else(aW (xK s) a).2.1)=0):=by
  by_cases q:a=[]
  .simp[q]
  .simp[q]
 have k:(a≠[]/\(aW (xK s) a).2.1≠0)->(if a=[] then 0 else(aW (xK s) a).2.1)=(aW (xK s) a).2.1:=λq=>aR q.1;by_cases c3:(if a=[] then 0 else(aW (xK s) a).2.1)=0
 rotate_left
 .rw[aX<|f.2 c3,ax c3];simp only[aA,ae,af,aa,ax c3];rw[k<|f.2 c3];rfl
 rw[aR<|λq=>f.1 q c3,aE c3];simp only[ae];rw[Bj s h,aa,oh (Bh s) [] b (Re h) o,aa,aa];by_cases c4:mH (Bh s) [] b=0
 rotate_left
 .rw[aX<|show mH (Bh s) [] b≠0 from c4,ax c4];simp only[aA,ae,af,aa,ax c4];rfl
 rw[aR<|show ¬(mH (Bh s) [] b≠0) from λq=>q c4,aE c4];simp only[ae,aa];rw[show jR i64 d 16777215=Pv d from rfl,Df,aa,aa];by_cases c5:(cD (Bh s)<|Pv d).2.1=0
 rotate_left
 .rw[aX<|show(cD (Bh s)<|Pv d).2.1≠0 from c5,ax c5];simp only[aA,ae,af,aa,ax c5];rfl
 rw[aR<|show ¬((cD (Bh s)<|Pv d).2.1≠0) from λq=>q c5,aE c5];simp only[aG,af];obtain⟨g,u,v⟩:=xB s (DB s a) h;rw[u,aa];have l:((((((ao (decide<|a=[]) (((),(([]:Tx),([]:List Tx),([]:Tx),([]:Tx),([]:List Item),()),()):al×bN×al) ((),g.1,())).2).1).2).2).1)=(if a=[] then [] else CC s (DB s a)):=by
  by_cases q:a=[]
  .rw[dD q,ae,aX q]
  .rw[cL q,af,aR q];rw[aR q] at c3;obtain⟨y,m,n⟩:=zF c3;obtain⟨x,z,rfl⟩:=K7 m;have n:x.1=DB s a:=by unfold DB;rw[aR q];exact n
   rw[v x z i n,<-n,acK i z]
 rw[show((((((ao (decide<|a=[]) (((),(([]:ay),([]:List ay),([]:ay),([]:ay),([]:List (ay×ay×ay×al)),()),()):al×bN×al) ((),g.1,())).2).1).2).2).1)=_ from l];rw[show jR i64 (mz i64 d 24) 16777215=D3 d from rfl,vo s _ [] (D3 d) h bb,aa];have e:=acL s (if a=[] then [] else CC s (DB s a)) [] (D3 d);generalize WX s (if a=[] then [] else CC s (DB s a)) [] (D3 d)=r at e;by_cases c6:r.2.1.1=0
 rotate_left
 .rw[aX c6,ax c6,aA,ae];rfl
 rw[aR<|λq=>q c6,aE c6,aG,af];obtain⟨_,_,w⟩:=GC c5;rw[Pu r.1 _ (by rw[e];omega) o bb<|λy m=>by rw[e] at m;exact w _ (ahQ m),aa,e]
def D4(s:az)(x:eP)(t:s.1.length<=1000000)(v:x.2.1.length<=4294967296)(m:x.2.2.2.2.2.1.length<=4294967296)(w:vm (·.1) s.1)(c:∃y∈s.1,y.1=x.1) :
  kf (s,x,())=ab ((nx (·.1) (u7 (·.1) s.1 x.1) x,s.2),()):=by
 obtain⟨b,n⟩:=s;obtain⟨a,g,h,j,k,l,u⟩:=x;dsimp only at t v m c w;unfold kf;dsimp only;rw[cN ai,ae];rcases wu (f:=jo ((b,n),(a,g,h,j,k,l,u),())) b (λy=>decide (y.1=a)) (λq=>(q,a,())) t (λi y d m=>by
  unfold jo;dsimp only;rw[aq m,ae,aM ai fi,ae,au d,aa,cZ,ew];by_cases q:y.1=a<;>simp[q]) (by unfold jo;dsimp only;rw[aw,af]) with ⟨i,y,d,B,C⟩|⟨p,_⟩
 rotate_left
 .obtain⟨y,d,D⟩:=c;have:=p y d;simp[D] at this
 rw[C,aa];dsimp only;rw[show de 1 0=false from rfl,af,bO ai,ae];unfold cH;dsimp only;rw[K6 (λz:eP=>z.1) b a w i y d (iq B) ai,aa,aa,rn _ v,aa,rp _ m,aa];dsimp only;have E:=(K2 (λz:eP=>z.1) b a).length_le;have o:=tn (f:=su (((),()),u7 (λz:eP=>z.1) b a,())) (·.1) (u7 (λz:eP=>z.1) b a) a ai (λi=>(((0:Int),i,()),(a,g,h,j,k,l,u),())) (λi=>(1,((i:Int),(i:Int),()),(a,g,h,j,k,l,u),()))
  (0,((0:Int),((u7 (λz:eP=>z.1) b a).length:Int),()),(a,g,h,j,k,l,u),()) (λi y d=>by
   have m:=aF d;unfold su;dsimp only;rw[aq m,ae,aM ai fi,ae,au d,aa,aL ai];cases ft y.1 a<;>rfl) (by unfold su;dsimp only;rw[aw,af])
 rw[o,aa];have e:=tm (·.1) (u7 (λz:eP=>z.1) b a) ((a,g,h,j,k,l,u):eP) ai;unfold bX;by_cases A:cK (λy:eP=>y.1) (u7 (λz:eP=>z.1) b a) a<(u7 (λz:eP=>z.1) b a).length
 .rw[aX A];dsimp only;rw[show de 1 0=false from rfl,af,aJ ai,af];dsimp only;rw[show uJ (u7 (λz:eP=>z.1) b a) ((cK (λy:eP=>y.1) (u7 (λz:eP=>z.1) b a) a:Nat):Int) [((a,g,h,j,k,l,u):eP)]=_ from e,aa]
 .rw[aR A];dsimp only;have r:cK (λy:eP=>y.1) (u7 (λz:eP=>z.1) b a) a=(u7 (λz:eP=>z.1) b a).length:=by have:=pC (λy:eP=>y.1) (u7 (λz:eP=>z.1) b a) a;omega
  rw[b9,ae];rw[bE,<-r,show uJ (u7 (λz:eP=>z.1) b a) ((cK (λy:eP=>y.1) (u7 (λz:eP=>z.1) b a) a:Nat):Int) [((a,g,h,j,k,l,u):eP)]=_ from e,aa]
def CD(s:az)(x:bN)(D:s.2.1.length<=1000000)(w:x.2.1.length<=4294967296)(d:x.2.2.2.2.1.length<=4294967296)(A:vm (·.1) s.2.1)(e:∃y∈s.2.1,y.1=x.1) :
  ix (s,x,())=ab ((s.1,(nx (·.1) (u7 (·.1) s.2.1 x.1) x,s.2.2)),()):=by
 obtain⟨B,b,g⟩:=s;obtain⟨a,j,k,l,m,u⟩:=x;dsimp only at D w d e A;unfold ix;dsimp only;rw[rn _ w,aa,rp _ d,aa];unfold ef;dsimp only;rw[aa,cN ai,ae];have o:∃(i:Nat) (y:bN),b[i]?=ab y/\y.1=a/\Loop (fe ((B,b,g),(a,j,k,l,m,u),())) (((0:Int),(0:Int),()),(),a,())=ab (1,((i:Int),(i:Int),()),(),a,()):=by
  rcases iK (f:=fe ((B,b,g),(a,j,k,l,m,u),())) b (λi=>(((0:Int),i,()),(),a,())) (λ_ y=>decide (y.1=a)) (λi _=>(1,((i:Int),(i:Int),()),(),a,())) (0,((0:Int),len b,()),(),a,()) ai (λi y c d E=>by
   unfold fe ef;dsimp only;rw[aq d,ae,au c,aa,aa,cZ,ew,E];by_cases q:y.1=a<;>simp[q]) (by unfold fe;dsimp only;rw[aw,af];rfl) with ⟨i,y,c,F,_,h⟩|⟨r,_⟩
  .exact⟨i,y,c,iq F,h⟩
  .obtain⟨y,c,t⟩:=e;obtain⟨i,d⟩:=bz.1 c;have:=r i y d;simp[t] at this
 obtain⟨i,y,c,t,G⟩:=o;rw[G,aa];dsimp only;rw[show de 1 0=false from rfl,af,bO ai,ae];unfold bk;dsimp only;rw[K6 (λz:bN=>z.1) b a A i y c t ai,aa,aa];dsimp only;have H:=(K2 (λz:bN=>z.1) b a).length_le;have p:=tn (f:=qu (((),()),u7 (λz:bN=>z.1) b a,())) (·.1) (u7 (λz:bN=>z.1) b a) a ai (λi=>(((0:Int),i,()),(),(a,j,k,l,m,u),())) (λi=>(1,((i:Int),(i:Int),()),(),(a,j,k,l,m,u),()))
  (0,((0:Int),((u7 (λz:bN=>z.1) b a).length:Int),()),(),(a,j,k,l,m,u),()) (λi y c=>by
   have d:=aF c;unfold qu ef;dsimp only;rw[aq d,ae,aM ai fi,ae,au c,aa,aa,aa,aL ai];cases ft y.1 a<;>rfl) (by unfold qu;dsimp only;rw[aw,af])
 rw[p,aa];have n:=tm (·.1) (u7 (λz:bN=>z.1) b a) ((a,j,k,l,m,u):bN) ai;unfold bG;by_cases C:cK (λy:bN=>y.1) (u7 (λz:bN=>z.1) b a) a<(u7 (λz:bN=>z.1) b a).length
 .rw[aX C];dsimp only;rw[show de 1 0=false from rfl,af,aJ ai,af];dsimp only;rw[show uJ (u7 (λz:bN=>z.1) b a) ((cK (λy:bN=>y.1) (u7 (λz:bN=>z.1) b a) a:Nat):Int) [((a,j,k,l,m,u):bN)]=_ from n,aa]
 .rw[aR C];dsimp only;have v:cK (λy:bN=>y.1) (u7 (λz:bN=>z.1) b a) a=(u7 (λz:bN=>z.1) b a).length:=by have:=pC (λy:bN=>y.1) (u7 (λz:bN=>z.1) b a) a;omega
  rw[b9,ae,aO aK,ae];dsimp only;rw[bE,<-v,show uJ (u7 (λz:bN=>z.1) b a) ((cK (λy:bN=>y.1) (u7 (λz:bN=>z.1) b a) a:Nat):Int) [((a,j,k,l,m,u):bN)]=_ from n,aa]
instance (s:Tx):Decidable (sr s):=by unfold sr;infer_instance
def Y3(s:Tx):hH (s,())=ab ((if sr s then 0 else 10),()):=by
 obtain⟨a,b⟩:=K0 s;rw[acq a b];rfl
def Fk(s:az)(p:Tx):List Nd×Int:=if p=[] then([],0) else eg s.2.2.1 s.2.2.2.1 p
def Rf{s:az}{p:Tx}(h:(Fk s p).2=0):Valid (Fk s p).1:=by
 unfold Fk at h⊢;by_cases q:p=[]
 .rw[aX q];exact Iq
 .rw[aR q] at h⊢;exact NM h
def acM(d:Tx):Tx:=if d=[] then kF 1024 else d
def afG(id a:Tx)(b:List Tx)(d:Tx):aD:=(id,a,b,ku<|acM d,((acM d).length:Int),0,true,())
def crS(s:az)(b:Tx)(a:List Tx)(c:Tx)(d:Int):az×tp×al :=
 if jd a≠0 then(s,iS<|jd a,()) else
 if c≠[]/\¬sr c then(s,iS 10,()) else
 if b≠[]/\(aW (eN s) b).2.1≠0 then(s,iS (aW (eN s) b).2.1,()) else
 if mH (eN s) [] a≠0 then(s,iS<|mH (eN s) [] a,()) else
 if(cD (eN s) d).2.1≠0 then(s,iS (cD (eN s) d).2.1,()) else
 if dd s b≠[]/\(bj s.2.2.1<|dd s b).2=0/\16<=(bj s.2.2.1<|dd s b).1.length then(s,iS 5,()) else
 if c≠[]/\(Fk s<|dd s b).2≠0 then(s,iS (Fk s<|dd s b).2,()) else
 if c≠[]/\(jE (Fk s<|dd s b).1 c).2≠0 then(s,iS (jE (Fk s<|dd s b).1 c).2,()) else
 (NN s (afG (cD (eN s) d).1 (dd s b) a c)<|acM c,xA (cD (eN s) d).1,())
def Kk(s:az)(a:Tx)(b:List Tx)(c:Tx)(d:Int)(h:AB s)(B:b.length<=4294967296)(u:c.length<=100000)
  (C:∀p,mq (s,p,())=ab ((eg s.2.2.1 s.2.2.2.1 p).1,(eg s.2.2.1 s.2.2.2.1 p).2,())) :
  hL (s,a,b,c,d,())=ab (crS s a b c d):=by
 have E:=h.ll;have m:aS (0:Int) 0=true:=rfl;have es:bH ([]:ay) ([]:ay)=true:=rfl;unfold hL;rw[rh b B,aa];unfold crS;by_cases c1:jd b=0
 rotate_left
 .rw[aX c1,ax c1];simp only[aA,ae,aa,ax c1];rfl
 rw[aR<|λq=>q c1,aE c1];rw[cZ c []];have v:(ao (decide<|c=[]) (ab (((0:Int),()),c,()))<|ag (hH (c,())) λw=>ab ((w.1,()),c,()))=ab (((if c≠[]/\¬sr c then 10 else 0),()),c,()):=by
  by_cases q:c=[]
  .rw[dD q,ae,aR λk=>k.1 q]
  .rw[cL q,af,Y3,aa]
   grind
 rw[show(ao (decide<|c=[]) (ab (((0:Int),()),c,()))<|ag (hH (c,())) λw=>ab ((w.1,()),c,()))=_ from v,aa];by_cases n:c≠[]/\¬sr c
 .rw[aX n,aX n];rw[show aS (10:Int) 0=false from rfl];simp only[aA,ae,aa,show aS (10:Int) 0=false from rfl];rfl
 rw[aR n,aR n];simp only[aG,af,m,cZ a];have y:(ao (nt<|decide<|a=[]) (ag (dF (s,a,())) λg=>ab ((g.2.1,()),g.1,()))<|some (((0:Int),()),([]:Tx),())) =
   ab (((if a=[] then 0 else(aW (eN s) a).2.1),()),dd s a,()):=by
  unfold dd;by_cases q:a=[]
  .rw[dD q,aG,af,aX q,aX q]
  .rw[cL q,aA,ae,fW s a h,aa,aR q,aR q]
 rw[show(ao (nt<|decide<|a=[]) (ag (dF (s,a,())) λg=>ab ((g.2.1,()),g.1,()))<|some (((0:Int),()),([]:ay),()))=_ from y,aa];have i:(a≠[]/\(aW (eN s) a).2.1≠0)↔¬((if a=[] then 0 else(aW (eN s) a).2.1)=0):=by
  by_cases q:a=[]
  .simp[q]
  .simp[q]
 have l:(a≠[]/\(aW (eN s) a).2.1≠0)->(if a=[] then 0 else(aW (eN s) a).2.1)=(aW (eN s) a).2.1:=λq=>aR q.1;by_cases c2:(if a=[] then 0 else(aW (eN s) a).2.1)=0
 rotate_left
 .rw[aX<|i.2 c2,ax c2];simp only[aA,ae,aa,ax c2];rw[l<|i.2 c2];rfl
 rw[aR<|λq=>i.1 q c2,aE c2];simp only[aG,af];rw[tq s h,aa,oh (eN s) [] b (Ip h) B,aa];by_cases c3:mH (eN s) [] b=0
 rotate_left
 .rw[aX<|show mH (eN s) [] b≠0 from c3,ax c3];simp only[aA,ae,aa,ax c3];rfl
 rw[aR<|show ¬(mH (eN s) [] b≠0) from λq=>q c3,aE c3];simp only[aG,af,aa];rw[Df,aa];by_cases c4:(cD (eN s) d).2.1=0
 rotate_left
 .rw[aX<|show(cD (eN s) d).2.1≠0 from c4,ax c4];simp only[aA,ae,aa,ax c4];rfl
 rw[aR<|show ¬((cD (eN s) d).2.1≠0) from λq=>q c4,aE c4];rw[E9 _ _ ai<|λx F=>(h.ln x F).small,aa];rw[cZ (dd s a) []];have G:(ao (ao (ao (nt<|decide<|dd s a=[]) (aS (bj s.2.2.1<|dd s a).2 0) false) (cu 16<|len (bj s.2.2.1<|dd s a).1) false) (ab (((5:Int),()),dd s a,s,()))<|some (((0:Int),()),dd s a,s,())) =
   ab (((if dd s a≠[]/\(bj s.2.2.1<|dd s a).2=0/\16<=(bj s.2.2.1<|dd s a).1.length then 5 else 0),()),dd s a,s,()):=by
  have z:cu (16:Int) (len (bj s.2.2.1<|dd s a).1)=decide (16<=(bj s.2.2.1<|dd s a).1.length):=by unfold cu len;apply gX.2;omega
  rw[z,GI];by_cases o:dd s a=[]
  .rw[dD o,aG,af,af,af,aR λq=>q.1 o]
  .rw[cL o,aA,ae];by_cases r:(bj s.2.2.1<|dd s a).2=0
   .rw[dD r,ae];by_cases t:16<=(bj s.2.2.1<|dd s a).1.length
    .rw[dD t,ae,aX ⟨o,r,t⟩]
    .rw[cL t,af,aR λq=>t q.2.2]
   .rw[cL r,af,af,aR λq=>r q.2.1]
 rw[show(ao (ao (ao (nt<|decide<|dd s a=[]) (aS (bj s.2.2.1<|dd s a).2 0) false) (cu 16<|len (bj s.2.2.1<|dd s a).1) false) (ab (((5:Int),()),dd s a,s,()))<|some (((0:Int),()),dd s a,s,()))=_ from G,aa];by_cases c5:dd s a≠[]/\(bj s.2.2.1<|dd s a).2=0/\16<=(bj s.2.2.1<|dd s a).1.length
 .rw[aX c5,aX c5];rfl
 rw[aR c5,aR c5];simp only[m,aG,af];have A:jl (s,dd s a,())=ab ((Fk s<|dd s a).1,(Fk s<|dd s a).2,()):=by
  unfold jl Fk;by_cases q:dd s a=[]
  .rw[di q,ae,aX q]
  .rw[bw q,af,aR q,C,aa]
 have fin:∀D:Tx,D.length<=100000->∀(f:(az×al)->Option (az×tp×al)),
   ag (n9 (D,())) (λg=>ag (pw (s,((cD (eN s) d).1,dd s a,@app Tx [] b,g.1,@len UInt8 D,(0:Int),true,()),D,())) f) =
    f (NN s ((cD (eN s) d).1,dd s a,b,ku D,(D.length:Int),(0:Int),true,()) D,()):=by
  intro D H f;refine ob (Yk D ai) ?_;refine ob (Wf s ((cD (eN s) d).1,dd s a,b,ku D,(D.length:Int),(0:Int),true,()) D ai) rfl
 have e:fits (plus (@len Tx [])<|@len Tx b)=true:=bo (by simp only[nQ];omega);by_cases j:c=[]
 .subst j;rw[es,ae,aa];simp only[m,aG,af,aa];rw[es,ae,Wg,aa,aa];rw[e,ae,fin (kF 1024) (by rw[tj];decide)];rfl
 rw[bw j,af,A,aa];by_cases c6:(Fk s<|dd s a).2=0
 rotate_left
 .rw[aX ⟨j,c6⟩,ax c6,af,aa,aa];simp only[ax c6,aA,ae,aa];rfl
 rw[aR<|λq=>q.2 c6,aE c6,ae,QZ (Rf c6),aa,aa,aa];by_cases c7:(jE (Fk s<|dd s a).1 c).2=0
 rotate_left
 .rw[aX ⟨j,c7⟩];simp only[ax c7,aA,ae,aa];rfl
 rw[aR λq=>q.2 c7];simp only[aE c7,m,aG,af,aa];rw[bw j,af,aa];rw[e,ae,fin c u];unfold afG acM;rw[aR j];rfl
structure apL (s:az) (on:Tx) (given:List Tx) (df:Tx) (r:az×tp×al):Prop where
 id:H6 r.2.1.2.1
 new:∀y∈s.2.2.1,y.1≠r.2.1.2.1
 nms:∀y∈s.2.2.1,∀n∈y.2.2.1,n∉given
 par:dd s on=[]\/∃y∈s.2.2.1,y.1=dd s on
 find:on≠[]->(aW (eN s) on).2.1=0
 app:df≠[]->(jE (Fk s<|dd s on).1 df).2=0
 val:r=(aaB s (afG r.2.1.2.1 (dd s on) given df)<|acM df,xA r.2.1.2.1,())
 okl:OkL (afG r.2.1.2.1 (dd s on) given df)
def ahR{s:az}(a:NC s){y:aD}(b:y∈s.2.2.1):((y.1,y.2.2.1,()):Nm)∈eN s:=by
 obtain⟨e,i,c,d⟩:=GU a.lays.same b;have hd:=(a.lays.each i y e c d).1;unfold eN;rw[Lh];refine⟨y,b,?_⟩;unfold ofL;simp[hd]
def Y4(s:az)(id:Tx):az:=match E5 s.2.2.1 id with
 | none=>Wj (s.1,s.2.1,s.2.2.1,vn s.2.2.1.length s.2.2.2.1,s.2.2.2.2) id 0
 | some i=>Wj (s.1,s.2.1,cutAt s.2.2.1 i,cutAt (vn s.2.2.1.length s.2.2.2.1) i,s.2.2.2.2) id 0
def D5(s:az)(id:Tx)(d:s.2.2.1.length<=100000)(a:s.2.2.2.2.1.length<=50000):jO (s,id,())=ab (Y4 s id,()):=by
 unfold jO Y4;dsimp only;rw[ixL (f:=xk (s,id,())) s.2.2.1 id ai<|λc i=>rfl,aa,Ir s ai,aa];unfold BC;cases h:E5 s.2.2.1 id with
 | none =>
   dsimp only;unfold iB ga;dsimp only;rw[aO ai,ae,aa,ae,aa];exact ob (CA (s.1,s.2.1,s.2.2.1,vn s.2.2.1.length s.2.2.2.1,s.2.2.2.2) id 0 a) rfl
 | some i =>
   obtain⟨x,b,_⟩:=yS h;have hi:=aF b;have e:=xE s.2.2.1.length s.2.2.2.1;dsimp only;unfold iB ga eY dI;dsimp only;rw[aJ ai,af,af,show @len ay=@len Tx from rfl,cN ai,ae,aaC _ i ai ai,aa,aa,cN ai,ae,aaC _ i ai ai,aa,aa];exact ob (CA (s.1,s.2.1,cutAt s.2.2.1 i,cutAt (vn s.2.2.1.length s.2.2.2.1) i,s.2.2.2.2) id 0 a) rfl
def tw(s:az)(id:Tx):Int:=match(dB (s,id,())) with|some (n,_)=>n|none=>0
def Wp(s:az)(id:Tx)(b:s.2.2.2.2.1.length<=1000000):dB (s,id,())=ab (tw s id,())/\((∃x∈s.2.2.2.2.1,x.1=id/\x.2.1=tw s id)\/(tw s id=0/\∀x∈s.2.2.2.2.1,x.1≠id)):=by
 obtain⟨n,a,c⟩:=YX s id b;have e:tw s id=n:=by unfold tw;rw[a]
 rw[e];exact⟨a,c⟩
def dlS(s:az)(a:Tx):az×tp×al :=
 if(aW (eN s) a).2.1≠0 then(s,iS (aW (eN s) a).2.1,()) else
 if Ra s (aW (eN s) a).1=true\/0<tw s (aW (eN s) a).1 then(s,iS 7,()) else
 (Y4 s (aW (eN s) a).1,xA (aW (eN s) a).1,())
def GW(s:az)(a:Tx)(h:AB s)(b:s.2.2.2.2.1.length<=50000):qG (s,a,())=ab (dlS s a):=by
 have d:=h.ll;have e:=h.il;have f:=h.bl;unfold qG dlS;refine ob (fW s a h) ?_;dsimp only;by_cases c:(aW (eN s) a).2.1=0
 rotate_left
 .rw[ax c,aA,ae,aX c];rfl
 rw[aE c,aG,af,aR λq=>q c];refine ob (Wi s _ ai ai ai) ?_;obtain⟨g,_⟩:=Wp s (aW (eN s) a).1 ai;dsimp only;cases i:Ra s (aW (eN s) a).1 with
 | true =>
   rw[aG,af,aa,ae,aX (.inl rfl)];rfl
 | false =>
   rw[aA,ae];refine ob (ob g rfl) ?_;by_cases q:0<tw s (aW (eN s) a).1
   .rw[aO q,ae,aX (.inr q)];rfl
   .rw[aJ ai,af,aR (by rintro(k|k);cases k;exact q k)];exact ob (D5 s _ ai b) rfl
def Y5(s:az)(id:Tx):Bg (s,id,())=lJ (s.2.2.1,id,()):=rfl
def aaF{a:Type}(A B:List a)(x y:a):(A++x::B).set A.length y=A++y::B:=by
 rw[List.set_append];simp
def afH:∀(k:Nat) (A M B:List aD),M.length<=k->A.length+M.length+B.length<=1000000 ->
  ∃q,Loop ff (((A.length:Int),(A.length:Int)+(M.length:Int)-1,(),()),A++M++B,())=ab (q,A++M.reverse++B,()):=by
 intro k;induction k with
 | zero =>
   intro A M B e f;obtain rfl:M=[]:=zN.1 ai;apply Exists.intro;rw[aT,show ff (((A.length:Int),(A.length:Int)+(([]:List aD).length:Int)-1,(),()),A++[]++B,())=ab (.inr (((A.length:Int),(A.length:Int)+(([]:List aD).length:Int)-1,(),()),A++[]++B,())) from by
    unfold ff;dsimp only;rw[aJ<|by simp only[nQ];omega,af];rfl]
   rfl
 | succ k g =>
   intro A M B e f;by_cases c:M.length<=1
   .have h:M.reverse=M:=by
     match M,c with
     | [],_=>rfl
     | [a],_=>rfl
    rw[h];apply Exists.intro;rw[aT,show ff (((A.length:Int),(A.length:Int)+(M.length:Int)-1,(),()),A++M++B,())=ab (.inr (((A.length:Int),(A.length:Int)+(M.length:Int)-1,(),()),A++M++B,())) from by
     unfold ff;dsimp only;rw[aJ ai,af];rfl]
    rfl
   .obtain⟨x,N,y,rfl⟩:∃x N y,M=x::(N++[y]):=by
     cases M with
     | nil=>simp at c
     | cons x t =>
       have i:t≠[]:=by rintro rfl;simp at c
       exact⟨x,t.dropLast,t.getLast i,by rw[ah8]⟩
    have j:(A.length:Int)+((x::(N++[y])).length:Int)-1=((A.length+N.length+1:Nat):Int):=jA;have hlen:(x::(N++[y])).length=N.length+2:=bb;rw[hlen] at f e;rw[j];obtain⟨q,l⟩:=g (A++[y]) N (x::B) ai jA;refine⟨q,?_⟩;have m:A++x::(N++[y])++B=A++x::(N++y::B):=bb;have n:(A++x::(N++y::B)).length=A.length+N.length+B.length+2:=jA;have o:(A++x::(N++y::B))[A.length]?=ab x:=bb;have p:(A++x::(N++y::B))[A.length+N.length+1]?=ab y:=by
     rw[aaP ai,show A.length+N.length+1-A.length=N.length+1 by omega,ade];simp
    have s1:(A++x::(N++y::B)).set A.length y=A++y::(N++y::B):=aaF A _ x y;have d:A++y::(N++y::B)=(A++y::N)++y::B:=bb;have r:(A++y::(N++y::B))[A.length+N.length+1]?=ab y:=by
     rw[aaP ai,show A.length+N.length+1-A.length=N.length+1 by omega,ade];simp
    have s2:(A++y::(N++y::B)).set (A.length+N.length+1) x=(A++[y])++N++(x::B):=by
     rw[d,show A.length+N.length+1=(A++y::N).length by simp;omega,aaF];simp
    have b:ff (((A.length:Int),((A.length+N.length+1:Nat):Int),(),()),(A++x::(N++y::B),())) =
      ab (.inl ((((A++[y]).length:Int),((A++[y]).length:Int)+(N.length:Int)-1,(),()),(A++[y])++N++(x::B),())):=by
     unfold ff;dsimp only;rw[aO ai,ae,aM ai fi,ae,au p,aa,aM ai fi,ae,au o,aa,ae,aa,aa,aa,
      uK,s1,aM ai (by unfold len;simp;omega),ae,au r,aa,aa,aa,uK,s2,aL ai,dL ai ai]
     rw[show((A.length+N.length+1:Nat):Int)-1=((A++[y]).length:Int)+(N.length:Int)-1 by simp;omega,show((A.length+1:Nat):Int)=((A++[y]).length:Int) by simp];rfl
    rw[m,aT,b];show Loop _ _=_
    rw[l];simp
def Y6(s:az)(id:Tx)(e:s.2.2.1.length<=100000)(d:∀x∈s.2.2.1,x.2.2.1.length<=4294967296):mq (s,id,())=ab ((eg s.2.2.1 s.2.2.2.1 id).1,(eg s.2.2.1 s.2.2.2.1 id).2,()):=by
 unfold mq eg;obtain⟨p,r,t,h⟩:=Ju s.2.2.1 id ai d 16 id [] rfl;rw[<-Y5] at h;refine ob h ?_;unfold bj;by_cases c:(BD s.2.2.1 16 id []).2=0
 rotate_left
 .rw[aR c,aR c];dsimp only;rw[show de 0 0=true from rfl,ae,ax c,aA,ae]
 rw[aX c,aX c];have b:(BD s.2.2.1 16 id []).1.length<=16:=(pB (ls:=s.2.2.1) (id:=id)).2;generalize (BD s.2.2.1 16 id []).1=L at b⊢;dsimp only;rw[show de 1 0=false from rfl,af];obtain⟨q,g⟩:=afH L.length [] L [] (cp _) jA;rw[show da i64 (@len aD L) 1=(([]:List aD).length:Int)+(L.length:Int)-1 from by rw[dL fi fi];unfold len;simp];refine ob (show Loop ff (((0:Int),(([]:List aD).length:Int)+(L.length:Int)-1,(),()),L,())=ab (q,L.reverse,()) from by simpa using g) ?_;have k:=rT (f:=qD (s,id,()) (q,L.reverse,())) L.reverse (λ(ds:List Tx) (i:Int)=>(((),i,()),ds,())) (λx=>[sK s.2.2.1 s.2.2.2.1 x.1]) (((),(L.reverse.length:Int),()),L.reverse.flatMap<|λx=>[sK s.2.2.1 s.2.2.2.1 x.1],()) (by rw[P4];omega)
  (λi x l m a=>by
   unfold qD;dsimp only;have n:((L.reverse.take i).flatMap λx:aD=>[sK s.2.2.1 s.2.2.2.1 x.1]).length<=16:=by
    rw[<-Zs,ux,kC,P4];omega
   have hd:(lN s x.1).2.1=sK s.2.2.1 s.2.2.2.1 x.1:=by
    unfold lN sK;cases h:E5 s.2.2.1 x.1 with
    | none=>rfl
    | some j =>
      obtain⟨z,o,_⟩:=yS h;dsimp only;rw[o]
   rw[aq m,ae,au l,aa];refine(congrArg dq<|ob (yo s x.1 e d) rfl).trans ?_;rw[hd,bo (by simp only[Fo];omega),ae,a];rfl)
  (by
   unfold qD;dsimp only;rw[aw,af];rfl)
 refine ob k ?_;dsimp only;rw[show(L.reverse.flatMap λx:aD=>[sK s.2.2.1 s.2.2.2.1 x.1])=L.reverse.map (λx:aD=>sK s.2.2.1 s.2.2.2.1 x.1) from(Zs).symm];refine ob (ahy _<|by rw[ux,P4];omega) ?_;rfl
structure W24 (s:az):Prop where
 hd:AB s
 dl:s.2.2.2.1.length<=40
 ml:s.2.2.2.2.1.length<=40
 Wc:vm (·.1) s.1
 WW:vm (·.1) s.2.1
 Tb:vm (·.1) s.2.2.1
 bits:∀x∈s.1,BB x.2.2.2.2.2.1
 Yv:∀x∈s.2.2.2.2.1,1<=x.2.1/\x.2.1<=1000
 idB:∀x∈s.1,x.1.length<=1000
 idI:∀x∈s.2.1,x.1.length<=1000
 idL:∀x∈s.2.2.1,x.1.length<=1000
def W24.row{s:az}(h:W24 s):Y0 s:=⟨h.hd,by have:=h.dl;omega,by have:=h.ml;omega⟩
def W24.tree{s:az}(h:W24 s)(p:Tx):mq (s,p,())=ab ((eg s.2.2.1 s.2.2.2.1 p).1,(eg s.2.2.1 s.2.2.2.1 p).2,()) :=
 Y6 s p (by have:=h.hd.ll;omega) (λx a=>(h.hd.ln x a).small)
def W24.cnt{s:az}(h:W24 s)(id:Tx):dB (s,id,())=ab (tw s id,())/\(0<=tw s id/\tw s id<=1000)/\(tw s id<=0->∀x∈s.2.2.2.2.1,x.1≠id):=by
 obtain⟨b,c⟩:=Wp s id (by have:=h.ml;omega);refine⟨b,?_⟩;rcases c with ⟨x,d,_,e⟩|⟨e,a⟩
 .have:=h.Yv x d;rw[<-e];exact⟨⟨ai,this.2⟩,λq=>ai⟩
 .rw[e];exact⟨⟨aK,aK⟩,λ_=>a⟩
def ctS(s:az)(a:Tx)(d:Int):az×tp×al :=
 if(aW (eN s) a).2.1≠0 then(s,iS (aW (eN s) a).2.1,()) else
 if 0<d/\1000<=tw s (aW (eN s) a).1 then(s,iS 5,()) else
 if d<0/\tw s (aW (eN s) a).1<1 then(s,iS 11,()) else
 (Wj s (aW (eN s) a).1<|tw s (aW (eN s) a).1+d,(0,(aW (eN s) a).1,tw s (aW (eN s) a).1+d,[],()),())
def Jw{s:az}(h:W24 s)(a:Tx){d:Int}(j:d=1\/d=-1):lK (s,a,d,())=ab (ctS s a d):=by
 obtain⟨e,⟨k,l⟩,_⟩:=h.cnt (aW (eN s) a).1;have f:=h.ml;unfold lK ctS;refine ob (fW s a h.hd) ?_;dsimp only;by_cases c:(aW (eN s) a).2.1=0
 rotate_left
 .rw[ax c,aA,ae,aX c];rfl
 rw[aE c,aG,af,aR λq=>q c];refine ob e ?_;dsimp only;have g:ao (ba 0 d) (cu 1000<|tw s (aW (eN s) a).1) false=decide (0<d/\1000<=tw s (aW (eN s) a).1):=by
  rw[SY,QL,jv];exact(Bool.decide_and _ _).symm
 have i:ao (ba d 0) (ba (tw s (aW (eN s) a).1) 1) false=decide (d<0/\tw s (aW (eN s) a).1<1):=by
  rw[SY,SY,jv];exact(Bool.decide_and _ _).symm
 rw[g,i];by_cases q:0<d/\1000<=tw s (aW (eN s) a).1
 .rw[dD q,ae,aX q];rfl
 rw[cL q,af,aR q];by_cases b:d<0/\tw s (aW (eN s) a).1<1
 .rw[dD b,ae,aX b];rfl
 rw[cL b,af,aR b,e8 ai ai];exact ob (CA s _ _ ai) rfl
def dfA(s:az)(a:Tx):tp :=
 if(aW (eN s) a).2.1≠0 then iS (aW (eN s) a).2.1 else(0,(aW (eN s) a).1,0,(lN s (aW (eN s) a).1).2.1,())
def Kl{s:az}(h:W24 s)(a:Tx):ug (s,a,())=ab (dfA s a,()):=by
 unfold ug dfA;refine ob (fW s a h.hd) ?_;dsimp only;by_cases c:(aW (eN s) a).2.1=0
 rotate_left
 .rw[ax c,aA,ae,aX c];rfl
 rw[aE c,aG,af,aR λq=>q c];exact ob (yo s _ (by have:=h.hd.ll;omega) λx b=>(h.hd.ln x b).small) rfl
def acN(s:az)(id:Tx):Tx:=((s.1.find?<|λx=>decide (x.1=id)).map λx:eP=>x.2.2.2.1).getD []
def afI{s:az}(c:vm (·.1) s.1){x:eP}(b:x∈s.1):acN s x.1=x.2.2.2.1:=by
 unfold acN;cases a:s.1.find? (λy=>decide (y.1=x.1)) with
 | none=>have:=TQ.1 a x b;simp at this
 | some y =>
   have d:=aaQ a;have e:y.1=x.1:=by simpa using P8 a
   rw[c.inj (λz:eP=>z.1) d b e];rfl
def dlW(s:az)(a:Tx):az×tp×al :=
 if(aW (Bh s) a).2.1≠0 then(s,iS (aW (Bh s) a).2.1,()) else
 if 0<tw s (acN s (aW (Bh s) a).1)\/Ra (u7 (·.1) s.1 (aW (Bh s) a).1,s.2) (acN s (aW (Bh s) a).1)=true then(s,iS 7,()) else
 (Y4 (u7 (·.1) s.1 (aW (Bh s) a).1,s.2)<|acN s (aW (Bh s) a).1,xA (aW (Bh s) a).1,())
def NT{s:az}(h:W24 s)(a:Tx):sw (s,a,())=ab (dlW s a):=by
 have n:=h.hd.bl;have o:=h.hd.il;have p:=h.hd.ll;have r:=h.ml;unfold sw dlW;dsimp only;rw[NS s a h.hd,aa];by_cases c1:(aW (Bh s) a).2.1=0
 rotate_left
 .rw[aX c1,ax c1];rfl
 rw[aR<|λq=>q c1,aE c1,aG,af];obtain⟨y,b,c⟩:=zF c1;obtain⟨x,d,rfl⟩:=K8 b;have c:x.1=(aW (Bh s) a).1:=c;rw[<-c];obtain⟨g,e,l⟩:=yU s x.1 h.hd h.bits;rw[e,aa,l x d h.Wc rfl,cN ai,ae,afI h.Wc d];dsimp only;rcases wu (f:=nO (s,a,())) s.1 (λy=>decide (y.1=x.1)) (λq=>(q,x.1,())) ai (λi y b t=>by
  unfold nO;dsimp only;rw[aq t,ae,aM ai fi,ae,au b,aa,cZ,ew];by_cases q:y.1=x.1<;>simp[q]) (by unfold nO;dsimp only;rw[aw,af]) with ⟨j,y,b,u,v⟩|⟨m,_⟩
 rotate_left
 .have:=m x d;simp at this
 rw[v,aa];dsimp only;rw[show de 1 0=false from rfl,af,bO ai,ae];unfold cH;dsimp only;rw[K6 (λz:eP=>z.1) s.1 x.1 h.Wc j y b (iq u) ai,aa,aa];dsimp only;obtain⟨w,_,_⟩:=h.cnt x.2.2.2.1;rw[w,aa];dsimp only;have A:=(K2 (λz:eP=>z.1) s.1 x.1).length_le;by_cases q:0<tw s x.2.2.2.1
 .rw[aO q,aG,af,aa,ae,aX (.inl q)];rfl
 .rw[aJ ai,aA,ae,Wi _ _ Bw Bw Bw,aa,aa];dsimp only;cases B:Ra (u7 (λz:eP=>z.1) s.1 x.1,s.2) x.2.2.2.1 with
  | true =>
    rw[aX<|.inr rfl,ae];rfl
  | false =>
    rw[aR (by rintro(k|k);exact q k;cases k),af];exact ob (D5 (u7 (λz:eP=>z.1) s.1 x.1,s.2) x.2.2.2.1 Bw Bw) rfl
abbrev Dl:=Int×ay×al
def Hh:List Nd->List Nd->List Dl
 | [],[]=>[]
 | x::a,[]=>(3,x.1,())::Hh a []
 | [],y::b=>(1,y.1,())::Hh [] b
 | x::a,y::b =>
   if cmpL (key x) (key y)<0 then(3,x.1,())::Hh a (y::b)
   else if 0<cmpL (key x) (key y) then(1,y.1,())::Hh (x::a) b
   else(if x=y then [] else [(2,x.1,())])++Hh a b
 termination_by a b=>a.length+b.length
def ahS:∀(n:Nat) (a b:List Nd),a.length+b.length<=n->(Hh a b).length<=a.length+b.length:=by
 intro n;induction n with
 | zero =>
   intro a b h;obtain rfl:=zN.1 (show a.length=0 by omega);obtain rfl:=zN.1 (show b.length=0 by omega);simp[Hh]
 | succ n c =>
   intro a b h;cases a with
   | nil =>
     cases b with
     | nil=>simp[Hh]
     | cons y b =>
       rw[Hh]
       grind
   | cons x a =>
     cases b with
     | nil =>
       rw[Hh]
       grind
     | cons y b =>
       rw[Hh]
       grind
def GX{a:Type}(x:a)(r:List a):sub (x::r) 1 (minus (len (x::r)) 1)=r:=mC (x::r) 1 bb
def zG(a b:List Nd):Int:=match a,b with
 | [],_=>1
 | _::_,[]=>-1
 | x::_,y::_=>cmpL (key x) (key y)
def afJ(a b:List Nd)(d:wk a)(e:wk b) :
  (ag (ao (aS (len a) 0) (ab (((1:Int),()),()))<|ag (ao (aS (len b) 0) (ab (((-1:Int),()),()))<|ag (idx a 0) λ(c:Nd)=>ag (idx b 0) λ(f:Nd)=>ag (ha (c.1,f.1,())) λ(g:Int×al)=>ab ((g.1,()),())) λ(c:(Int×al)×al)=>ab ((c.1.1,()),())) λ(y:(Int×al)×al)=>ab y)=ab ((zG a b,()),()):=by
 cases a with
 | nil=>rfl
 | cons x a =>
   cases b with
   | nil=>rfl
   | cons y b =>
     have h:aS (len (y::b)) 0=false:=by unfold aS len;exact cL jA
     rw[h,af,show idx (x::a) 0=ab x from rfl,show idx (y::b) 0=ab y from rfl,aa,aa,Cg _ _ (by have:=(d.2 x bb).1;omega) (by have:=(e.2 y bb).1;omega)];rfl
def NU(a b:List Nd):List Dl:=match a,b with
 | x::_,y::_=>if x=y then [] else [(2,x.1,())]
 | _,_=>[]
def acO(a b:List Nd):(NU a b).length<=1:=by
 unfold NU
 grind
def Th(a b:List Nd)(d:List Dl)(l:wk a)(m:wk b)(h:a≠[]\/b≠[])(j:∀c:Dl,fits (plus (len d)<|len [c])=true) :
  ji ((a,b,()),(),(),d,())=ab (.inl<|
   if zG a b<0 then((a.drop 1,b,()),(),(),d++(a.take 1).map (λx=>(3,x.1,())),())
   else if 0<zG a b then((a,b.drop 1,()),(),(),d++(b.take 1).map (λy=>(1,y.1,())),())
   else((a.drop 1,b.drop 1,()),(),(),d++NU a b,())):=by
 have n:ao (nt<|ba 0<|len a) (ba 0<|len b) true=true:=by
  rw[Gi,Gi];cases a with
  | cons x a=>simp[ao,nt]
  | nil =>
    cases b with
    | cons y b=>simp[ao,nt]
    | nil=>simp at h
 have k:=afJ a b l m;have p:∀o:Option ((Int×al)×al),ag o (λy=>ab y)=o:=λo=>by cases o<;>rfl
 rw[p] at k;unfold ji;rw[n,ae,k,aa];dsimp only;have f:∀{x:Nd} {r:List Nd},inside 1 (len (x::r)) (len (x::r))=true:=λ{x r}=>aV ai (by unfold len;simp;omega) (sF _);by_cases g:zG a b<0
 .rw[aX g,aO g,ae,bO ai,ae,ea g,af];cases a with
  | nil=>simp[zG] at g
  | cons x a =>
    rw[show idx (x::a) 0=ab x from rfl,aa,j,ae,f,ae,GX];rfl
 .rw[aR g,aJ ai,af];by_cases i:0<zG a b
  .rw[aX i,aO i,ae,ea ai,af,bO ai,ae];cases b with
   | nil=>cases a<;>simp[zG] at i h
   | cons y b =>
     rw[show idx (y::b) 0=ab y from rfl,aa,j,ae,f,ae,GX];rfl
  .rw[aR i,aJ ai,af,bO ai,ae,bO ai,ae];cases a with
   | nil=>simp[zG] at i
   | cons x a =>
     cases b with
     | nil=>simp[zG] at g
     | cons y b =>
       have q:an (bH x.1 y.1) (an (aS x.2.1 y.2.1)<|an (aS x.2.2.1 y.2.2.1)<|an (bH x.2.2.2.1 y.2.2.2.1)<|an (bH x.2.2.2.2.1 y.2.2.2.2.1) true)=decide (x=y):=by
        obtain⟨s,t,u,v,w,z⟩:=x;obtain⟨A,B,C,D,E,F⟩:=y;unfold an bH aS
        grind
       rw[show idx (x::a) 0=ab x from rfl,show idx (y::b) 0=ab y from rfl,aa,aa,q,j,f,f,GX,GX];by_cases e:x=y
       .rw[dD e,aG,af];unfold NU;dsimp only;rw[aX e,zQ];rfl
       .rw[cL e,aA,ae];unfold NU;dsimp only;rw[aR e];rfl
def afK(a b:List Nd)(c:a≠[]\/b≠[]):Hh a b =
  if zG a b<0 then(a.take 1).map (λx=>((3,x.1,()):Dl))++Hh (a.drop 1) b
  else if 0<zG a b then(b.take 1).map (λy=>((1,y.1,()):Dl))++Hh a (b.drop 1)
  else NU a b++Hh (a.drop 1) (b.drop 1):=by
 cases a with
 | nil =>
   cases b with
   | nil=>simp at c
   | cons y b=>rw[Hh,aR (by simp[zG]),aX (by simp[zG])];rfl
 | cons x a =>
   cases b with
   | nil=>rw[Hh,aX (by simp[zG])];rfl
   | cons y b =>
     rw[Hh];show _=if cmpL (key x) (key y)<0 then _ else if 0<cmpL (key x) (key y) then _ else _
     split
     .rfl
     .split
      .rfl
      .rfl
def wk.drop{l:List Nd}(h:wk l)(k:Nat):wk (l.drop k):=⟨by rw[pP];have:=h.1;omega,λx a=>h.2 x (P3 a)⟩
def Ti:∀(n:Nat) (a b:List Nd) (acc:List Dl),a.length+b.length<=n->wk a->wk b->acc.length+a.length+b.length<=100000 ->
  ∃s,Loop ji ((a,b,()),(),(),acc,())=ab (s,(),(),acc++Hh a b,()):=by
 have fin:∀acc:List Dl,ji (([],[],()),(),(),acc,())=ab (.inr (([],[],()),(),(),acc,())):=λacc=>rfl;intro n;induction n with
 | zero =>
   intro a b acc h _ _ _;obtain rfl:=zN.1 (show a.length=0 by omega);obtain rfl:=zN.1 (show b.length=0 by omega);refine⟨([],[],()),?_⟩;rw[aT,fin,Hh,zQ];rfl
 | succ n m =>
   intro a b acc h k l p;by_cases g:a≠[]\/b≠[]
   .have o:=Th a b acc k l g (λc=>bo jA);rw[aT,o,afK a b g];have i:a≠[]->(a.drop 1).length=a.length-1/\0<a.length:=λh=>⟨bb,Li.2 h⟩;have j:b≠[]->(b.drop 1).length=b.length-1/\0<b.length:=λh=>⟨bb,Li.2 h⟩;by_cases q:zG a b<0
    .have d:a≠[]:=λe=>by subst e;simp[zG] at q
     have:=i d;obtain⟨s,r⟩:=m (a.drop 1) b (acc++(a.take 1).map λx=>(3,x.1,())) ai (k.drop 1) l (by simp at this⊢;omega)
     grind
    .by_cases t:0<zG a b
     .have f:b≠[]:=λe=>by subst e;cases a<;>simp[zG] at t g
      have:=j f;obtain⟨s,r⟩:=m a (b.drop 1) (acc++(b.take 1).map λy=>(1,y.1,())) ai k (l.drop 1) (by simp at this⊢;omega)
      grind
     .have d:a≠[]:=λe=>by subst e;simp[zG] at t
      have f:b≠[]:=λe=>by subst e;cases a<;>simp[zG] at q d
      have u:=i d;have v:=j f;obtain⟨s,r⟩:=m (a.drop 1) (b.drop 1) (acc++NU a b) ai (k.drop 1) (l.drop 1) (by
       have:=acO a b;rw[jB];omega)
      grind
   .grind
open Classical in
def afL(a b:List Nd):List Dl×Int:=if Valid a/\Valid b then(Hh a b,0) else([],1)
def Wq(a b:List Nd)(c:wk a)(d:wk b):qA (a,b,())=ab ((afL a b).1,(afL a b).2,()):=by
 obtain⟨e,l,i⟩:=mr a c;obtain⟨f,m,j⟩:=mr b d;unfold qA;dsimp only;rw[l,aa,m];simp only[aa];by_cases hv:Valid a/\Valid b
 .obtain rfl:=i.2 hv.1;obtain rfl:=j.2 hv.2;have h:=c.1;have g:=d.1;obtain⟨s,n⟩:=Ti (a.length+b.length) a b [] (cp _) c d jA;rw[show(ao (nt<|nt<|aS 0 0) (ab<|nt<|aS 0 0) (ab true):Option Bool)=ab false from rfl,aa,af,n,aa];unfold afL;rw[aX hv,Bx]
 .have o:(ao (nt<|nt<|aS e 0) (ab<|nt<|aS f 0) (ab true):Option Bool)=ab true:=by
   by_cases k:e=0
   .by_cases g:f=0
    .exact absurd ⟨i.1 k,j.1 g⟩ hv
    .rw[show aS f 0=false by simp[aS,g]];cases nt (nt<|aS e 0)<;>rfl
   .rw[show aS e 0=false by simp[aS,k]];rfl
  rw[o,aa,ae];unfold afL;rw[aR hv]
end Go.Ge
