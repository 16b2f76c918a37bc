/- Plain laws of what the functions compute: part 8. -/
import Derived.Test.YtpmecibilnjeiaaGreatDoorPlG
set_option linter.unusedSectionVars false
set_option linter.unusedVariables false
set_option linter.unusedSimpArgs false
noncomputable section
namespace Go.Ge
variable [Lp]
theorem U9:∀(r:List Tx) (t:List Nd),Valid t->(pU r t).2=0->Valid (pU r t).1:=by
 intro r;induction r with
 | nil=>intro t h _;exact h
 | cons s r b =>
   intro t h a;unfold pU at a⊢;by_cases c:(fJ t s).2=0
   .rw[aV c] at a⊢;rcases uc h s with ⟨_,v,_⟩|⟨v,_⟩
    .exact b _ v a
    .exact absurd c v
   .rw[aX c] at a⊢;exact absurd a c
theorem KK{ls:List ax}{a:List Tx}{id:Tx}(h:(cS ls a id).2=0):(b7 ls id).2=0/\cS ls a id=pU ((b7 ls id).1.reverse.map λx=>qA ls a x.1) []:=by
 unfold cS at h⊢;by_cases c:(b7 ls id).2=0
 .rw[aV c];exact⟨c,rfl⟩
 .rw[aX c] at h;exact absurd h c
theorem A5:Valid []:=yc US.1
theorem Ai.more{a b:List ax}{f g:List Tx}{x:ax}{d:Tx}(p:a.length=f.length)(L:CA (·.1) (a++b))(l:CA (·.1) (a++[x]++b))(r:Ai (a++b) (f++g))
  (h:∀y∈a++b,y.1≠x.1) (M:x.1≠[]) (N:x.2.1≠x.1) (s:x.2.1=[]\/((b7 (a++b) x.2.1).2=0/\(b7 (a++b) x.2.1).1.length<16))
  (t:x.2.2.2.2.2.2.1=true/\x.2.2.2.2.2.1=0/\x.2.2.2.2.1=(d.length:Int)/\x.2.2.2.1=rq d/\Ah d)
  (m:(fJ (if x.2.1=[] then [] else(cS (a++b) (f++g) x.2.1).1) d).2=0):Ai (a++[x]++b) (f++[d]++g):=by
 have hlen:(f++g).length=(a++b).length:=r.same;have n:(f++[d]++g).length=(a++[x]++b).length:=by
  simp only[gI,Oi] at hlen⊢;omega
 have u:∀(y:ax) (e:Tx),y.1≠x.1->(U8 (a++[x]++b) (f++[d]++g) y e↔U8 (a++b) (f++g) y e):=λy e k=>by
  rw[Ed p];constructor
  .rintro(q|q)
   .exact absurd (congrArg (·.1) q.1) k
   .exact q
  .exact .inr
 have O:∀y∈a++b,y.2.1≠x.1:=λy k e=>by
  rcases Oa L k (r.chain y k) with q|⟨z,H,q⟩
  .exact M (e.symm.trans q)
  .exact h z H (q.trans e)
 have v:x∈a++[x]++b:=by simp
 have w:∀y∈a++[x]++b,y=x\/y∈a++b:=λy k=>by
  simp only[ra,EF] at k⊢;rcases k with (q|q)|q
  .exact .inr (.inl q)
  .exact .inl q
  .exact .inr (.inr q)
 have o:∀{id:Tx},id≠x.1->b7 (a++[x]++b) id=b7 (a++b) id/\cS (a++[x]++b) (f++[d]++g) id=cS (a++b) (f++g) id :=
  λ{id} P=>Ob L l hlen n u (λy k=>.inr (O y k)) (.inl h) P
 have A:qA (a++[x]++b) (f++[d]++g) x.1=d:=vO l ((Ed p).2<|.inl ⟨rfl,rfl⟩);have key:(b7 (a++[x]++b) x.1).2=0/\(cS (a++[x]++b) (f++[d]++g) x.1).2=0:=by
  by_cases B:x.2.1=[]
  .have Q:b7 (a++[x]++b) x.1=([x],0):=by
    unfold b7;rw[lQ l v,aV B];rfl
   rw[aV B] at m;unfold cS;rw[Q,aV rfl];refine⟨rfl,?_⟩;show(pU [qA (a++[x]++b) (f++[d]++g) x.1] []).2=0
   rw[A];unfold pU;rw[aV m];rfl
  .rcases s with q|⟨C,V⟩
   .exact absurd q B
   rw[aX B] at m;obtain⟨T,W⟩:=o N;obtain⟨y,k,R⟩:∃y∈a++b,y.1=x.2.1:=by
    apply ML;intro q;unfold b7 at C;rw[u0 λy k e=>q ⟨y,k,e⟩] at C;cases C
   have S:(cS (a++b) (f++g) x.2.1).2=0:=by
    obtain⟨i,I⟩:=bR.1 k;have:=aD I;rw[<-R];exact(r.each i y (f++g)[i] I<|gH<|by omega).2.2.2.2.2
   obtain⟨t1,J⟩:=KK S;obtain⟨c,X,Y⟩:=FJ l 16 x.2.1 [] (by have:=T;unfold b7 at this C;rw[this];exact C);have D:(b7 (a++b) x.2.1).1=c:=by rw[<-T];exact X
   rw[D] at V J;have Q:b7 (a++[x]++b) x.1=(x::c,0):=by
    unfold b7;rw[lQ l v,aX B,Y 15 _ (by omega)];rfl
   unfold cS;rw[Q,aV rfl];refine⟨rfl,?_⟩;rw[W.symm] at J m S;rw[show(x::c,(0:Int)).1=x::c from rfl,List.reverse_cons,xE,List.map_singleton,A];have E:(c.reverse.map λz=>qA (a++[x]++b) (f++[d]++g) z.1)=(c.reverse.map λz=>qA (a++b) (f++g) z.1):=by
    apply Il;intro z H;rw[Qr] at H;have F:z∈a++b:=(ry (ls:=a++b) (id:=x.2.1)).1 z (by rw[D];exact H);obtain⟨e,K⟩:=Ee hlen F;rw[vO L K,vO l ((u z e<|h z F).2 K)]
   rw[E,N0 _ d [] (cS (a++[x]++b) (f++[d]++g) x.2.1).1 (Iy (by rw[J])<|by rw[<-J];exact S),aV m]
 refine⟨n,λy k=>?_,λi y e I K=>?_⟩
 .rcases w y k with rfl|G
  .exact key.1
  .rw[(o<|h y G).1];exact r.chain y G
 .have Z:U8 (a++[x]++b) (f++[d]++g) y e:=⟨i,I,K⟩;rcases(Ed p).1 Z with ⟨rfl,rfl⟩|⟨j,U,g2⟩
  .exact⟨t.1,t.2.1,t.2.2.1,t.2.2.2.1,t.2.2.2.2,key.2⟩
  .obtain⟨a1,a2,a3,a4,a5,a6⟩:=r.each j y e U g2;exact⟨a1,a2,a3,a4,a5,by rw[(o<|h y<|eF U).2];exact a6⟩
theorem aev:Bg (nx 1024)=([],0):=by
 unfold Bg;rw[Kw]
theorem acN{t:List Nd}(h:Valid t):fJ t (nx 1024)=(t,0):=by
 unfold fJ;rw[aev,aV rfl];unfold lq;rw[aV h];rfl
theorem ya.boxes{l:List zK}(b:l.length<=32)(c:∀x∈l,OkB x)(d:CA (·.1) l)(e:(l.flatMap (·.2.1)).Nodup):ya 1 (0,[],[],l,()) :=
 ⟨b,by show l.length+0+0=l.length;omega,λx a=>(by cases a),λx a=>(by cases a),c,by unfold R8;simpa [CA] using d,by unfold R9;simpa using e⟩
theorem ya.lays{l:List ax}(b:l.length<=32)(c:∀x∈l,OkL x)(d:CA (·.1) l)(e:(l.flatMap (·.2.2.1)).Nodup):ya 3 (0,l,[],[],()) :=
 ⟨b,by show 0+0+l.length=l.length;omega,c,λx a=>(by cases a),λx a=>(by cases a),by unfold R8;simpa [CA] using d,by unfold R9;simpa using e⟩
theorem Wp.aie{s:bJ}(h:Wp s):(s.2.2.1.flatMap (·.2.2.1)).Nodup:=by
 have:=h.l.nms;unfold R9 at this;simpa using this
def qC{a:Type}(l:List a)(k:Nat)(x:a):List a:=l.take k++[x]++l.drop k
theorem acO{a:Type}(l:List a)(k:Nat)(x:a)(b:k<=l.length)(c:l.length<=1000000):Fc l (k:Int) [x]=some (qC l k x):=by
 unfold Fc qC;rw[show inside 0 (k:Int) (len l)=true from aP (by decide) (by omega) (by unfold len;omega),bP (by simp only[dh,eG];omega),sQ];rfl
def mC(s:bJ)(x:ax)(d:Tx):bJ:=(s.1,(s.2.1,(qB (·.1) s.2.2.1 x,qC s.2.2.2.1 (cK (λy:ax=>y.1) s.2.2.1 x.1) d,s.2.2.2.2)))
def cutAt{a:Type}(l:List a)(i:Nat):List a:=l.take i++l.drop (i+1)
theorem Aj(a:List ax)(b:List Tx)(x:ax)(d:Tx)(g:b.length=a.length):∃(c f:List ax) (e r2:List Tx),c.length=e.length/\a=c++f/\b=e++r2/\c.length=cK (λy:ax=>y.1) a x.1 /\
  qB (λy:ax=>y.1) a x=c++[x]++f/\qC b (cK (λy:ax=>y.1) a x.1) d=e++[d]++r2:=by
 have h:=ud (λy:ax=>y.1) a x.1;refine⟨a.takeWhile<|λy=>gf y.1 x.1,a.dropWhile (λy=>gf y.1 x.1),b.take (cK (λy:ax=>y.1) a x.1),b.drop (cK (λy:ax=>y.1) a x.1),?_,(Lg).symm,(vV _ _).symm,rfl,rfl,rfl⟩;rw[fT,pc (by omega)];rfl
theorem Wp.more{s:bJ}(h:Wp s){x:ax}{d:Tx}(B:OkL x)(L:s.2.2.1.length<32)(m:∀y∈s.2.2.1,y.1≠x.1)(D:∀y∈s.2.2.1,∀n∈y.2.2.1,n∉x.2.2.1)
  (r:x.2.1=[]\/((b7 s.2.2.1 x.2.1).2=0/\(b7 s.2.2.1 x.2.1).1.length<16)) (M:x.2.2.2.2.2.2.1=true/\x.2.2.2.2.2.1=0/\x.2.2.2.2.1=(d.length:Int)/\x.2.2.2.1=rq d/\Ah d)
  (E:(fJ (if x.2.1=[] then [] else(cS s.2.2.1 s.2.2.2.1 x.2.1).1) d).2=0):Wp (mC s x d):=by
 obtain⟨T,U,o,H,V,u⟩:=s;have I:=h.upL;have C:=h.b;have hi:=h.i;have N:=h.l;have f:=h.lays;have F:=h.aeq;have p:=h.tops;have hrefs:=h.refs;have t:=h.mts;have G:=h.ady;have v:=h.aie;unfold mC;dsimp only at *;have c:∀y:ax,y∈qB (λy:ax=>y.1) o x↔y=x\/y∈o:=λy=>KF _;have g:CA (λy:ax=>y.1) (qB (λy:ax=>y.1) o x):=PR _ I m;refine⟨C,hi,ya.lays ?_ ?_ g ?_,?_,F,?_,?_,?_,G⟩
 .rw[KG];omega
 .intro y e;rcases(c y).1 e with rfl|e
  .exact B
  .exact N.ll y e
 .have O:=(FI (λy:ax=>y.1) o x).flatMap_right (λy:ax=>y.2.2.1);rw[O.nodup_iff,Y7,Lk];refine⟨?_,v,λa P b C=>?_⟩
  .have:=B.nms;unfold vG at this;simp only[dv,nE] at this;exact this.1.2
  .rw[List.mem_flatMap] at C;obtain⟨y,e,Q⟩:=C;rintro rfl;exact D y e a Q P
 .obtain⟨W,X,Y,Z,R,w,J,_,K,S⟩:=Aj o H x d f.same;show Ai (qB (λy:ax=>y.1) o x) (qC H (cK (λy:ax=>y.1) o x.1) d)
  rw[K] at g;rw[K,S];have j:=B.id;refine Ai.more R (by rw[<-w];exact I) g (by rw[<-w,<-J];exact f) (by rw[<-w];exact m) (λq=>?_) ?_ (by rw[<-w];exact r) M (by rw[<-w,<-J];exact E)
  .rw[q] at j;exact KI j
  .rcases B.par with q|q
   .rw[q];intro k;rw[<-k] at j;exact KI j
   .exact q.2
 .intro y e;rcases p y e with q|⟨z,A,q⟩
  .exact .inl q
  .exact .inr ⟨z,(c z).2 (.inr A),q⟩
 .intro y e;obtain⟨z,A,q⟩:=(hrefs y e).2;exact⟨(hrefs y e).1,z,(c z).2 (.inr A),q⟩
 .intro y e;obtain⟨⟨z,A,q⟩,k⟩:=t y e;exact⟨⟨z,(c z).2 (.inr A),q⟩,k⟩
theorem Wo.more{s:bJ}(h:Wo s){x:ax}{d:Tx}(c:BdL x)(f:s.2.2.1.length<32)(g:d.length<=8192):Wo (mC s x d):=by
 refine⟨?_,h.il,h.bl,λy b=>?_,h.xi,h.xb,λe a=>?_,h.ml⟩
 .show(qB (λy:ax=>y.1) s.2.2.1 x).length<=40
  rw[KG];omega
 .rcases(KF _).1 b with rfl|b
  .exact c
  .exact h.xl y b
 .have a:e∈qC s.2.2.2.1 (cK (λy:ax=>y.1) s.2.2.1 x.1) d:=a;unfold qC at a;rw[ra,ra,EF] at a;rcases a with (a|rfl)|a
  .exact h.dl e (EE a)
  .exact g
  .exact h.dl e (Io a)
theorem KL{ls:List ax}{a:List Tx}{id:Tx}(h:(cS ls a id).2=0):Valid (cS ls a id).1:=by
 obtain⟨_,t⟩:=KK h;rw[t] at h⊢;exact U9 _ _ A5 h
theorem Ws{a:Type}(l:List a)(i:Nat)(b:i<l.length)(c:l.length<=1000000):Uk l (i:Int) (aB .i64 (i:Int) 1)=some (cutAt l i):=by
 unfold Uk cutAt;rw[aK<|by omega,aP (by omega) (by omega) (by unfold len;omega),ev,sQ,sQ]
def Ak(n:Nat)(a:List Tx):List Tx:=a.take n++List.replicate (n-a.length) []
theorem Ef(n:Nat)(a:List Tx):(Ak n a).length=n:=by
 unfold Ak;rw[gI,fT,Ql];omega
theorem Wt{n:Nat}{a:List Tx}(h:a.length=n):Ak n a=a:=by
 unfold Ak;rw[A8<|by omega,show n-a.length=0 from by omega,List.replicate_zero,y9]
theorem acP{n i:Nat}{a:List Tx}(h:i<n):(Ak n a)[i]?=some ((a[i]?).getD []):=by
 unfold Ak;by_cases hi:i<a.length
 .rw[Og<|by rw[fT];omega,fA,aV h,gH hi];rfl
 .rw[Ik<|by rw[fT];omega,fT,Vl,aV (by omega),Oh (by omega)];rfl
theorem FK(s:bJ)(b:s.2.2.1.length<=1000000):l9 (s,())=some (Ak s.2.2.1.length s.2.2.2.1,()):=by
 unfold l9;dsimp only;rw[aP (by decide) (by unfold len;omega)<|qJ _,ab,lO (by omega),ab];have a:len (gK (len s.2.2.1) ([]:Tx))=(s.2.2.1.length:Int):=by unfold len gK;rw[sQ,Ql]
 rw[show @len ao=@len Tx from rfl,show @gK ao=@gK Tx from rfl,a]
 congr 1
 unfold over gK len jj Ak;rw[show((0:Int).toNat)=0 from rfl,MW,sd,qI,sQ,List.drop_replicate,fT]
 congr 2
 congr 1
 omega
def aa8(s:bJ)(x:ax)(d:Tx):bJ:=(s.1,(s.2.1,(qB (·.1) s.2.2.1 x,qC (Ak s.2.2.1.length s.2.2.2.1) (cK (λy:ax=>y.1) s.2.2.1 x.1) d,s.2.2.2.2)))
theorem aa9(s:bJ)(x:ax)(d:Tx)(r:s.2.2.1.length<=100000):jB (s,x,d,())=some (aa8 s x d,()):=by
 obtain⟨n,o,a,b,p⟩:=s;dsimp only at r;have l:=ud (λy:ax=>y.1) a x.1;unfold jB;dsimp only;have c:=KE (f:=oZ ((n,o,a,b,p),x,d,())) (λy:ax=>y.1) a x.1 (by omega) (λi=>(((0:Int),i,()),x,())) (λi=>(1,((i:Int),(i:Int),()),x,()))
  (0,((0:Int),(a.length:Int),()),x,()) (λi y q=>by
   have hi:=aD q;unfold oZ;dsimp only;rw[aq hi,ab,ar q,aa,aK (by omega)];cases gf y.1 x.1<;>rfl) (by unfold oZ;dsimp only;rw[aC,af])
 rw[c,aa];have e:=FK (n,o,a,b,p) (by dsimp only;omega);have g:∀k:Nat,k<=a.length->jY (Ak a.length b,(k:Int),d,())=some (qC (Ak a.length b) k d,()):=λk l=>by
  unfold jY;dsimp only;rw[show @len ao=@len Tx from rfl,lO (by rw[Ef];omega),ab];unfold ej;dsimp only;rw[acO (Ak a.length b) k d (by rw[Ef];omega)<|by rw[Ef];omega,aa]
 have h:gR (a,((cK (λy:ax=>y.1) a x.1:Nat):Int),x,())=some (qB (λy:ax=>y.1) a x,()):=by
  unfold gR;dsimp only;rw[lO<|by omega,ab];unfold cY;dsimp only;rw[show Fc a ((cK (λy:ax=>y.1) a x.1:Nat):Int) [x]=_ from KD (λy:ax=>y.1) a x (by omega),aa]
 by_cases j:cK (λy:ax=>y.1) a x.1<a.length
 .rw[aV j];dsimp only;rw[show du 1 0=false from rfl,af,aa];dsimp only;rw[e,aa,aA (by omega),af];dsimp only;rw[g _ l,aa,h,aa];rfl
 .rw[aX j];dsimp only;have m:cK (λy:ax=>y.1) a x.1=a.length:=by omega
  rw[bV,ab,aa];dsimp only;rw[e,aa,aJ (by decide),ab];dsimp only;rw[show @len (Tx×Tx×List Tx×Tx×Int×Int×Bool×ah) a=((cK (λy:ax=>y.1) a x.1:Nat):Int) from by rw[m];rfl,g _ l,aa,h,aa];rfl
abbrev Ch1:=(List ax×Int×ah×Tx×Int×ah)×List ax×ah
theorem KM(b:List ax)(j:Tx)(u:b.length<=1000000)(p:∀x∈b,x.2.2.1.length<=4294967296)(c:List ax)(d:Int)(id:Tx)(a:List ax)(v:a.length<=16) :
  ∃i:Int,Loop (kA (b,j,())) ((c,d,(),id,(0:Int),()),a,())=some (match A2 b id with
   | none=>(0,(c,d,(),id,i,()),a,())
   | some k=>match b[k]? with
     | none=>(0,(c,d,(),id,i,()),a,())
     | some x=>if a.length=16 then(1,([],5,(),id,i,()),a,()) else if x.2.1=[] then(2,(c,d,(),id,i,()),a++[x],()) else(3,(c,d,(),x.2.1,i,()),a++[x],())):=by
 rcases pT (f:=kA (b,j,())) b (λi=>((c,d,(),id,i,()),a,())) (λ_ x=>decide (x.1=id))
  (λi x=>if a.length=16 then(1,([],5,(),id,(i:Int),()),a,()) else if x.2.1=[] then(2,(c,d,(),id,(i:Int),()),a++[x],()) else(3,(c,d,(),x.2.1,(i:Int),()),a++[x],()))
  (0,(c,d,(),id,(b.length:Int),()),a,()) (by omega) (λi x l r m=>by
   unfold kA;dsimp only;rw[aq r,ab,ar l,aa,oc,m];by_cases q:x.1=id
   .rw[eu q,aE,af,aV rfl,Yv _ (p x<|eF l),aa];have n:aZ (@len ax a) (16:Int)=decide (a.length=16):=by unfold aZ len;apply jV.2;omega
    rw[n];by_cases e:a.length=16
    .rw[eu e,ab,aV e]
    .rw[cU e,af,aX e];dsimp only;rw[show fits (plus (@len ax a)<|@len ax ([(x.1,x.2.1,x.2.2.1,x.2.2.2)]:List ax))=true from bP (by show _+1<=_;omega),ab,oc,sX];by_cases g:x.2.1=[]
     .rw[eu g,aV rfl,aV g];rfl
     .rw[cU g,aX g];rfl
   .rw[cU q,az,ab];rfl) (by unfold kA;dsimp only;rw[aC,af]) with ⟨i,x,l,g,s,h⟩|⟨o,h⟩
 .refine⟨(i:Int),?_⟩;have t:x.1=id:=kH g;rw[Ky l t s];dsimp only;rw[l];exact h
 .refine⟨(b.length:Int),?_⟩;rw[Ag o];exact h
theorem SM{b:List ax}{id:Tx}(h:A2 b id=none)(n:Nat)(a:List ax):yV b n id a=([],3):=by
 unfold yV;rw[h]
theorem acQ{b:List ax}{id:Tx}{k:Nat}(h:A2 b id=some k)(a:List ax):yV b 0 id a=([],5):=by
 unfold yV;rw[h]
theorem aew{b:List ax}{id:Tx}{k:Nat}{x:ax}(h:A2 b id=some k)(c:b[k]?=some x)(n:Nat)(a:List ax) :
  yV b (n+1) id a=if x.2.1=[] then(a++[x],0) else yV b n x.2.1 (a++[x]):=by
 conv=>lhs;unfold yV
 rw[h];dsimp only;rw[c]
theorem SN(ls:List ax)(a:Tx)(j:ls.length<=1000000)(l:∀x∈ls,x.2.2.1.length<=4294967296):∀(n:Nat) (id:Tx) (acc:List ax),n+acc.length=16 ->
  ∃e f g,Loop (kB (ls,a,())) ((([]:List ax),(0:Int),(),id,()),acc,()) =
   some (if(yV ls n id acc).2=0 then(1,e,(yV ls n id acc).1,()) else(0,((yV ls n id acc).1,(yV ls n id acc).2,f),g)):=by
 intro n;induction n with
 | zero =>
   intro id acc m;rw[aI];unfold kB;dsimp only;obtain⟨i,h⟩:=KM ls a j l [] 0 id acc (by omega);rw[h,aa];cases b:A2 ls id with
   | none =>
     rw[SM b];exact⟨(([]:List ax),(0:Int),(),id,()),_,_,rfl⟩
   | some k =>
     obtain⟨x,c,_⟩:=yh b;rw[acQ b];dsimp only;rw[c];dsimp only;rw[aV<|by omega];exact⟨(([]:List ax),(0:Int),(),id,()),_,_,rfl⟩
 | succ n o =>
   intro id acc m;rw[aI];unfold kB;dsimp only;obtain⟨i,h⟩:=KM ls a j l [] 0 id acc (by omega);rw[h,aa];cases b:A2 ls id with
   | none =>
     rw[SM b];exact⟨(([]:List ax),(0:Int),(),id,()),_,_,rfl⟩
   | some k =>
     obtain⟨x,c,_⟩:=yh b;rw[aew b c];dsimp only;rw[c];dsimp only;rw[aX<|by omega];by_cases d:x.2.1=[]
     .rw[aV d,aV d];exact⟨_,((),([]:Tx),()),(acc,()),rfl⟩
     .rw[aX d,aX d];obtain⟨e,f,g,p⟩:=o x.2.1 (acc++[x]) (by rw[gI];show n+(_+1)=16;omega);exact⟨e,f,g,p⟩
theorem Wu{b:Type}(a:b->Tx)(l:List b)(x:b):qB a l x=qC l (cK a l<|a x) x:=by
 unfold qB qC;rw[(yi a l x).1,(yi a l x).2]
def aba(s:bJ)(a:Tx):Tx:=if a=[] then [] else(adv (nmL s) a).1
def wv(s:bJ)(id:Tx):ax×Tx×Bool×ah:=match A2 s.2.2.1 id with
 | none=>(([],[],[],[],(0:Int),(0:Int),false,()),[],false,())
 | some i=>match s.2.2.1[i]? with
   | none=>(([],[],[],[],(0:Int),(0:Int),false,()),[],false,())
   | some x=>(x,(s.2.2.2.1[i]?).getD [],true,())
theorem ixL{f:(Int×Int×ah)×ah×Tx×ah->Option (((Int×Int×ah)×ah×Tx×ah)⊕(Nat×(Int×Int×ah)×ah×Tx×ah))}(a:List ax)(id:Tx)(o:a.length<=1000000)
  (e:∀c i:Int,f ((c,i,()),(),id,())=aj (ba i<|len a) (ae (idx a i) λy=>aj (bw y.1 id) (some<|.inr (1,(i,i,()),(),id,())) (some<|.inl ((c,aB .i64 i 1,()),(),id,()))) (some<|.inr (0,(c,i,()),(),id,()))) :
  ae (Loop f (((0:Int),(0:Int),()),(),id,())) (λb=>aj (du b.1 0) (some (((-1:Int),()),(),b.2.2.2.1,())) (some ((b.2.1.1,()),(),b.2.2.2.1,())))=some ((zb a id,()),(),id,()):=by
 rcases pT (f:=f) a (λj=>(((0:Int),j,()),(),id,())) (λ_ y=>decide (y.1=id)) (λi _=>(1,((i:Int),(i:Int),()),(),id,())) (0,((0:Int),(a.length:Int),()),(),id,()) (by omega) (λi y d g k=>by
  rw[e,aq g,ab,ar d,aa,oc,sX,k];by_cases q:y.1=id<;>simp[q]) (by rw[e,aC,af]) with ⟨i,y,d,l,m,h⟩|⟨n,h⟩
 .rw[h,aa];unfold zb;rw[Ky d (kH l) m];rfl
 .rw[h,aa];unfold zb;rw[Ag n];rfl
theorem Al(s:bJ)(id:Tx)(e:s.2.2.1.length<=100000)(b:∀x∈s.2.2.1,x.2.2.1.length<=4294967296):fR (s,id,())=some (wv s id):=by
 unfold fR wv;dsimp only;rw[ixL (f:=xh (s,id,())) s.2.2.1 id (by omega)<|λc i=>rfl,aa];unfold zb;cases h:A2 s.2.2.1 id with
 | none=>rfl
 | some i =>
   obtain⟨x,a,_⟩:=yh h;have hi:=aD a;dsimp only;rw[aA<|by omega,af,ar a,aa,a];have d:=b x (eF a);rw[JX x.2.2.1 d,aa,FK s (by omega),aa];dsimp only;rw[ar<|acP hi,aa]
def Yw(s:bJ)(id:Tx)(n:Int):bJ:=(s.1,(s.2.1,(s.2.2.1,(s.2.2.2.1,((if 0<n then qB (·.1) (YJ (·.1) s.2.2.2.2.1 id) (id,n,()) else YJ (·.1) s.2.2.2.2.1 id),s.2.2.2.2.2)))))
theorem aif(l:List fI)(id:Tx)(n:Int)(p:l.length<=100000)(b:∀x∈l,x.1≠id){f:(Int×Int×ah)×Tx×ah->Option (((Int×Int×ah)×Tx×ah)⊕(Nat×(Int×Int×ah)×Tx×ah))}
  (k:∀c i:Int,f ((c,i,()),id,())=aj (ba i<|len l) (ae (idx l i) λy=>aj (nt<|YG (gf y.1 id)<|bw y.1 id) (some<|.inr (1,(i,i,()),id,())) (some<|.inl ((c,aB .i64 i 1,()),id,()))) (some<|.inr (0,(c,i,()),id,()))) :
  ae (Loop f (((0:Int),(0:Int),()),id,())) (λa=>aj (du a.1 0) (ae (bA (l,(((@len fI l,()),()).1).1,(a.2.2.1,n,()),())) λd=>some ((d.1,()),a.2.2.1,()))
   (ae (bA (l,((aj (ba a.2.1.1 (0:Int)) ((@len fI l,()),()) ((a.2.1.1,()),())).1).1,(a.2.2.1,n,()),())) λd=>some ((d.1,()),a.2.2.1,())))=some ((qB (·.1) l (id,n,()),()),id,()):=by
 have m:∀x:fI,x.1=id->bA (l,((cK (λy:fI=>y.1) l id:Nat):Int),x,())=some (qB (·.1) l x,()):=by
  intro x o;unfold bA;dsimp only;rw[lO<|by omega,ab];have:=KD (λy:fI=>y.1) l x (by omega);rw[o] at this;exact ob this rfl
 have h:=KE (f:=f) (λy:fI=>y.1) l id (by omega) (λi=>(((0:Int),i,()),id,())) (λi=>(1,((i:Int),(i:Int),()),id,())) (0,((0:Int),(l.length:Int),()),id,()) (λi y g=>by
  have hi:=aD g;have j:=b y (eF g);rw[k,aq hi,ab,ar g,aa,Ur,aK (by omega)];rcases AU y.1 id with q|q|q
  .rw[q,pI q];rfl
  .exact absurd q j
  .rw[q,pI q];rfl) (by rw[k,aC,af])
 have r:=ud (λy:fI=>y.1) l id;rw[h,aa];by_cases q:cK (λy:fI=>y.1) l id<l.length
 .rw[aV q];dsimp only;rw[show du 1 0=false from rfl,af,aA (by omega),af];refine ob (m (id,n,()) rfl) rfl
 .rw[aX q];dsimp only;rw[show du 0 0=true from rfl,ab];have e:(@len fI l)=((cK (λy:fI=>y.1) l id:Nat):Int):=by unfold len;omega
  rw[e];refine ob (m (id,n,()) rfl) rfl
theorem GC(s:bJ)(id:Tx)(n:Int)(o:s.2.2.2.2.1.length<=50000):ma (s,id,n,())=some (Yw s id n,()):=by
 obtain⟨F,G,H,I,a,u⟩:=s;dsimp only at o;have go:∀l:List fI,l.length<=100000->(∀x∈l,x.1≠id)->∀{f:(Int×Int×ah)×Tx×ah->Option (((Int×Int×ah)×Tx×ah)⊕(Nat×(Int×Int×ah)×Tx×ah))},
   (∀c i:Int,f ((c,i,()),id,())=aj (ba i<|len l) (ae (idx l i) λy=>aj (nt<|YG (gf y.1 id)<|bw y.1 id) (some<|.inr (1,(i,i,()),id,())) (some<|.inl ((c,aB .i64 i 1,()),id,()))) (some<|.inr (0,(c,i,()),id,()))) ->
   aj (ba 0 n) (ae (Loop f (((0:Int),(0:Int),()),id,())) λe=>aj (du e.1 0) (ae (bA (l,(((@len fI l,()),()).1).1,(e.2.2.1,n,()),())) λp=>some ((p.1,()),e.2.2.1,()))
    (ae (bA (l,((aj (ba e.2.1.1 (0:Int)) ((@len fI l,()),()) ((e.2.1.1,()),())).1).1,(e.2.2.1,n,()),())) λp=>some ((p.1,()),e.2.2.1,()))) (some ((l,()),id,())) =
    some (((if 0<n then qB (·.1) l (id,n,()) else l),()),id,()):=by
  intro l o b f K;by_cases q:0<n
  .rw[aJ q,ab,aV q];exact aif l id n o b K
  .rw[aA<|by omega,af,aX q]
 unfold ma Yw;dsimp only;rw[lO<|by omega,ab];rcases pT (f:=n0 ((F,G,H,I,a,u),id,n,())) a (λj=>(((0:Int),j,()),id,())) (λ_ y=>decide (y.1=id)) (λi _=>(1,((i:Int),(i:Int),()),id,())) (0,((0:Int),(a.length:Int),()),id,()) (by omega) (λi y g k r=>by
  unfold n0;dsimp only;rw[aq k,ab,aU (by omega) (by unfold len;omega),ab,ar g,aa,oc,sX,r];by_cases q:y.1=id<;>simp[q]) (by unfold n0;dsimp only;rw[aC,af]) with ⟨i,y,g,M,t,h⟩|⟨N,h⟩
 rotate_left
 .have b:∀x∈a,x.1≠id:=λx m=>by
   obtain⟨i,k⟩:=bR.1 m;exact Ol (N i x k)
  rw[SI _ b];refine ob h ?_;dsimp only;rw[show du 0 0=true from rfl,ab];exact ob (go a (by omega) b (f:=xj ((F,G,H,I,a,u),id,n,())) λc i=>rfl) rfl
 have k:=aD g;have v:y.1=id:=kH M;refine ob h ?_;dsimp only;rw[show du 1 0=false from rfl,af,aN (by omega),af];have A:a.take i=(a.take<|i+1).filter (λx=>!decide (x.1=id)):=by
  rw[Ba,g,MS];have B:(a.take i).filter (λx=>!decide (x.1=id))=a.take i:=Im.2 λz C=>by
   obtain⟨j,d⟩:=bR.1 C;rw[fA] at d;split at d
   .have:=t j z (by omega) d;rw[this];rfl
   .cases d
  rw[B];simp[v]
 obtain⟨w,L,B,R,S,O⟩:=Ea (f:=n6) a (λx=>decide (x.1=id)) (λw j L=>((w,j,(),()),id,L,())) (λw L=>((w,(L.length:Int),(),()),id,L,())) (by omega) (λw j L x m D T t r P=>by
  unfold n6;dsimp only;have E:w<L.length:=by omega
  obtain⟨z,C⟩:∃z,L[w]?=some z:=⟨_,gH E⟩;rw[aq t,ab,aU (by omega) (by unfold len;omega),ab,ar D,aa,oc,P];cases decide (x.1=id) with
  | true=>rfl
  | false =>
    rw[az,ab,aU (by omega) (by unfold len;omega),ab,ar C,aa,aa,aa,aa,r,gD];rfl) (λw L=>by
  unfold n6;dsimp only;rw[aC,af];rfl) a.length i (i+1) a (by omega) (by omega) (by omega) rfl A rfl
 rw[aK<|by omega];refine ob B ?_;dsimp only;have J:L.take w=YJ (λx:fI=>x.1) a id:=by
  rw[O];unfold YJ
  congr 1
  funext x;by_cases q:x.1=id<;>simp[q]
 have Q:(YJ (λx:fI=>x.1) a id).length<=a.length:=(acK _ a id).length_le;rw[aP (by omega) (by unfold len;omega)<|qJ _,ab,Eb L w (by omega),aP (qJ _) (by omega) (by omega),ab,zX L w (by omega),J];exact ob (go (YJ (λx:fI=>x.1) a id) (by omega) (λx m=>((acJ _).1 m).2)
  (f:=rm (((w:Int),(L.length:Int),(),()),id,L,())) λc i=>by
   unfold rm;dsimp only;rw[zX L w<|by omega,J]) rfl
theorem abb{ls:List ax}(d:CA (·.1) ls):∀(n:Nat) (id:Tx) (acc c:List ax),yV ls (n+1) id acc=(acc++c,0)->c.length=n+1->∀a,yV ls n id a=([],5):=by
 intro n;induction n with
 | zero =>
   intro id acc c h f a;by_cases hx:∃x∈ls,x.1=id
   .obtain⟨x,hx,rfl⟩:=hx;exact Ec d hx a
   .rw[u0 λx b e=>hx ⟨x,b,e⟩] at h;cases (congrArg Prod.snd h:(3:Int)=0)
 | succ n l =>
   intro id acc c h f a;by_cases hx:∃x∈ls,x.1=id
   .obtain⟨x,hx,rfl⟩:=hx;rw[lQ d hx] at h⊢;by_cases g:x.2.1=[]
    .rw[aV g] at h;have:=congrArg (λz=>List.length z.1) h;simp only[gI,Oi] at this;omega
    .rw[aX g] at h⊢;obtain⟨i,m,_⟩:=FJ d (n+1) x.2.1 (acc++[x]) (by rw[h]);have j:acc++c=acc++[x]++i:=by rw[<-m,h]
     rw[kP] at j;have k:=List.append_cancel_left j;refine l x.2.1 (acc++[x]) i ?_ (by rw[k] at f;simpa using f) _;rw[h,k];simp
   .rw[u0 λx b e=>hx ⟨x,b,e⟩] at h;cases (congrArg Prod.snd h:(3:Int)=0)
def Am(ls:List ax)(a:List Tx)(p:Tx):List Nd:=if p=[] then [] else(cS ls a p).1
theorem Va{a f:List ax}{h j:List Tx}{x:ax}{d:Tx}(u:a.length=h.length)(G:CA (·.1) (a++f))(g:CA (·.1) (a++[x]++f))(O:Ai (a++f) (h++j))
  (i:∀y∈a++f,y.1≠x.1) (v:x.2.1=[]\/(cS (a++f) (h++j) x.2.1).2=0) :
  let t:=cS (a++[x]++f) (h++[d]++j) x.1
  let r:=fJ (Am (a++f) (h++j) x.2.1) d
  t=r\/t=([],5):=by
 intro t r;have hlen:(h++j).length=(a++f).length:=O.same;have m:(h++[d]++j).length=(a++[x]++f).length:=by
  simp only[gI,Oi] at hlen⊢;omega
 have w:∀(y:ax) (e:Tx),y.1≠x.1->(U8 (a++[x]++f) (h++[d]++j) y e↔U8 (a++f) (h++j) y e):=λy e k=>by
  rw[Ed u];constructor
  .rintro(q|q)
   .exact absurd (congrArg (·.1) q.1) k
   .exact q
  .exact .inr
 have H:∀y∈a++f,y.2.1=[]\/y.2.1≠x.1:=λy k=>by
  rcases Oa G k (O.chain y k) with q|⟨z,F,q⟩
  .exact .inl q
  .exact .inr λe=>i z F (q.trans e)
 have n:x∈a++[x]++f:=by simp
 have A:qA (a++[x]++f) (h++[d]++j) x.1=d:=vO g ((Ed u).2<|.inl ⟨rfl,rfl⟩);have l:∀b:List Nd,Valid b->(if(fJ b d).2=0 then((fJ b d).1,(0:Int)) else([],(fJ b d).2))=fJ b d:=λb S=>by
  rcases uc S d with ⟨q,_,_⟩|⟨q,T⟩
  .rw[aV q];exact Iy rfl q.symm
  .rw[aX q];exact Iy T.symm rfl
 by_cases s:x.2.1=[]
 .left;have B:b7 (a++[x]++f) x.1=([x],0):=by
   unfold b7;rw[lQ g n,aV s];rfl
  show cS _ _ _=fJ (Am _ _ _) d
  unfold cS Am;rw[B,aV rfl,aV s];show pU [qA (a++[x]++f) (h++[d]++j) x.1] []=_
  rw[A,<-l [] A5];unfold pU;by_cases q:(fJ [] d).2=0
  .rw[aV q,aV q];rfl
  .rw[aX q,aX q]
 have I:=v.resolve_left s;obtain⟨o,J⟩:=KK I;obtain⟨y,k,K⟩:∃y∈a++f,y.1=x.2.1:=by
  apply ML;intro q;unfold b7 at o;rw[u0 λy k e=>q ⟨y,k,e⟩] at o;cases o
 have L:x.2.1≠x.1:=by rw[<-K];exact i y k
 obtain⟨M,V⟩:=Ob G g hlen m w H (.inl i) L;obtain⟨c,P,U⟩:=FJ g 16 x.2.1 [] (by have:=M;unfold b7 at this o;rw[this];exact o);have p:(b7 (a++f) x.2.1).1=c:=by rw[<-M];exact P
 have Q:c.length<=16:=by rw[<-p];exact ry.2
 by_cases N:c.length=16
 .right;have C:=abb g 15 x.2.1 [] c (by rw[sd];exact Iy P (by have:=M;unfold b7 at this o;rw[this];exact o)) N [x];have B:b7 (a++[x]++f) x.1=([],5):=by
   unfold b7;rw[lQ g n,aX s];exact C
  show cS _ _ _=_
  unfold cS;rw[B];rfl
 .left;have B:b7 (a++[x]++f) x.1=(x::c,0):=by
   unfold b7;rw[lQ g n,aX s,U 15 _ (by omega)];rfl
  show cS _ _ _=fJ (Am _ _ _) d
  have hv:=KL I;unfold Am;rw[aX s,<-l _ hv]
  conv=>lhs;unfold cS
  rw[B,aV rfl];rw[show(x::c,(0:Int)).1=x::c from rfl,List.reverse_cons,xE,List.map_singleton,A];have D:(c.reverse.map λz=>qA (a++[x]++f) (h++[d]++j) z.1)=(c.reverse.map λz=>qA (a++f) (h++j) z.1):=by
   apply Il;intro z F;rw[Qr] at F;have E:z∈a++f:=(ry (ls:=a++f) (id:=x.2.1)).1 z (by rw[p];exact F);obtain⟨e,R⟩:=Ee hlen E;rw[vO G R,vO g ((w z e<|i z E).2 R)]
  rw[p] at J;rw[D,N0 _ d [] (cS (a++f) (h++j) x.2.1).1 (Iy (by rw[J])<|by rw[<-J];exact I)]
instance (s:Tx):Decidable (Ah s):=by unfold Ah;infer_instance
def Vb(s:bJ)(p:Tx):List Nd×Int:=if p=[] then([],0) else cS s.2.2.1 s.2.2.2.1 p
theorem Yx{s:bJ}{p:Tx}(h:(Vb s p).2=0):Valid (Vb s p).1:=by
 unfold Vb at h⊢;by_cases q:p=[]
 .rw[aV q];exact A5
 .rw[aX q] at h⊢;exact KL h
def aex(d:Tx):Tx:=if d=[] then nx 1024 else d
def afR(id a:Tx)(b:List Tx)(d:Tx):ax:=(id,a,b,rq<|aex d,((aex d).length:Int),0,true,())
theorem acR{s:bJ}(h:Wp s)(x:ax)(d:Tx):aa8 s x d=mC s x d:=by
 unfold aa8 mC;rw[Wt h.lays.same]
structure akZ (s:bJ) (on:Tx) (given:List Tx) (df:Tx) (r:bJ×afP×ah):Prop where
 id:J3 r.2.1.2.1
 new:∀y∈s.2.2.1,y.1≠r.2.1.2.1
 nms:∀y∈s.2.2.1,∀n∈y.2.2.1,n∉given
 par:aba s on=[]\/∃y∈s.2.2.1,y.1=aba s on
 find:on≠[]->(adv (nmL s) on).2.1=0
 app:df≠[]->(fJ (Vb s<|aba s on).1 df).2=0
 val:r=(mC s (afR r.2.1.2.1 (aba s on) given df)<|aex df,afQ r.2.1.2.1,())
 okl:OkL (afR r.2.1.2.1 (aba s on) given df)
def acS(s:bJ)(id:Tx):bJ:=match A2 s.2.2.1 id with
 | none=>Yw (s.1,s.2.1,s.2.2.1,Ak s.2.2.1.length s.2.2.2.1,s.2.2.2.2) id 0
 | some i=>Yw (s.1,s.2.1,cutAt s.2.2.1 i,cutAt (Ak s.2.2.1.length s.2.2.2.1) i,s.2.2.2.2) id 0
theorem Me(s:bJ)(id:Tx)(d:s.2.2.1.length<=100000)(a:s.2.2.2.2.1.length<=50000):jf (s,id,())=some (acS s id,()):=by
 unfold jf acS;dsimp only;rw[ixL (f:=uL (s,id,())) s.2.2.1 id (by omega)<|λc i=>rfl,aa,FK s (by omega),aa];unfold zb;cases h:A2 s.2.2.1 id with
 | none =>
   dsimp only;unfold gS fC;dsimp only;rw[aJ<|by omega,ab,aa,ab,aa];exact ob (GC (s.1,s.2.1,s.2.2.1,Ak s.2.2.1.length s.2.2.2.1,s.2.2.2.2) id 0 a) rfl
 | some i =>
   obtain⟨x,b,_⟩:=yh h;have hi:=aD b;have e:=Ef s.2.2.1.length s.2.2.2.1;dsimp only;unfold gS fC ek cZ;dsimp only;rw[aA<|by omega,af,af,show @len ao=@len Tx from rfl,lO (by omega),ab,Ws _ i (by omega) (by omega),aa,aa,lO (by omega),ab,Ws _ i (by omega) (by omega),aa,aa];exact ob (GC (s.1,s.2.1,cutAt s.2.2.1 i,cutAt (Ak s.2.2.1.length s.2.2.2.1) i,s.2.2.2.2) id 0 a) rfl
theorem Vc(s:bJ)(id:Tx):yM (s,id,())=kB (s.2.2.1,id,()):=rfl
theorem Wv{a:Type}(A B:List a)(x y:a):(A++x::B).set A.length y=A++y::B:=by
 rw[List.set_append];simp
theorem abc:∀(k:Nat) (A M B:List ax),M.length<=k->A.length+M.length+B.length<=1000000 ->
  ∃q,Loop eA (((A.length:Int),(A.length:Int)+(M.length:Int)-1,(),()),A++M++B,())=some (q,A++M.reverse++B,()):=by
 intro k;induction k with
 | zero =>
   intro A M B e f;obtain rfl:M=[]:=vU.1 (by omega);apply Exists.intro;rw[aI,show eA (((A.length:Int),(A.length:Int)+(([]:List ax).length:Int)-1,(),()),A++[]++B,())=some (.inr (((A.length:Int),(A.length:Int)+(([]:List ax).length:Int)-1,(),()),A++[]++B,())) from by
    unfold eA;dsimp only;rw[aA<|by simp only[eG];omega,af];rfl]
   rfl
 | succ k g =>
   intro A M B e f;by_cases c:M.length<=1
   .have h:M.reverse=M:=by
     match M,c with
     | [],_=>rfl
     | [a],_=>rfl
    rw[h];apply Exists.intro;rw[aI,show eA (((A.length:Int),(A.length:Int)+(M.length:Int)-1,(),()),A++M++B,())=some (.inr (((A.length:Int),(A.length:Int)+(M.length:Int)-1,(),()),A++M++B,())) from by
     unfold eA;dsimp only;rw[aA<|by omega,af];rfl]
    rfl
   .obtain⟨x,N,y,rfl⟩:∃x N y,M=x::(N++[y]):=by
     cases M with
     | nil=>simp at c
     | cons x t =>
       have i:t≠[]:=by rintro rfl;simp at c
       exact⟨x,t.dropLast,t.getLast i,by rw[List.dropLast_concat_getLast]⟩
    have j:(A.length:Int)+((x::(N++[y])).length:Int)-1=((A.length+N.length+1:Nat):Int):=by simp;omega
    have hlen:(x::(N++[y])).length=N.length+2:=by simp
    rw[hlen] at f e;rw[j];obtain⟨q,l⟩:=g (A++[y]) N (x::B) (by omega) (by simp;omega);refine⟨q,?_⟩;have m:A++x::(N++[y])++B=A++x::(N++y::B):=by simp
    have n:(A++x::(N++y::B)).length=A.length+N.length+B.length+2:=by simp;omega
    have o:(A++x::(N++y::B))[A.length]?=some x:=by simp
    have p:(A++x::(N++y::B))[A.length+N.length+1]?=some y:=by
     rw[Ik<|by omega,show A.length+N.length+1-A.length=N.length+1 by omega,Qj];simp
    have s1:(A++x::(N++y::B)).set A.length y=A++y::(N++y::B):=Wv A _ x y;have d:A++y::(N++y::B)=(A++y::N)++y::B:=by simp
    have r:(A++y::(N++y::B))[A.length+N.length+1]?=some y:=by
     rw[Ik<|by omega,show A.length+N.length+1-A.length=N.length+1 by omega,Qj];simp
    have s2:(A++y::(N++y::B)).set (A.length+N.length+1) x=(A++[y])++N++(x::B):=by
     rw[d,show A.length+N.length+1=(A++y::N).length by simp;omega,Wv];simp
    have b:eA (((A.length:Int),((A.length+N.length+1:Nat):Int),(),()),(A++x::(N++y::B),())) =
      some (.inl ((((A++[y]).length:Int),((A++[y]).length:Int)+(N.length:Int)-1,(),()),(A++[y])++N++(x::B),())):=by
     unfold eA;dsimp only;rw[aJ<|by omega,ab,aU (by omega) (by unfold len;omega),ab,ar p,aa,aU (by omega) (by unfold len;omega),ab,ar o,aa,ab,aa,aa,aa,
      gD,s1,aU (by omega) (by unfold len;simp;omega),ab,ar r,aa,aa,aa,gD,s2,aK (by omega),dx (by omega) (by omega)]
     rw[show((A.length+N.length+1:Nat):Int)-1=((A++[y]).length:Int)+(N.length:Int)-1 by simp;omega,show((A.length+1:Nat):Int)=((A++[y]).length:Int) by simp];rfl
    rw[m,aI,b];show Loop _ _=_
    rw[l];simp
theorem yl(s:bJ)(id:Tx)(e:s.2.2.1.length<=100000)(d:∀x∈s.2.2.1,x.2.2.1.length<=4294967296):eB (s,id,())=some ((cS s.2.2.1 s.2.2.2.1 id).1,(cS s.2.2.1 s.2.2.2.1 id).2,()):=by
 unfold eB cS;obtain⟨p,r,t,h⟩:=SN s.2.2.1 id (by omega) d 16 id [] rfl;rw[<-Vc] at h;refine ob h ?_;unfold b7;by_cases c:(yV s.2.2.1 16 id []).2=0
 rotate_left
 .rw[aX c,aX c];dsimp only;rw[show du 0 0=true from rfl,ab,aN c,az,ab]
 rw[aV c,aV c];have b:(yV s.2.2.1 16 id []).1.length<=16:=(ry (ls:=s.2.2.1) (id:=id)).2;generalize (yV s.2.2.1 16 id []).1=L at b⊢;dsimp only;rw[show du 1 0=false from rfl,af];obtain⟨q,g⟩:=abc L.length [] L [] (bZ _) (by simp;omega);rw[show cd IntKind.i64 (@len ax L) 1=(([]:List ax).length:Int)+(L.length:Int)-1 from by rw[dx (by unfold len;omega)<|by unfold len;omega];unfold len;simp];refine ob (show Loop eA (((0:Int),(([]:List ax).length:Int)+(L.length:Int)-1,(),()),L,())=some (q,L.reverse,()) from by simpa using g) ?_;have k:=RO (f:=oY (s,id,()) (q,L.reverse,())) L.reverse (λ(ds:List Tx) (i:Int)=>(((),i,()),ds,())) (λx=>[qA s.2.2.1 s.2.2.2.1 x.1]) (((),(L.reverse.length:Int),()),L.reverse.flatMap<|λx=>[qA s.2.2.1 s.2.2.2.1 x.1],()) (by rw[MQ];omega)
  (λi x l m a=>by
   unfold oY;dsimp only;have n:((L.reverse.take i).flatMap λx:ax=>[qA s.2.2.1 s.2.2.2.1 x.1]).length<=16:=by
    rw[<-List.map_eq_flatMap,sR,fT,MQ];omega
   have hd:(wv s x.1).2.1=qA s.2.2.1 s.2.2.2.1 x.1:=by
    unfold wv qA;cases h:A2 s.2.2.1 x.1 with
    | none=>rfl
    | some j =>
      obtain⟨z,o,_⟩:=yh h;dsimp only;rw[o]
   rw[aq m,ab,ar l,aa];refine(congrArg dK<|ob (Al s x.1 e d) rfl).trans ?_;rw[hd,bP (by simp only[Oi];omega),ab,a];rfl)
  (by
   unfold oY;dsimp only;rw[aC,af];rfl)
 refine ob k ?_;dsimp only;rw[show(L.reverse.flatMap λx:ax=>[qA s.2.2.1 s.2.2.2.1 x.1])=L.reverse.map (λx:ax=>qA s.2.2.1 s.2.2.2.1 x.1) from(List.map_eq_flatMap).symm];refine ob (acG _<|by rw[sR,MQ];omega) ?_;rfl
set_option maxRecDepth 100000
theorem aaJ.hd{s:bJ}(h:aaJ s):HdS s:=⟨h.base.ll,h.base.il,h.base.bl,h.base.ln,h.base.qL,h.base.bn,λx a=>(h.base.im x a).2⟩
structure ak0 (s:bJ):Prop where
 bl:s.1.length<=1000000
 il:s.2.1.length<=1000000
 ll:s.2.2.1.length<=1000000
 dl:s.2.2.2.1.length<=1000000
 ml:s.2.2.2.2.1.length<=1000000
 xb:∀x∈s.1,vg x.2.1/\D5 x.2.2.2.2.2.1
 xi:∀x∈s.2.1,vg x.2.1/\D5 x.2.2.2.2.1
 xl:∀x∈s.2.2.1,vg x.2.2.1
def e0:bJ:=([],[],[],[],[],())
def e5:Tx:=[48,48,48,48,48,53]
def e6:Tx:=[48,48,48,48,48,54]
def eb:Tx:=[98,97,115,101]
def L5(D:Tx):ax:=(e5,[],[eb],D,1024,0,true,())
def L6(D:Tx):ax:=(e6,e5,[],D,1024,0,true,())
def s1(D N:Tx):bJ:=([],[],[L5 D],[N],[],())
def s2(D N:Tx):bJ:=([],[],[L5 D,L6 D],[N,N],[],())
def s3(D N:Tx):bJ:=([],[],[L5 D,L6 D],[N,N],[(e6,1,())],())
end Go.Ge
namespace Go.Ge
variable [Lp]
theorem SO{s:bJ}(b:Wp s){x:ax}(a:∀y∈s.2.2.1,y.1≠x.1):A2 (qB (λy:ax=>y.1) s.2.2.1 x) x.1=some (cK (λy:ax=>y.1) s.2.2.1 x.1):=by
 have c:=PR (λy:ax=>y.1) b.upL a;refine Ii c ?_;rw[Wu];unfold qC;have d:=ud (λy:ax=>y.1) s.2.2.1 x.1;rw[kP,Ik (by rw[fT];omega),fT,pc d,VB];rfl
theorem abd{s:bJ}(e:Wp s){x:ax}{d:Tx}(a:∀y∈s.2.2.1,y.1≠x.1)(b:x.2.1=[]\/(cS s.2.2.1 s.2.2.2.1 x.2.1).2=0) :
  cS (mC s x d).2.2.1 (mC s x d).2.2.2.1 x.1=fJ (Am s.2.2.1 s.2.2.2.1 x.2.1) d\/cS (mC s x d).2.2.1 (mC s x d).2.2.2.1 x.1=([],5):=by
 obtain⟨m,n,o,p,k,f,h,_,i,l⟩:=Aj s.2.2.1 s.2.2.2.1 x d e.lays.same;have g:=e.upL;have c:=PR (λy:ax=>y.1) g a;show cS (qB (λy:ax=>y.1) s.2.2.1 x) (qC s.2.2.2.1 (cK (λy:ax=>y.1) s.2.2.1 x.1) d) x.1=_\/cS (qB (λy:ax=>y.1) s.2.2.1 x) (qC s.2.2.2.1 (cK (λy:ax=>y.1) s.2.2.1 x.1) d) x.1=_
 rw[i] at c;rw[i,l];have j:=e.lays;rw[f,h] at j b;rw[f] at g a;rw[f,h];exact Va k g c j a b
theorem Yy(s:bJ)(p:Tx):Am s.2.2.1 s.2.2.2.1 p=(Vb s p).1:=by
 unfold Am Vb;by_cases h:p=[]
 .rw[aV h,aV h]
 .rw[aX h,aX h]
theorem Yz{l:List Nd}(h:Valid l):l.length<=4294967296:=by
 have:=h.1;omega
theorem GD{a:Type}(p r:List a)(x:a)(k:Nat)(b:p.length=k):cutAt (p++[x]++r) k=p++r:=by
 subst b;unfold cutAt;rw[kP,CK rfl,<-kP,CI (by simp)]
theorem abe{s:bJ}(e:Wp s){x:ax}{d:Tx}(a:∀y∈s.2.2.1,y.1≠x.1):acS (mC s x d) x.1=s:=by
 obtain⟨l,n,o,p,q,g,h,i,j,k⟩:=Aj s.2.2.1 s.2.2.2.1 x d e.lays.same;have f:∀m∈s.2.2.2.2.1,m.1≠x.1:=λm f=>by
  obtain⟨⟨y,r,t⟩,_⟩:=e.mts m f;rw[<-t];exact a y r
 have b:A2 (mC s x d).2.2.1 x.1=some (cK (λy:ax=>y.1) s.2.2.1 x.1):=SO e a;have c:Ak (mC s x d).2.2.1.length (mC s x d).2.2.2.1=(mC s x d).2.2.2.1:=Wt (by
  show(qC s.2.2.2.1 _ d).length=(qB (λy:ax=>y.1) s.2.2.1 x).length
  rw[j,k];have:=e.lays.same;rw[g,h] at this;simp only[gI,Oi] at this⊢;omega)
 unfold acS;rw[b,c];show Yw (s.1,s.2.1,cutAt (qB (λy:ax=>y.1) s.2.2.1 x)<|cK (λy:ax=>y.1) s.2.2.1 x.1,cutAt (qC s.2.2.2.1 (cK (λy:ax=>y.1) s.2.2.1 x.1) d)<|cK (λy:ax=>y.1) s.2.2.1 x.1,s.2.2.2.2) x.1 0=s
 rw[j,k,GD l n x _ i,GD o p d _ (by rw[<-q];exact i),<-g,<-h];unfold Yw;show(s.1,s.2.1,s.2.2.1,s.2.2.2.1,(if(0:Int)<0 then _ else YJ (λy:fI=>y.1) s.2.2.2.2.1 x.1),s.2.2.2.2.2)=s
 rw[aX<|by omega,SI (λy:fI=>y.1) f]
theorem Vd{s:bJ}(b:Wp s){x:ax}{d:Tx}(a:∀y∈s.2.2.1,y.1≠x.1):wv (mC s x d) x.1=(x,d,true,()):=by
 have c:=ud (λy:ax=>y.1) s.2.2.1 x.1;unfold wv;rw[show A2 (mC s x d).2.2.1 x.1=some (cK (λy:ax=>y.1) s.2.2.1 x.1) from SO b a];dsimp only;have e:(mC s x d).2.2.1[cK (λy:ax=>y.1) s.2.2.1 x.1]?=some x:=by
  show(qB (λy:ax=>y.1) s.2.2.1 x)[cK (λy:ax=>y.1) s.2.2.1 x.1]?=some x
  rw[Wu];unfold qC;rw[kP,Ik (by rw[fT];omega),fT,pc c,VB];rfl
 have f:(mC s x d).2.2.2.1[cK (λy:ax=>y.1) s.2.2.1 x.1]?=some d:=by
  show(qC s.2.2.2.1 (cK (λy:ax=>y.1) s.2.2.1 x.1) d)[cK (λy:ax=>y.1) s.2.2.1 x.1]?=some d
  have g:=b.lays.same;unfold qC;rw[kP,Ik (by rw[fT];omega),fT,pc (by omega),VB];rfl
 rw[e,f];rfl
set_option maxHeartbeats 1000000 in
theorem PU(F:gZ ()=some (true,()))(s:bJ)(x:ax)(a:Tx)(G:BkS s)(n:x.2.2.1.length<=4294967296):jC (s,x,a,())=some (true,()):=by
 obtain⟨bf,H,I⟩:=XR s;unfold jC;dsimp only;rw[H,aa];simp only[F,aa];cases bf with
 | false =>
   rw[show(aj (nt<|aj (nt<|aj (nt<|aj (nt<|nt false) (ba (100:Int)<|@len UInt8 x.1) true) (ba (100:Int)<|@len UInt8 x.2.1) true) (ba (8192:Int)<|@len UInt8 a) true) (ae (sz (s,())) λJ=>some (nt J.1))<|some true)=some true from rfl,aa,ab]
 | true =>
 have C:=I rfl;have v:=C.bd G;obtain⟨B,K,L⟩:=Yu s v;rw[K,aa];generalize M:aj (nt<|aj (nt<|aj (nt<|aj (nt<|nt true) (ba (100:Int)<|@len UInt8 x.1) true) (ba (100:Int)<|@len UInt8 x.2.1) true) (ba (8192:Int)<|@len UInt8 a) true) (some<|nt B) (some true)=N;obtain⟨b,rfl,O⟩:∃b,N=some b/\(b=false->B=true):=by
  revert M
  cases ba (100:Int) (@len UInt8 x.1)<;>cases ba (100:Int) (@len UInt8 x.2.1)<;>cases ba (8192:Int) (@len UInt8 a)<;>cases B<;>(rintro rfl;exact⟨_,rfl,by simp[nt,aj]⟩)
 rw[aa];cases b with
 | true=>rw[ab]
 | false =>
 rw[af];have o:Wp s:=L.1 (O rfl);have P:=v.ll;have g:∀y∈s.2.2.1,y.2.2.1.length<=4294967296:=λy f=>(v.hd.ln y f).small;rw[Al s x.1 (by omega) g,aa];by_cases hx:∃y∈s.2.2.1,y.1=x.1
 .obtain⟨j,D⟩:=Ih.2 hx;obtain⟨z,Q,_⟩:=yh D;have:(wv s x.1).2.2.1=true:=by
   unfold wv;rw[D];dsimp only;rw[Q]
  rw[this,ab]
 have c:∀y∈s.2.2.1,y.1≠x.1:=λy f e=>hx ⟨y,f,e⟩;have p:A2 s.2.2.1 x.1=none:=Ag λi y f=>cU (c y<|eF f);rw[show(wv s x.1).2.2.1=false from by unfold wv;rw[p],af];rw[aa9 s x a<|by omega,aa,acR o];have R:(mC s x a).2.2.1.length<=41:=by
  show(qB (λy:ax=>y.1) s.2.2.1 x).length<=41
  rw[KG];omega
 have r:∀y∈(mC s x a).2.2.1,y.2.2.1.length<=4294967296:=λy f=>by
  rcases(KF _).1 f with rfl|f
  .exact n
  .exact g y f
 dsimp only;rw[Al (mC s x a) x.1 (by omega) r,aa,Vd o c];dsimp only;rw[aE,af,jo,aE,af];rw[GB [x] (by simp) (λy f=>by obtain rfl:=EF.1 f;exact n),aa];rw[aE,af];have S:=o.aeq;rw[Me (mC s x a) x.1 (by omega)<|by show s.2.2.2.2.1.length<=50000;omega,aa,abe o c];rw[SL s v (by have:=C.afE;omega),aa,aE,af];have T:=yl s x.2.1 (by omega) g;have t:(aj (nt<|bw x.2.1 ([]:ao)) (ae (eB (s,x.2.1,())) λE=>aj (nt<|aZ E.2.1 (0:Int)) (some ((1:Nat),(true,([]:List Nd),()),())) (some ((0:Nat),(false,E.1,()),())))<|some ((0:Nat),(false,([]:List Nd),()),())) =
   (if(Vb s x.2.1).2=0 then some ((0:Nat),(false,(Vb s x.2.1).1,()),()) else some ((1:Nat),(true,([]:List Nd),()),())):=by
  by_cases h:x.2.1=[]
  .rw[cv h,aE,af];unfold Vb;rw[aV h,aV rfl]
  .rw[bq h,az,ab,T,aa];dsimp only;have k:Vb s x.2.1=cS s.2.2.1 s.2.2.2.1 x.2.1:=aX h;rw[k];by_cases q:(cS s.2.2.1 s.2.2.2.1 x.2.1).2=0
   .rw[aV q,aT q,aE,af]
   .rw[aX q,aN q,az,ab]
 rw[t];by_cases w:(Vb s x.2.1).2=0
 rotate_left
 .rw[aX w,aa];rfl
 rw[aV w,aa];dsimp only;rw[show du 0 0=true from rfl,ab];have l:=Yx w;have u:x.2.1=[]\/(cS s.2.2.1 s.2.2.2.1 x.2.1).2=0:=by
  by_cases h:x.2.1=[]
  .exact .inl h
  .right;have k:Vb s x.2.1=cS s.2.2.1 s.2.2.2.1 x.2.1:=aX h;rw[<-k];exact w
 rw[yl (mC s x a) x.1 (by omega) r,aa];dsimp only;rw[KB l a,aa];dsimp only;have m:=abd o (d:=a) c u;rw[Yy] at m;have hlen:(fJ (Vb s x.2.1).1 a).1.length<=4294967296:=by
  rcases uc l a with ⟨_,h,_⟩|⟨_,h⟩
  .exact Yz h
  .rw[h];simp
 rcases m with m|m
 .rw[m];rw[gx,ab,BF _ hlen,aa,aa,aE,af,ab,aa]
 .rw[m];dsimp only;by_cases A:(fJ (Vb s x.2.1).1 a).2=5
  .have U:(fJ (Vb s x.2.1).1 a).1=[]:=by
    rcases uc l a with ⟨h,_⟩|⟨_,h⟩
    .rw[h] at A;cases A
    .exact h
   rw[aT A.symm,ab,U,BF _ (by simp),aa,aa,aE,af,ab,aa]
  .rw[aN<|λe=>A e.symm,af,aa,az,ab,gx,ab];rfl
def j1:Tx:=[48,48,48,48,48,49]
def j2:Tx:=[48,48,48,48,48,50]
def K1(D:Tx):ax:=(j1,[],[],D,1024,0,true,())
def K2(D:Tx):ax:=(j2,j1,[],D,1024,0,true,())
def sA(D N:Tx):bJ:=([],[],[K2 D],[N],[],())
def sB(D N:Tx):bJ:=([],[],[K1 D,K2 D],[N,N],[],())
def sC(D N:Tx):bJ:=([],[],[K1 D,K2 D],[N,N],[(j2,3,())],())
def sD(D N:Tx):bJ:=([],[],[K1 D],[N],[],())
theorem aey{D:Tx}(a:cQ (D,())=some (0,())):ij (K1 D,())=some (true,()):=by
 unfold ij;refine ob (x:=(true,())) (by obtain rfl:‹Lp›=Lp.mg:=Lp.one _ _;kernel_rfl) (ob (x:=true) (by obtain rfl:‹Lp›=Lp.mg:=Lp.one _ _;kernel_rfl)<|ob (x:=true) (by obtain rfl:‹Lp›=Lp.mg:=Lp.one _ _;kernel_rfl)<|ob (x:=true) ?_ ?_)
 .show ae (cQ (D,())) _=_
  rw[a];rfl
 .obtain rfl:‹Lp›=Lp.mg:=Lp.one _ _;kernel_rfl
theorem abf{D:Tx}(a:cQ (D,())=some (0,())):ij (K2 D,())=some (true,()):=by
 unfold ij;refine ob (x:=(true,())) (by obtain rfl:‹Lp›=Lp.mg:=Lp.one _ _;kernel_rfl) (ob (x:=true) (by obtain rfl:‹Lp›=Lp.mg:=Lp.one _ _;kernel_rfl)<|ob (x:=true) (by obtain rfl:‹Lp›=Lp.mg:=Lp.one _ _;kernel_rfl)<|ob (x:=true) ?_ ?_)
 .show ae (cQ (D,())) _=_
  rw[a];rfl
 .obtain rfl:‹Lp›=Lp.mg:=Lp.one _ _;kernel_rfl
theorem aih{D:Tx}(a:cQ (D,())=some (0,())):et ((3:Int),((0:Int),[K2 D],[],[],()),())=some (0,()):=by
 have b:=abf a;have c:Loop (dI ((3:Int),((0:Int),[K2 D],[],[],()),())) (((0:Int),(0:Int),()),(),())=some (0,((0:Int),(1:Int),()),(),()):=by
  rw[aI];have s0:dI ((3:Int),((0:Int),[K2 D],[],[],()),()) (((0:Int),(0:Int),()),(),())=some (.inl (((0:Int),(1:Int),()),(),())):=by
   unfold dI;refine(show aj true _ _=_ from ?_);rw[ab];refine ob (x:=K2 D) rfl ?_;refine ob b ?_;rfl
  rw[s0];show Loop _ _=_
  rw[aI];rfl
 unfold et;refine ob (x:=(true,())) (by obtain rfl:‹Lp›=Lp.mg:=Lp.one _ _;kernel_rfl) (ob (x:=false) (by obtain rfl:‹Lp›=Lp.mg:=Lp.one _ _;kernel_rfl)<|ob (x:=false) (by obtain rfl:‹Lp›=Lp.mg:=Lp.one _ _;kernel_rfl) ?_);refine(show aj false _ _=_ from ?_);rw[af];refine ob (x:=(0,((0:Int),(4:Int),()),())) (by obtain rfl:‹Lp›=Lp.mg:=Lp.one _ _;kernel_rfl) ?_;refine(show aj true _ _=_ from ?_);rw[ab];refine ob (x:=((true,()),())) (ob (x:=(((-1:Int),()),(),())) (ob c rfl) rfl) ?_;obtain rfl:‹Lp›=Lp.mg:=Lp.one _ _;kernel_rfl
theorem aii{D:Tx}(a:cQ (D,())=some (0,())):et ((3:Int),((0:Int),[K1 D,K2 D],[],[],()),())=some (0,()):=by
 have b:=aey a;have c:=abf a;have d:Loop (dI ((3:Int),((0:Int),[K1 D,K2 D],[],[],()),())) (((0:Int),(0:Int),()),(),())=some (0,((0:Int),(2:Int),()),(),()):=by
  rw[aI];have s0:dI ((3:Int),((0:Int),[K1 D,K2 D],[],[],()),()) (((0:Int),(0:Int),()),(),())=some (.inl (((0:Int),(1:Int),()),(),())):=by
   unfold dI;refine(show aj true _ _=_ from ?_);rw[ab];refine ob (x:=K1 D) rfl ?_;refine ob b ?_;rfl
  have s1:dI ((3:Int),((0:Int),[K1 D,K2 D],[],[],()),()) (((0:Int),(1:Int),()),(),())=some (.inl (((0:Int),(2:Int),()),(),())):=by
   unfold dI;refine(show aj true _ _=_ from ?_);rw[ab];refine ob (x:=K2 D) rfl ?_;refine ob c ?_;rfl
  rw[s0];show Loop _ _=_
  rw[aI,s1];show Loop _ _=_
  rw[aI];rfl
 unfold et;refine ob (x:=(true,())) (by obtain rfl:‹Lp›=Lp.mg:=Lp.one _ _;kernel_rfl) (ob (x:=false) (by obtain rfl:‹Lp›=Lp.mg:=Lp.one _ _;kernel_rfl)<|ob (x:=false) (by obtain rfl:‹Lp›=Lp.mg:=Lp.one _ _;kernel_rfl) ?_);refine(show aj false _ _=_ from ?_);rw[af];refine ob (x:=(0,((0:Int),(4:Int),()),())) (by obtain rfl:‹Lp›=Lp.mg:=Lp.one _ _;kernel_rfl) ?_;refine(show aj true _ _=_ from ?_);rw[ab];refine ob (x:=((true,()),())) (ob (x:=(((-1:Int),()),(),())) (ob d rfl) rfl) ?_;obtain rfl:‹Lp›=Lp.mg:=Lp.one _ _;kernel_rfl
theorem adz:et ((1:Int),((0:Int),([]:List ax),([]:List nu),([]:List zK),()),())=some (0,()):=by
 obtain rfl:‹Lp›=Lp.mg:=Lp.one _ _;kernel_rfl
theorem abg:et ((2:Int),((0:Int),([]:List ax),([]:List nu),([]:List zK),()),())=some (0,()):=by
 obtain rfl:‹Lp›=Lp.mg:=Lp.one _ _;kernel_rfl
theorem aij(D N:Tx):fi (sA D N,())=some (false,()):=by
 obtain rfl:‹Lp›=Lp.mg:=Lp.one _ _;kernel_rfl
theorem aez{D:Tx}(N:Tx)(a:cQ (D,())=some (0,())):jR (sA D N,())=some (1,()):=by
 unfold jR;refine ob adz (ob abg<|ob (aih a) ?_);refine ob (x:=true) ?_ ?_
 .show ae (fi (sA D N,())) _=_
  rw[aij];rfl
 .rfl
theorem Oc{D:Tx}{id:Tx}{c:List ax}(a:b7 [K1 D,K2 D] id=(c,0))(b:(c.reverse.map λx=>qA [K1 D,K2 D] [nx 1024,nx 1024] x.1)=List.replicate c.length (nx 1024)):cS [K1 D,K2 D] [nx 1024,nx 1024] id=([],0):=by
 unfold cS;rw[a,aV rfl];show pU (c.reverse.map λx=>qA [K1 D,K2 D] [nx 1024,nx 1024] x.1) []=_
 rw[b];generalize c.length=n;induction n with
 | zero=>rfl
 | succ n d =>
   rw[YY];unfold pU;rw[acN A5,aV rfl];exact d
theorem afS(D:Tx):cS [K1 D,K2 D] [nx 1024,nx 1024] j1=([],0):=Oc (c:=[K1 D]) (by rfl) (by rfl)
theorem afT(D:Tx):cS [K1 D,K2 D] [nx 1024,nx 1024] j2=([],0):=Oc (c:=[K2 D,K1 D]) (by rfl) (by rfl)
theorem abh(D N:Tx):∀x∈(sC D N).2.2.1,x.2.2.1.length<=4294967296:=λx a=>by
 rcases gd.1 a with rfl|a
 .exact mK _
 .obtain rfl:=EF.1 a;exact mK _
theorem acT(D:Tx):eB (sC D<|nx 1024,j1,())=some ([],0,()):=by
 rw[yl _ _ (by show 2<=100000;decide)<|abh D _];show some ((cS [K1 D,K2 D] [nx 1024,nx 1024] j1).1,(cS [K1 D,K2 D] [nx 1024,nx 1024] j1).2,())=_
 rw[afS]
theorem Ww(D:Tx):eB (sC D<|nx 1024,j2,())=some ([],0,()):=by
 rw[yl _ _ (by show 2<=100000;decide)<|abh D _];show some ((cS [K1 D,K2 D] [nx 1024,nx 1024] j2).1,(cS [K1 D,K2 D] [nx 1024,nx 1024] j2).2,())=_
 rw[afT]
theorem SP{D N:Tx}{k:Int}{x:ax}(a:idx (sC D N).2.2.1 k=some x)(b:idx (sC D N).2.2.2.1 k=some N)(c:x.2.2.2=(D,1024,0,true,()))(d:len N=1024)(e:kJ (D,N,())=some (true,()))(f:gw (N,())=some (0,()))
  (g:eB (sC D N,x.1,())=some ([],0,())):eW (sC D N,k,())=some (true,()):=by
 unfold eW;refine ob a (ob b ?_);rw[c,d];refine ob (x:=false) ?_ ?_
 .show ae (kJ (D,N,())) _=_
  rw[e];rfl
 refine ob (x:=false) ?_ ?_
 .show ae (gw (N,())) _=_
  rw[f];rfl
 show ae (eB (sC D N,x.1,())) _=_
 rw[g];rfl
theorem aik{D N:Tx}(a:eW (sC D N,(0:Int),())=some (true,()))(b:eW (sC D N,(1:Int),())=some (true,())):fi (sC D N,())=some (true,()):=by
 have c:Loop (eK (sC D N,())) ((false,(0:Int),()),())=some (0,(false,(2:Int),()),()):=by
  have s0:eK (sC D N,()) ((false,(0:Int),()),())=some (.inl ((false,(1:Int),()),())):=by
   unfold eK;refine(show aj true _ _=_ from ?_);rw[ab];refine ob a ?_;rfl
  have s1:eK (sC D N,()) ((false,(1:Int),()),())=some (.inl ((false,(2:Int),()),())):=by
   unfold eK;refine(show aj true _ _=_ from ?_);rw[ab];refine ob b ?_;rfl
  rw[aI,s0];show Loop _ _=_
  rw[aI,s1];show Loop _ _=_
  rw[aI];rfl
 unfold fi;refine ob (x:=false) (by obtain rfl:‹Lp›=Lp.mg:=Lp.one _ _;kernel_rfl) ?_;rw[af];refine ob c ?_;rfl
theorem aeA{D N:Tx}(a:cQ (D,())=some (0,()))(b:eW (sC D N,(0:Int),())=some (true,()))(c:eW (sC D N,(1:Int),())=some (true,())):jR (sC D N,())=some (0,()):=by
 unfold jR;refine ob adz (ob abg<|ob (aii a) ?_);refine ob (x:=false) ?_ (ob (x:=false) ?_ ?_)
 .show ae (fi (sC D N,())) _=_
  rw[aik b c];rfl
 .obtain rfl:‹Lp›=Lp.mg:=Lp.one _ _;kernel_rfl
 .rfl
theorem abj{x:ax}(a:x.2.2.1=[]):jh (x,x,())=some (true,()):=by
 unfold jh;dsimp only;rw[a];simp only[jo,gx,ab];refine ob (x:=true) (ob (x:=(true,())) (by obtain rfl:‹Lp›=Lp.mg:=Lp.one _ _;kernel_rfl) rfl) ?_;rw[show WD x.2.2.2.2.2.2.1 x.2.2.2.2.2.2.1=true from by unfold WD;simp];simp only[ab]
theorem afU{D N:Tx}:n8 (sC D N,sC D N,())=some (true,()):=by
 have a:jh (K1 D,K1 D,())=some (true,()):=abj rfl;have b:jh (K2 D,K2 D,())=some (true,()):=abj rfl;have c:Loop (ji (sC D N,sC D N,())) ((false,(0:Int),()),())=some (0,(false,(2:Int),()),()):=by
  have s0:ji (sC D N,sC D N,()) ((false,(0:Int),()),())=some (.inl ((false,(1:Int),()),())):=by
   unfold ji;refine(show aj true _ _=_ from ?_);rw[ab];refine ob (x:=K1 D) rfl (ob (x:=K1 D) rfl (ob a ?_));rfl
  have s1:ji (sC D N,sC D N,()) ((false,(1:Int),()),())=some (.inl ((false,(2:Int),()),())):=by
   unfold ji;refine(show aj true _ _=_ from ?_);rw[ab];refine ob (x:=K2 D) rfl (ob (x:=K2 D) rfl (ob b ?_));rfl
  rw[aI,s0];show Loop _ _=_
  rw[aI,s1];show Loop _ _=_
  rw[aI];rfl
 have d:bt ([N,N],[N,N],())=some (true,()):=by
  rw[NL _ _ (by simp)<|by simp,eu rfl]
 unfold n8;refine ob (x:=((true,()),())) (by obtain rfl:‹Lp›=Lp.mg:=Lp.one _ _;kernel_rfl) (ob (x:=((true,()),())) (by obtain rfl:‹Lp›=Lp.mg:=Lp.one _ _;kernel_rfl)<|ob (x:=((true,()),())) ?_ ?_)
 .refine(show aj false _ _=_ from ?_);rw[af];refine ob c ?_;rfl
 refine ob (x:=true) ?_ (ob (x:=true) (by obtain rfl:‹Lp›=Lp.mg:=Lp.one _ _;kernel_rfl) rfl);show ae (bt ([N,N],[N,N],())) _=_
 rw[d];rfl
theorem ail{N:Tx}(a:len N=1024){D:Tx}(b:mY (N,())=some (D,())):jQ (j1,[],N,())=some (K1 D,()):=by
 unfold jQ;refine ob b ?_;rw[a];rfl
theorem aim{N:Tx}(a:len N=1024){D:Tx}(b:mY (N,())=some (D,())):jQ (j2,j1,N,())=some (K2 D,()):=by
 unfold jQ;refine ob b ?_;rw[a];rfl
theorem ain(D N:Tx):jB (([],[],[],[],[],()),K2 D,N,())=some (sA D N,()):=by
 obtain rfl:‹Lp›=Lp.mg:=Lp.one _ _;kernel_rfl
theorem aio(D N:Tx):jB (sA D N,K1 D,N,())=some (sB D N,()):=by
 obtain rfl:‹Lp›=Lp.mg:=Lp.one _ _;kernel_rfl
theorem awM(D N:Tx):ma (sB D N,j2,(3:Int),())=some (sC D N,()):=by
 obtain rfl:‹Lp›=Lp.mg:=Lp.one _ _;kernel_rfl
theorem awL(D N:Tx):fR (sC D N,j2,())=some (K2 D,N,true,()):=by
 obtain rfl:‹Lp›=Lp.mg:=Lp.one _ _;kernel_rfl
theorem awO(D N:Tx):jf (sC D N,j2,())=some (sD D N,()):=by
 obtain rfl:‹Lp›=Lp.mg:=Lp.one _ _;kernel_rfl
theorem aip(D N:Tx):qv (sC D N,j1,())=some (true,()):=by
 obtain rfl:‹Lp›=Lp.mg:=Lp.one _ _;kernel_rfl
theorem aiq(D N:Tx):qv (sD D N,j1,())=some (false,()):=by
 obtain rfl:‹Lp›=Lp.mg:=Lp.one _ _;kernel_rfl
theorem awN(D N:Tx):uK (sC D N,j2,())=some (3,()):=by
 obtain rfl:‹Lp›=Lp.mg:=Lp.one _ _;kernel_rfl
theorem awS(D N:Tx):n8 (sC D N,sD D N,())=some (false,()):=by
 obtain rfl:‹Lp›=Lp.mg:=Lp.one _ _;kernel_rfl
theorem Od:aY (gK (1024:Int) (0:Int))=nx 1024:=by kernel_rfl
theorem Ij:len (nx 1024)=1024:=by kernel_rfl
theorem acU:gZ ()=some (true,()):=by
 have hlen:(nx 1024).length<=1048576:=by rw[Cv];decide
 have d:=Ft (nx 1024) hlen;have e:kJ (rq<|nx 1024,nx 1024,())=some (true,()):=by rw[aei _ _ hlen,eu rfl]
 have f:cQ (rq<|nx 1024,())=some (0,()):=by rw[XI _<|by rw[Gs];decide,UB]
 have g:gw (nx 1024,())=some (0,()):=by rw[<-Od];exact aC2
 have h:eW (sC (rq<|nx 1024)<|nx 1024,(0:Int),())=some (true,()):=SP (x:=K1 (rq<|nx 1024)) rfl rfl rfl Ij e g (acT _);have i:eW (sC (rq<|nx 1024)<|nx 1024,(1:Int),())=some (true,()):=SP (x:=K2 (rq<|nx 1024)) rfl rfl rfl Ij e g (Ww _);have hC:=aeA f h i;have hA:=aez (nx 1024) f;have j:=Ww (rq<|nx 1024);have b:=ail Ij d;have c:=aim Ij d;unfold gZ;rw[Od];generalize rq (nx 1024)=D at hC hA j b c;have a:bw (nx 1024) (nx 1024)=true:=jo _;generalize nx 1024=N at hC hA j b c a;rw[show inside (0:Int) (1024:Int) (1024:Int)=true from rfl,ab,show fits (1024:Int)=true from rfl,ab];refine ob c (ob (ain D N)<|ob hA<|ob b<|ob (aio D N)<|ob (awM D N)<|ob (awL D N)<|ob j<|ob (awO D N) ?_);refine ob (x:=true) (ob hC rfl) ?_;refine ob (x:=true) ?_ (ob (x:=true) (ob (aiq D N) rfl)<|ob (x:=true) (ob (awN D N) rfl)<|ob (x:=true) (ob afU rfl)<|ob (x:=true) (ob (awS D N) rfl) rfl);dsimp only;rw[a];exact ob (aip D N) rfl
theorem Mf(s:bJ)(x:ax)(b:Tx)(c:BkS s)(a:x.2.2.1.length<=4294967296):jC (s,x,b,())=some (true,()):=PU acU s x b c a
theorem YA(l:List Tx):l.length<=qN Ty.str.bulk l:=by
 induction l with
 | nil=>exact mK _
 | cons a r b =>
   show r.length+1<=Ty.str.bulk a+qN Ty.str.bulk r
   have:Ty.str.bulk a=a.length+1:=rfl;omega
theorem abk{x:ax}(h:vN.bulk x<=1048576):x.2.2.1.length<=4294967296:=by
 have a:vN.bulk x=(x.1.length+1)+((x.2.1.length+1)+((qN Ty.str.bulk x.2.2.1+1)+((x.2.2.2.1.length+1)+(1+(1+(1+0)))))):=rfl;have:=YA x.2.2.1;omega
end Go.Ge
