import Derived.Test.YtgklgliokhbcnaaGreatDoorGeG
import Derived.ProofKit
import Derived.Lib.LazyBuf
import Derived.Lib.Bytealg
import Derived.Shelf.Strings.SplitCore
import Derived.Shelf.Strings.Search3
import Derived.Shelf.Strings.Count
import Derived.Lib.SplitLaws
import Derived.Lib.Join
import Derived.Lib.IndexBytes
import Derived.Shelf.Strconv.Itoa3
import Derived.Shelf.Strconv.ErrVarParseInt
import Derived.Lib.AppendIntMem
import Derived.Lib.ItoaLen
import Derived.Lib.LaidTab
import Derived.LaidSub
import Derived.Sort.EncStr
import Derived.Sort.Grow
import Derived.Lib.SlicesCompact
set_option linter.unusedSectionVars false
set_option linter.unusedVariables false
set_option linter.unusedSimpArgs false
set_option linter.defProp false
open Option renaming some->aa,none->af
open Go.IntKind (i64)
namespace Go.Ge
variable [Lp]
open RowKit
section
variable {P:Program} {B:B5} {N:Nat} {γ:Gh} {σ:St} {a:Act} {w:World} {cx:Ctx}
def Gn{mem I loc}:∀{A x b},jR w I A x b->lT ⟨I,loc⟩ mem w (EF A x) b:=by
 intro A;induction A with
 | pair t r g d =>
   intro x b h;obtain⟨j,e,rfl,k,l⟩:=h;have:=d l;refine⟨by simp[EF,this.1],λi v y c f=>?_⟩;cases i with
   | zero =>
     obtain rfl:=aI c;obtain rfl:=aI f;exact⟨j,k,rfl⟩
   | succ i=>exact this.2 i v y (by simpa [EF] using c) (by simpa using f)
 | unit=>intro x b h;rw[show b=[] from h];exact⟨rfl,λi v y c=>by cases c⟩
 | _=>intro x b h;exact h.elim
def U2(h:bF B γ σ.mem w){I'}(i:∀b o,γ.I b o->I' b o)(f:∀b o,B.has b->b<w.heap.size->I' b o):∀{R y u vs},
  cI γ σ.mem w u .many vs->jj σ R (FL u)=aa y->cI ⟨I',λ_=>af⟩ (λ_=>af) w (B0 R y) .many vs:=by
 intro R;induction R with
 | pair t r j g =>
   intro y u vs d c;cases u with
   | mix p q =>
     obtain⟨v,e,rfl,k,l⟩:=d;simp only[FL,jj] at c;split at c
     .rename_i x z m n;obtain rfl:=aI c;obtain⟨s,A,C⟩:=LV h i f k m;exact⟨v,e,rfl,⟨s,A,by rw[C]⟩,g l n⟩
     .cases c
   | _=>cases c
 | unit =>
   intro y u vs d c;cases u with
   | mix p q=>cases c
   | nl=>exact d
   | _=>exact d.elim
 | _=>intro y u vs d c;cases u<;>cases c
def Qh(i:bF B γ σ.mem w){I'}(j:∀b o,γ.I b o->I' b o)(d:∀b o,B.has b->b<w.heap.size->I' b o){R y v val}
  (k:cI γ σ.mem w v .val [val]) (c:jj σ R (zG R v)=aa y):lS w I' R y val:=by
 have many:∀{R y},(r9 R y=.BR (B0 R y))->(jj σ R (match v with|.BR v=>FL v|v=>[v])=aa y)->(∀t,R≠.pair t .unit)->lS w I' R y val:=by
  intro R y e c f;unfold lS;rw[e];have one:∀{v'},jj σ R [v']=aa y->False:=by
   intro v' h;cases R with
   | pair t r =>
     simp only[jj] at h;split at h
     .rename_i l;cases r with
      | unit=>exact f t rfl
      | _=>cases l
     .cases h
   | _=>cases h
  cases v with
  | BR u =>
    obtain⟨g,m,n⟩:=k;exact⟨g,m,U2 i j d n c⟩
  | _=>exact(one c).elim
 cases R with
 | pair t r =>
   cases r with
   | unit =>
     simp only[zG,jj] at c;split at c
     .rename_i x z p C;obtain rfl:=aI c;obtain⟨q,s,A⟩:=LV i j d k p;exact⟨q,s,by rw[A]⟩
     .cases c
   | _=>exact many rfl (by cases v<;>exact c) BS
 | _=>exact many rfl (by cases v<;>exact c) BS
def Sj(s:P.follows .mixedOrders=true)(K:fN P cx){G}(t:pS P G cx)(j:Qf cx){gY n f A R spec}
  {fn code} (u:find cx.fns f=aa fn) (l:fn.body=aa code) (h:∀x y,spec x=aa y->sem cx n gY f A R x=aa y):Holds P G f ⟨A,R,spec⟩ where
 body:=by
  have z:=j f fn u;simp only[XM,gw,DT] at z;exact⟨fn,code,K.fns f fn u,z.1,l⟩
 calls:=by
  intro I w C x y L M m p;obtain⟨r,h1,q⟩:=bind_some (h x y p);obtain⟨v,mem'⟩:=r;have O:jj (gX mem') R (zG R v)=aa y:=by
   split at q
   .rename_i Y E;obtain rfl:=aI q;exact E
   .cases q
  have S:bF (oS G w.heap.size) ⟨I,λ_=>af⟩ (λ_=>af) w :=
   { vh:=λb Q g=>by
      obtain⟨o,h1,q⟩:=M b Q g;exact⟨λd=>by have:=sk.1 d;have:=(xe.1 h1).1;omega,o,h1,q⟩
     base:=bV _
     boxes:=λb T d=>by cases d
     inj:=λb c D k Z d=>absurd rfl d
     fresh:=λb D k d=>absurd rfl d
     vg:=L
     sep:=λb T D k U d=>by cases d }
  obtain⟨_,i⟩:=Ci s K t j n 0 f _ ⟨I,λ_=>af⟩ _ mem' w _ C v rfl S (Gn m) h1;refine i.mono λe w' V=>?_;obtain⟨F,bE,rfl,m1,J,W⟩:=V;refine⟨F,λb o=>bE.I b o\/(w.heap.size<=b/\b<w'.heap.size),rfl,J.below.below,λb o hi=>.inl (J.I b o hi),λb o hi=>?_,λb o hi X=>?_,Qh m1 (λb o hi=>.inl hi) (λb o h1 q=>.inr ⟨sk.1 h1,q⟩) W O⟩
  .rcases hi with hi|hi
   .exact m1.vg b o hi
   .exact hi.2
  .rcases hi with hi|hi
   .exact sk.1 ((J.r4 b o hi).resolve_left X)
   .exact hi.1
def Gp:List Nat->Nat->Nat->Option (Nat×Nat)
 | [],_,_=>af
 | blk::r,k,b=>if b=eZ k then aa (blk,0) else Gp r (k+1) b
def Jk{i j}(h:eZ i=eZ j):i=j:=by unfold eZ at h;omega
def Dg:∀{b k j blk},b[j]?=aa blk->Gp b k (eZ<|k+j)=aa (blk,0):=by
 intro b;induction b with
 | nil=>intro k j blk h;cases h
 | cons x r c =>
   intro k j blk h;cases j with
   | zero=>obtain rfl:=aI h;simp[Gp]
   | succ j =>
     simp only[Gp];rw[aK (λe=>by have:=Jk e;omega),show k+(j+1)=k+1+j by omega];exact c (by simpa using h)
def rI:∀{c k b blk q},Gp c k b=aa (blk,q)->∃j,c[j]?=aa blk/\b=eZ (k+j):=by
 intro c;induction c with
 | nil=>intro k b blk q h;cases h
 | cons x r d =>
   intro k b blk q h;simp only[Gp] at h;split at h
   .rename_i e;obtain⟨rfl,_⟩:=eN (aI h);exact⟨0,rfl,e⟩
   .obtain⟨j,f,g⟩:=d h;exact⟨j+1,by simpa using f,by rw[g];congr 1;omega⟩
def Zt{I}:∀{U u b k},sq w I U u b->∀{j blk},b[j]?=aa blk ->
  ∃c,Hy U u k (eZ<|k+j)=aa c/\c.aP=0:=by
 intro U;induction U with
 | pair t U g f =>
   intro u b k h j blk d;obtain⟨n,r,rfl,o,i⟩:=h;cases j with
   | zero=>exact⟨{ val:=.data t u.1,tid:=0,buf:=false,ro:=false,lk:=false,aP:=0 },by simp[Hy],rfl⟩
   | succ j =>
     obtain⟨c,l,m⟩:=f i (by simpa using d);refine⟨c,?_,m⟩;simp only[Hy];rw[iI (λe=>by have:=Jk e;omega),show k+(j+1)=k+1+j by omega];exact l
 | unit=>intro u b k h j blk d;rw[show b=[] from h] at d;cases d
 | _=>intro u b k h;exact h.elim
def Dh{I}:∀{U u e k b f},sq w I U u e->Hy U u k b=aa f ->
  ∃j c t,∃x,e[j]?=aa c/\b=eZ (k+j)/\f={ val:=.data t x,tid:=0,buf:=false,ro:=false,lk:=false,aP:=0 }/\adT w I t x c:=by
 intro U;induction U with
 | pair t U l g =>
   intro u e k b f h d;obtain⟨m,r,rfl,n,o⟩:=h;simp only[Hy] at d;cases i:Nat.beq b _ with
   | true =>
     rw[i] at d;exact⟨0,m,t,u.1,rfl,gx i,(aI d).symm,n⟩
   | false =>
     rw[i] at d;obtain⟨j,c,p,q,s,v,y,z⟩:=g o d;exact⟨j+1,c,p,q,by simpa using s,by rw[v];congr 1;omega,y,z⟩
 | unit=>intro u e k b f h d;cases d
 | _=>intro u e k b f h;exact h.elim
def XQ{mem}:∀{ps A U x g l k},P4 w γ.I ps A U x g l ->
  (∀j b,l[j]?=aa b->∃m,mem (eZ<|k+j)=aa m/\m.aP=0/\γ.loc (eZ<|k+j)=aa (b,0))->lT γ mem w (I0 ps A U x k) g:=by
 intro ps;induction ps with
 | nil =>
   intro A U x g l k h _;obtain⟨_,_,rfl,_⟩:=h;exact⟨rfl,λi v y c=>by cases c⟩
 | cons p ps q =>
   intro A U x g l k h n;cases p with
   | false =>
     cases A<;>first|(exact h.elim)|skip
     obtain⟨s,d,rfl,o,t⟩:=h;have:=q t n;refine⟨by simp[I0,this.1],λi v y c e=>?_⟩;cases i with
     | zero =>
       obtain rfl:=aI c;obtain rfl:=aI e;exact⟨s,o,rfl⟩
     | succ i=>exact this.2 i v y (by simpa [I0] using c) (by simpa using e)
   | true =>
     cases U<;>first|(exact h.elim)|skip
     obtain⟨b,d,r,rfl,rfl,o⟩:=h;have:=q o λj f u=>by
      have:=n (j+1) f (by simpa using u);rw[show k+_=k+1+j by omega] at this;exact this
     refine⟨by simp[I0,this.1],λi v y c e=>?_⟩;cases i with
     | zero =>
       obtain rfl:=aI c;obtain rfl:=aI e;obtain⟨m,z,C,D⟩:=n 0 b rfl;exact⟨⟨_,rfl,rfl⟩,m,z,D5 C.symm,λ_=>⟨b,0,D,rfl⟩⟩
     | succ i=>exact this.2 i v y (by simpa [I0] using c) (by simpa using e)
def Mz{mem g L WT w0 I}(A:bF B γ mem w)(M:Ext L WT g w0 γ mem w):∀{U u y k i},sq w0 I U u i ->
  (∀j c,i[j]?=aa c->(∃l,g (eZ<|k+j)=aa l/\l.aP=0)/\WT.loc (eZ<|k+j)=aa (c,0))->FM mem U k=aa y ->
  sq w γ.I U y i/\∀c∈i,∀o,¬γ.I c o:=by
 intro U;induction U with
 | pair t U O q =>
   intro u y k i h s f;obtain⟨c,r,rfl,h1,Q⟩:=h;simp only[FM] at f;split at f
   case h_2=>cases f
   rename_i l n;cases d:(Nat.beq l.aP 0&&!l.buf&&!l.ro) with
   | false=>rw[d] at f;cases f
   | true =>
     rw[d] at f;simp only[gw,DT] at d;split at f
     case h_2=>cases f
     rename_i x1 u1 R S;obtain rfl:=aI f;obtain⟨⟨v,C,T⟩,D⟩:=s 0 c rfl;rw[FC] at C D;obtain⟨V,E,q2,W⟩:=M.boxes _ v C;rw[n] at E;obtain rfl:=aI E;have x:=(W<|by rw[(gx d.1.1),T]).1;rw[D] at x;obtain⟨X,Y⟩:=q Q (λj m Z=>by
      have:=s (j+1) m (by simpa using Z);rw[show k+_=k+1+j by omega] at this;exact this) S
     have p:=A.boxes _ l n;unfold eB at p;rw[d.1.2] at p;obtain⟨m,cap,z,tid,fr,F,a2,a3,G,J⟩:=p;rw[x] at F;obtain⟨rfl,_⟩:=eN (aI F);rw[(LX R)] at J;refine⟨⟨c,r,rfl,⟨z,tid,fr,a2,a3,J⟩,X⟩,λb e o K=>?_⟩;rcases fh.1 e with rfl|e
     .have:=(A.sep _ l b 0 o n x K).1;rw[d.2] at this;cases this
     .exact Y b e o K
 | unit =>
   intro u y k i h s f;exact⟨h,λb e=>by rw[show i=[] from h] at e;cases e⟩
 | _=>intro u y k i h;exact h.elim
def O3(O:P.follows .mixedOrders=true)(hc:fN P cx){G}(S:pS P G cx)(p:Qf cx){gY n f ps A U R spec}
  {fn code} (T:find cx.fns f=aa fn) (D:fn.body=aa code) (h:∀x y,spec x=aa y->aj8 cx n gY f ps A U R x=aa y):RO P G f ⟨ps,A,U,R,spec⟩ where
 body:=by
  have V:=p f fn T;simp only[XM,gw,DT] at V;exact⟨fn,code,hc.fns f fn T,V.1,D⟩
 calls:=by
  intro I w s M x u y hI hG hGb E d hnd F J;obtain⟨r,h1,K⟩:=bind_some (h _ y J);obtain⟨v,mem'⟩:=r;obtain⟨y1,y2⟩:=y;have hg:∃bM,gB (gX mem') R (zG R v)=aa (y1,bM)/\FM bM.mem U 0=aa y2:=by
   split at K
   .rename_i y' bM hy';split at K
    .rename_i u' hu';obtain⟨rfl,rfl⟩:=eN (aI K);exact⟨bM,hy',hu'⟩
    .cases K
   .cases K
  obtain⟨bM,hg1,hg2⟩:=hg;have C:∀j blk,M[j]?=aa blk->(∃L,Hy U u 0 _=aa L/\L.aP=0)/\Gp M 0 _=aa (blk,0):=λj blk Z=>⟨Zt d Z,Dg Z⟩;have hm:bF ⟨w.heap.size,_,G⟩ ⟨I,Gp M 0⟩ (Hy U u 0) w :=
   { vh:=λb Q g=>by
      obtain⟨o,h1,K⟩:=hG b Q g;refine⟨λl=>?_,o,h1,K⟩;have:=(xe.1 h1).1;rcases l with l|l
      .exact absurd this (by have hb':w.heap.size<=b:=l;omega)
      .exact hGb b Q g l
     base:=bV _
     boxes:=λb L l=>by
      obtain⟨j,blk,t,z,g1,g2,g3,g4⟩:=Dh d l;subst g3;subst g2;obtain⟨cur,tid,fr,k1,k2,k3⟩:=g4;exact⟨blk,0,cur,tid,fr,Dg g1,k1,k2,.inl rfl,k3⟩
     inj:=λb c blk k k' l hc' W e2=>by
      obtain⟨i,i1,i2⟩:=rI W;obtain⟨j,j1,j2⟩:=rI e2;have hij:i=j:=by
       have hi:=(iy.1 i1).1;exact(List.getElem?_inj hi hnd).1 (i1.trans j1.symm)
      subst hij;rw[i2,j2]
     fresh:=λb blk k l W=>by
      cases hq:Hy U u 0 b with
      | none=>exact absurd hq l
      | some L =>
        obtain⟨j,LN,t,z,g1,g2,g3,g4⟩:=Dh d hq;have X:Gp M 0 b=aa (blk,k):=W;rw[g2,Dg g1] at X;obtain⟨rfl,_⟩:=eN (aI X);obtain⟨cur,tid,fr,k1,k2,k3⟩:=g4;exact⟨.inr<|eG g1,(xe.1 k1).1⟩
     vg:=hI
     sep:=λb L blk k off l W hi=>by
      obtain⟨j,j1,_⟩:=rI W;exact(F blk (eG j1) off hi).elim }
  have hv:lT ⟨I,Gp M 0⟩ _ w _ s.toList:=XQ E λj blk Z=>by
   obtain⟨⟨L,g1,g2⟩,g3⟩:=C j blk Z;exact⟨L,g1,g2,g3⟩
  obtain⟨_,m⟩:=Ci O hc S p n 0 f ⟨w.heap.size,_,G⟩ ⟨I,Gp M 0⟩ _ mem' w _ s v rfl hm hv h1;refine m.mono λe w' hw=>?_;obtain⟨val,bE,rfl,m1,x1,r1⟩:=hw;obtain⟨xs,u1,u2⟩:=EX r1;have Y:dy ⟨w.heap.size,_,G⟩ 0 bE (gX mem') { tmps:=#[],defers:=[] } w' :=
   { bh:=λt=>⟨_,rfl⟩
     size:=rfl
     defers:=rfl
     ok:=m1 }
  obtain⟨γ2,s1,s2,s3⟩:=km Y u1 hg1;have xx:=x1.trans s2;obtain⟨k1,k2⟩:=Mz s1.ok xx d C hg2;refine⟨val,γ2.I,rfl,xx.below,xx.I,s1.ok.vg,λb o hi hn=>?_,u2 _ _ s3,k1⟩;rcases(xx.r4 b o hi).resolve_left hn with q|q
  .exact q
  .exact(k2 b q o hi).elim
def U3:∀{U k i b aP},(LA U k)[i]?=aa (b,aP)->b=eZ (k+i)/\aP=0:=by
 intro U;induction U with
 | pair t U d c =>
   intro k i b aP h;cases i with
   | zero=>obtain⟨rfl,rfl⟩:=eN (aI h);exact⟨rfl,rfl⟩
   | succ i=>obtain⟨e,f⟩:=c (k:=k+1) (i:=i) (by simpa [LA] using h);exact⟨by rw[e];congr 1;omega,f⟩
 | _=>intro k i b aP h;cases h
def Di{I}:∀{U u b k},sq w I U u b->(LA U k).length=b.length:=by
 intro U;induction U with
 | pair t U d c=>intro u b k h;obtain⟨f,r,rfl,g,e⟩:=h;simp[LA,c e]
 | unit=>intro u b k h;rw[show b=[] from h];rfl
 | _=>intro u b k h;exact h.elim
def aa5{mem I}:∀{U u y k e},sq w I U u e->FM mem U k=aa y->∀{j blk},e[j]?=aa blk->∃d,mem (eZ<|k+j)=aa d/\d.aP=0:=by
 intro U;induction U with
 | pair t U l g =>
   intro u y k e h b j blk f;obtain⟨o,r,rfl,p,m⟩:=h;simp only[FM] at b;split at b
   case h_2=>cases b
   rename_i d i;cases c:(Nat.beq d.aP 0&&!d.buf&&!d.ro) with
   | false=>rw[c] at b;cases b
   | true =>
     rw[c] at b;simp only[gw] at c;split at b
     case h_2=>cases b
     rename_i q s v n;cases j with
     | zero=>exact⟨d,i,gx c.1.1⟩
     | succ j =>
       have:=g m n (j:=j) (by simpa using f)
       rwa [show k+1+j=k+(j+1) by omega] at this
 | unit=>intro u y k e h b j blk f;rw[show e=[] from h] at f;cases f
 | _=>intro u y k e h;exact h.elim
def MA k:eZ k≠jN:=by unfold eZ jN;omega
def O4(aiH:P.follows .mixedOrders=true)(hc:fN P cx){G}(aaR:pS P G cx)(S:Qf cx){gY n f T F t A U R spec}
  {fn code} (hfn:find cx.fns f=aa fn) (akw:fn.body=aa code) (h:∀x y,spec x=aa y->aj9 cx n gY f T F t A U R x=aa y):oh P G f ⟨T,t,F,A,U,R,spec⟩ where
 body:=by
  have hok:=S f fn hfn;simp only[XM,gw,DT] at hok;exact⟨fn,code,hc.fns f fn hfn,hok.1,akw⟩
 calls:=by
  intro I w V rest l J r x u y hI hG hGb aeg UE W d hnd akx aky;obtain⟨q,h1,h2⟩:=bind_some (h _ y aky);obtain⟨v,mem'⟩:=q;obtain⟨y1,y2⟩:=y;have hg:∃bM,gB (gX mem') R (zG R v)=aa (y1,bM)/\FM bM.mem U 0=aa y2:=by
   split at h2
   .rename_i y' bM hy';split at h2
    .rename_i u' hu';obtain⟨rfl,rfl⟩:=eN (aI h2);exact⟨bM,hy',hu'⟩
    .cases h2
   .cases h2
  obtain⟨bM,hg1,hg2⟩:=hg;obtain⟨hnb,al8⟩:=adi.1 hnd
  let loc:Nat->Option (Nat×Nat):=λb=>if b=jN then aa (l,0) else Gp J 0 b
  have Zu:loc jN=aa (l,0):=aQ rfl;have p:∀b,b≠jN->loc b=Gp J 0 b:=λb e=>aK e;have m:RD T F t U r u jN=aa (W5 T F t U r):=by simp[RD]
  have s:∀b,b≠jN->RD T F t U r u b=Hy U u 0 b:=λb e=>by unfold RD;rw[iI e];rfl
  have K:∀j l,J[j]?=aa l->(∃X,RD T F t U r u (eZ<|0+j)=aa X/\X.aP=0)/\loc (eZ<|0+j)=aa (l,0):=λj l hj=>by
   rw[s _<|MA _,p _ (MA _)];exact⟨Zt d hj,Dg hj⟩
  have L:∀b k c,loc b=aa (k,c)->(b=jN/\k=l)\/(b≠jN/\Gp J 0 b=aa (k,c)):=λb k c Y=>by
   by_cases e:b=jN
   .subst e;rw[Zu] at Y;obtain⟨rfl,_⟩:=eN (aI Y);exact .inl ⟨rfl,rfl⟩
   .rw[p b e] at Y;exact .inr ⟨e,Y⟩
  have M:∀b k c,loc b=aa (k,c)->k∈l::J:=λb k c Y=>by
   rcases L b k c Y with ⟨_,rfl⟩|⟨_,Y⟩
   .exact ri ..
   .obtain⟨j,j1,_⟩:=rI Y;exact v8 _ (eG j1)
  have hm:bF ⟨w.heap.size,(·∈l::J),G⟩ ⟨I,loc⟩ (RD T F t U r u) w :=
   { vh:=λb Q g=>by
      obtain⟨o,h1,h2⟩:=hG b Q g;refine⟨λC=>?_,o,h1,h2⟩;have:=(xe.1 h1).1;rcases C with C|C
      .exact absurd this (by have hb':w.heap.size<=b:=C;omega)
      .exact hGb b Q g C
     base:=bV _
     boxes:=λb X C=>by
      by_cases e:b=jN
      .subst e;rw[m] at C;obtain rfl:=aI C;obtain⟨cur,tid,fr,cs,k1,k2,k3,k4,k5⟩:=W;refine⟨l,0,cur,tid,fr,Zu,k1,k2,k3,cs,_,k4,k5,_,[],rfl,⟨_,rfl,?_,λi b aP D=>?_⟩,rfl⟩
       .simp[Di d]
       .have hlt:i<J.length:=by have:=(iy.1 D).1;rwa [Di d] at this
        obtain⟨rfl,rfl⟩:=U3 D;obtain⟨⟨X,g1,g2⟩,g3⟩:=K i J[i] (fH hlt);exact⟨X,g1,pW _,λ_=>⟨J[i],0,g3,by simp[hlt]⟩⟩
      .rw[s b e] at C;obtain⟨j,LN,t',z,g1,g2,g3,g4⟩:=Dh d C;subst g3;subst g2;obtain⟨cur,tid,fr,k1,k2,k3⟩:=g4;exact⟨LN,0,cur,tid,fr,by rw[show(⟨I,loc⟩:Gh).loc _=_ from p _ e];exact Dg g1,k1,k2,.inl rfl,k3⟩
     inj:=λb c k q q' C hc' Z e2=>by
      rcases L b k q Z with ⟨rfl,rfl⟩|⟨_,l1⟩
      .rcases L c _ q' e2 with ⟨rfl,_⟩|⟨_,l2⟩
       .rfl
       .obtain⟨j,j1,_⟩:=rI l2;exact absurd (eG j1) hnb
      .rcases L c k q' e2 with ⟨rfl,rfl⟩|⟨_,l2⟩
       .obtain⟨j,j1,_⟩:=rI l1;exact absurd (eG j1) hnb
       .obtain⟨i,i1,i2⟩:=rI l1;obtain⟨j,j1,j2⟩:=rI l2;have hij:i=j:=by
         have D:=(iy.1 i1).1;exact(List.getElem?_inj D al8).1 (i1.trans j1.symm)
        subst hij;rw[i2,j2]
     fresh:=λb k q C Z=>by
      refine⟨.inr<|M b k q Z,?_⟩;rcases L b k q Z with ⟨rfl,rfl⟩|⟨e,l1⟩
      .obtain⟨cur,tid,fr,cs,k1,_⟩:=W;exact(xe.1 k1).1
      .rw[s b e] at C;cases hq:Hy U u 0 b with
       | none=>exact absurd hq C
       | some X =>
         obtain⟨j,LN,t',z,g1,g2,g3,g4⟩:=Dh d hq;rw[g2,Dg g1] at l1;obtain⟨rfl,_⟩:=eN (aI l1);obtain⟨cur,tid,fr,k1,k2,k3⟩:=g4;exact(xe.1 k1).1
     vg:=hI
     sep:=λb X k q off C Z D=>(akx k (M b k q Z) off D).elim }
  have hv:lT ⟨I,loc⟩ (RD T F t U r u) w (.ptr jN 0 []::EF A x) V.toList:=by
   have:=Gn (mem:=RD T F t U r u) (loc:=loc) UE;rw[aeg];refine⟨by simp[this.1],λi v y hv hy=>?_⟩;cases i with
   | zero =>
     obtain rfl:=aI hv;obtain rfl:=aI hy;exact⟨⟨_,rfl,rfl⟩,_,m,bV _,λ_=>⟨l,0,Zu,rfl⟩⟩
   | succ i=>exact this.2 i v y (by simpa using hv) (by simpa using hy)
  obtain⟨_,O⟩:=Ci aiH hc aaR S n 0 f ⟨w.heap.size,_,G⟩ ⟨I,loc⟩ _ mem' w _ V v rfl hm hv h1;refine O.mono λe w' hw=>?_;obtain⟨val,bE,rfl,m1,x1,r1⟩:=hw;obtain⟨xs,u1,u2⟩:=EX r1;have al9:dy ⟨w.heap.size,_,G⟩ 0 bE (gX mem') { tmps:=#[],defers:=[] } w' :=
   { bh:=λt=>⟨_,rfl⟩
     size:=rfl
     defers:=rfl
     ok:=m1 }
  obtain⟨γ2,s1,s2,s3⟩:=km al9 u1 hg1;have xx:=x1.trans s2;obtain⟨k1,k2⟩:=Mz s1.ok xx d K hg2;have E:bM.mem jN=aa (W5 T F t U r):=jT hg1 _ _ (Mx n 0 f _ _ _ h1 jN _ m rfl) rfl;obtain⟨vi,q1,q2,q3⟩:=xx.boxes _ _ m;rw[E] at q1;obtain rfl:=aI q1;have hl2:γ2.loc jN=aa (l,0):=(q3 rfl).1.trans Zu;have hat:=s1.ok.boxes _ _ E;obtain⟨LN,adO,cur,tid,fr,a1,a2,a3,a4,c1,c2,a5,a6,c3,c4,a7,⟨arr,a8,a10,a11⟩,a9⟩:=hat;obtain rfl:c4=[]:=a9;rw[hl2] at a1;obtain⟨rfl,rfl⟩:=eN (aI a1);have ama:arr=(J.map λb=>Value.pointer (aa ⟨b,0,af⟩)).toArray:=by
   apply Array.ext';apply Lg;intro i;have hlen:arr.toList.length=J.length:=by rw[<-Di (k:=0) d];simpa using a10
   by_cases D:i<J.length
   .have hci:i<(LA U 0).length:=by rw[Di d];exact D
    obtain⟨Z,e2⟩:=U3 (fH hci);have hof:=a11 i (eZ<|0+i) 0 ((fH hci).trans<|congrArg aa<|Prod.ext Z e2);obtain⟨X,b1,b2⟩:=aa5 d hg2 (fH D);obtain⟨k,c,b3,b4⟩:=bk b1 b2 hof;obtain⟨⟨F4,b5,b6⟩,b7⟩:=K i _ (fH D);obtain⟨Qc,b8,b9,b10⟩:=xx.boxes _ F4 b5;rw[b1] at b8;obtain rfl:=aI b8;rw[(b10<|by rw[b2,b6]).1] at b3;have b3':loc (eZ<|0+i)=aa (k,c):=b3;rw[b7] at b3';obtain⟨rfl,_⟩:=eN (aI b3');simp[D] at b4⊢;exact b4
   .rw[FA ah,FA cT]
  refine⟨val,γ2.I,rfl,xx.below,xx.I,s1.ok.vg,λb o D hn=>?_,u2 _ _ s3,k1,cur,tid,fr,c1,a2,a3,a4,by rw[a5,a7,a8,ama,tK],a6⟩;rcases(xx.r4 b o D).resolve_left hn with q|q
  .exact q
  .rcases fh.1 q with rfl|q
   .have:=(s1.ok.sep _ _ b 0 o E hl2 D).1;cases this
   .exact(k2 b q o D).elim
end
end Go.Ge
namespace Go.Ge
open RowKit ChangeShapes
def vJ{α:Type}(f:α->Nat):List α->Nat
 | []=>0
 | x::r=>f x+vJ f r
def Ty.bulk:(t:Ty)->t.den->Nat
 | .int _,_=>1
 | .bool,_=>1
 | .str,s=>List.length (α:=UInt8) s+1
 | .slice e,l=>vJ e.bulk l+1
 | .arr _ e,l=>vJ e.bulk l
 | .pair a b,x=>a.bulk x.1+b.bulk x.2
 | .unit,_=>0
 | .alt _ _ _,_=>0
 | .BX,_=>0
def Ty.Eh:Ty->Bool
 | .slice e=>e.Eh
 | .arr _ e=>e.Eh
 | .pair a b=>a.Eh&&b.Eh
 | .alt _ _ _=>false
 | .BX=>false
 | _=>true
structure MB {H:Type} (bulk:DataW H->Nat) (all:List (DataW H)->Nat):Prop where
 lit:∀l,1<=bulk (.lit l)
 str:∀s,bulk (.lit<|.string s)=s.length+1
 nil:1<=bulk .nil
 slice:∀e s,bulk (.slice e s)=all e+all s+1
 agg:∀p,bulk (.agg p)=all p+1
 none:all []=0
 cons:∀d r,all (d::r)=bulk d+all r
def Dj{α c:Type}{f:α->Option c}:∀{l:List α} {ys},l.mapM f=aa ys->ys.length=l.length/\∀(i:Nat) x,l[i]?=aa x->f x=ys[i]?:=by
 intro l;induction l with
 | nil=>intro ys h;obtain rfl:=aI (by simpa using h);exact⟨rfl,λi x b=>by cases b⟩
 | cons a l d =>
   intro ys h;rw[Zg] at h;obtain⟨y,e,g⟩:=BL.1 h;obtain⟨j,k,m⟩:=BL.1 g;obtain rfl:y::j=ys:=aI m;obtain⟨n,o⟩:=d k;refine⟨by simp[n],λi x b=>?_⟩;cases i with
   | zero=>obtain rfl:=aI b;exact e
   | succ i=>exact o i x (by simpa using b)
def Jl{α e:Type}{R:Nat->α->e->Prop}:∀{ys:List e} {k},(∀i y,ys[i]?=aa y->∃x,R (k+i) x y)->∃d:List α,d.length=ys.length/\∀i x y,d[i]?=aa x->ys[i]?=aa y->R (k+i) x y:=by
 intro ys;induction ys with
 | nil=>intro k _;exact⟨[],rfl,λi x y h=>by cases h⟩
 | cons y ys f =>
   intro k h;obtain⟨x,g⟩:=h 0 y rfl;obtain⟨d,j,l⟩:=f λi y m=>by
    have:=h (i+1) y (by simpa using m)
    rwa [show k+_=k+1+i by omega] at this
   refine⟨x::d,by simp[j],λi n o b c=>?_⟩;cases i with
   | zero=>obtain rfl:=aI b;obtain rfl:=aI c;exact g
   | succ i =>
     rw[show k+_=k+1+i by omega];exact l i n o (by simpa using b) (by simpa using c)
def Zv{α β}{f:α->Nat}{g:β->Nat}:∀{b ys},b.length=ys.length->(∀(i:Nat) x y,b[i]?=aa x->ys[i]?=aa y->f x<=g y)->vJ f b<=vJ g ys:=by
 intro b;induction b with
 | nil=>intro ys _ _;apply pW
 | cons x b d =>
   intro ys c h;cases ys with
   | nil=>cases c
   | cons y ys =>
     have k:=h 0 x y rfl rfl;have l:=d (by simpa using c) λi x y e j=>h (i+1) x y (by simpa using e) (by simpa using j);simp only[vJ];omega
section
variable {H:Type} {enc:TypeId×Value->H} {P:Program} {w:World} {held:Bool} {bulk:DataW H->Nat} {all:List (DataW H)->Nat}
def Zw(b:MB bulk all){β}(f:β->DataW H):∀l,all (l.map f)=vJ (λy=>bulk (f y)) l:=by
 intro l;induction l with
 | nil=>exact b.none
 | cons y l c=>rw[T1,b.cons,c];rfl
def old(w:World):Nat->Nat->Prop:=λb _=>b<w.heap.size
def Jm{a n cs}(h:w.cells? 0 a n=aa cs):cs.length=n/\∀j,j<n->w.cell? (a.add j)=cs[j]?:=by
 obtain⟨b,c⟩:=Dj h;refine⟨by simpa using b,λj d=>c j j ?_⟩;simp[d]
def U4{b o v sp}(h:w.cell? ⟨b,o,sp⟩=aa v):b<w.heap.size/\sp=none:=by
 unfold World.cell? at h;split at h
 .rename_i c t f d;refine⟨(xe.1 d).1,?_⟩;split at h
  .cases h
  .rename_i e;cases sp with
   | none=>rfl
   | some s=>exact absurd rfl e
 .cases h
def aeh(q:MB bulk all):∀{t:Ty},t.Eh=true ->
  (∀{fuel tid:Nat} {cs:List Value} {d:DataW H} {ps:List MemPlace},Den P t tid->DataW.trod enc P w 0 (λ_=>true) held fuel tid cs=aa (d,ps)->∃x:t.den,bJ w (old w) t x cs/\t.bulk x<=bulk d) /\
  (∀{fuel off:Nat} {fs:List Field} {cs:List Value} {l:List (DataW H×List MemPlace)},r5 P t off fs->(fs.mapM λf=>DataW.trod enc P w 0 (λ_=>true) held fuel f.type ((cs.drop f.offset).take<|P.cellsOf f.type))=aa l ->
   cs.length=off+t.size->∃x:t.den,bJ w (old w) t x (cs.drop off)/\t.bulk x<=all (l.map (·.1))):=by
 intro t;induction t with
 | int k =>
   intro c;refine⟨λ{fuel tid cs d ps} hd h=>?_,λhd=>by simp[r5,gf] at hd⟩;cases fuel with
   | zero=>cases h
   | succ fuel =>
     simp only[DataW.trod,hd.int] at h;split at h<;>first|(exfalso;simp_all;done)|skip
     rename_i k0 k' n X;split at h
     .rename_i G;obtain⟨rfl,rfl⟩:=eN (aI h);injection X with X;injection X with X;subst X
      obtain⟨rfl,K⟩:=G;simp only[Lit.wf,gw,Ap] at K;exact⟨(n:Int),⟨rfl,K.1,K.2⟩,q.lit _⟩
     .cases h
 | bool =>
   intro c;refine⟨λ{fuel tid cs d ps} hd h=>?_,λhd=>by simp[r5,gf] at hd⟩;cases fuel with
   | zero=>cases h
   | succ fuel =>
     simp only[DataW.trod,hd.bool] at h;split at h<;>first|(exfalso;simp_all;done)|skip
     rename_i b _;obtain⟨rfl,rfl⟩:=eN (aI h);exact⟨b,rfl,q.lit _⟩
 | str =>
   intro c;refine⟨λ{fuel tid cs d ps} hd h=>?_,λhd=>by simp[r5,gf] at hd⟩;cases fuel with
   | zero=>cases h
   | succ fuel =>
     simp only[DataW.trod,hd.str] at h;split at h<;>first|(exfalso;simp_all;done)|skip
     rename_i s _;split at h
     .rename_i hs;obtain⟨rfl,rfl⟩:=eN (aI h);refine⟨s.data.toList,⟨?_,?_⟩,?_⟩
      .rfl
      .have:List.length (α:=UInt8) s.data.toList=s.size:=TR;rw[this];exact hs
      .rw[q.str];exact bV _
     .cases h
 | slice e L =>
   intro c;have L:=L c;refine⟨λ{fuel tid cs d ps} hd h=>?_,λhd=>by simp[r5,gf] at hd⟩;obtain⟨Y,Z,M,h3,h4⟩:=hd.slice;cases fuel with
   | zero=>cases h
   | succ fuel =>
     simp only[DataW.trod,Z] at h;split at h<;>first|(exfalso;simp_all;done)|skip
     .obtain⟨rfl,rfl⟩:=eN (aI h);exact⟨([]:List e.den),.inl ⟨⟨af,rfl⟩,rfl⟩,q.nil⟩
     .rename_i e' a O z he;injection he with he;injection he with he;subst he
      split at h
      case isFalse=>cases h
      rename_i G;obtain⟨hc1,hc2,hc3⟩:=G;obtain⟨m,I,Q⟩:=BL.1 h;obtain⟨rest,g3,g4⟩:=EA.1 Q;obtain⟨rfl,rfl⟩:=eN g4;simp only[yq] at g3;obtain⟨U,V⟩:=Dj I;obtain⟨m1,m2⟩:=Dj g3;simp only[Rq] at U m1;rw[M.cells] at V m2;by_cases aiz:z=0
      .subst aiz;obtain rfl:O=0:=ah;exact⟨([]:List e.den),.inl ⟨⟨aa a,rfl⟩,rfl⟩,by rw[q.slice];simp[Ty.bulk,vJ]⟩
      ·
       have hat:∃y,(w.cells? 0 a e.size).bind (DataW.trod enc P w 0 (λ_=>true) held fuel Y)=aa y:=by
        by_cases hlen:O=0
        .have:=m2 0 0 (Ox ah);have o:0<rest.length:=ah;rw[fH o] at this;rw[hlen] at this;simp only[BV,adr] at this;exact⟨_,by rw[<-this];simp[Addr.add]⟩
        .have:=V 0 0 (Ox ah);have o:0<m.length:=ah;rw[fH o] at this;simp only[adr] at this;exact⟨_,by rw[<-this];simp[Addr.add]⟩
       obtain⟨y,C⟩:=hat;obtain⟨W,hes,_⟩:=BL.1 C;obtain⟨z1,z2⟩:=Jm hes;have z3:=z2 0 h4;rw[fH ah] at z3;have p:a.spot=none:=by
        have:a.add 0=a:=by simp[Addr.add]
        rw[this] at z3;obtain⟨D,off,sp⟩:=a;exact(U4 z3).2
       obtain⟨D,off,sp⟩:=a;dsimp only at p;subst p;obtain⟨l,E,J⟩:=Jl (R:=λi (x:e.den) (y:DataW H×List MemPlace)=>(∃W:List Value,W.length=e.size /\
         (∀(j:Nat) v,W[j]?=aa v->w.cell? ⟨D,off+i*e.size+j,af⟩=aa v/\old w D (off+i*e.size+j))/\bJ w (old w) e x W)/\e.bulk x<=bulk y.1) (ys:=m) (k:=0) λi y hi=>by
        have o:=(iy.1 hi).1;have:=V i i (Ox ah);rw[hi] at this;obtain⟨W,q1,q2⟩:=BL.1 this;rw[addr_add] at q1;obtain⟨q3,q4⟩:=Jm q1;obtain⟨x,r1,r2⟩:=L.1 (d:=y.1) (ps:=y.2) M q2;refine⟨x,⟨W,q3,λj v hv=>?_,r1⟩,r2⟩;have hj:=(iy.1 hv).1;have:=q4 j ah;rw[addr_add,hv] at this;rw[BV];exact⟨this,(U4 this).1⟩
       refine⟨l,.inr ⟨D,off,z,?_,?_,hc3,λi x S=>?_⟩,?_⟩
       .show [Value.slice _ O z]=[Value.slice _ (List.length (α:=e.den) l) z]
        rw[E,U]
       .show List.length (α:=e.den) l<=z
        rw[E,U];exact hc2
       .have A:l[i]?=aa x:=S;have o:=(iy.1 A).1;obtain⟨y,C⟩:∃y,m[i]?=aa y:=⟨_,fH ah⟩;have:=(J i x y A C).1;rw[BV] at this;exact this
       .rw[q.slice,Zw q];have:=Zv (f:=e.bulk) (g:=λy:DataW H×List MemPlace=>bulk y.1) E λi x y S C=>(J i x y S C).2;show vJ e.bulk l+1<=_
        omega
 | arr n e L =>
   intro c;have L:=L c;refine⟨λ{fuel tid cs d ps} hd h=>?_,λhd=>by simp[r5,gf] at hd⟩;obtain⟨Y,Z,M,h4⟩:=hd.arr;cases fuel with
   | zero=>cases h
   | succ fuel =>
     simp only[DataW.trod,Z] at h;split at h
     case isFalse=>cases h
     rename_i G;obtain⟨ys,I,Q⟩:=EA.1 h;obtain⟨rfl,rfl⟩:=eN Q;obtain⟨U,V⟩:=Dj I;simp only[Rq] at U;rw[M.cells] at V;obtain⟨l,E,J⟩:=Jl (R:=λi (x:e.den) (y:DataW H×List MemPlace)=>bJ w (old w) e x ((cs.drop<|i*e.size).take e.size)/\e.bulk x<=bulk y.1) (ys:=ys) (k:=0) λi y hi=>by
      have o:=(iy.1 hi).1;have:=V i i (Ox ah);rw[hi] at this;obtain⟨x,r1,r2⟩:=L.1 (d:=y.1) (ps:=y.2) M this;exact⟨x,by rw[BV];exact r1,r2⟩
     refine⟨l,⟨?_,?_,λi x S=>?_⟩,?_⟩
     .show List.length (α:=e.den) l=n
      rw[E,U]
     .rw[G,hd.cells];rfl
     .have A:l[i]?=aa x:=S;have o:=(iy.1 A).1;obtain⟨y,C⟩:∃y,ys[i]?=aa y:=⟨_,fH ah⟩;have:=(J i x y A C).1;rw[BV] at this;exact this
     .rw[q.agg,Zw q];have:=Zv (g:=λy=>bulk y.1) E λi x y S C=>(J i x y S C).2;show vJ e.bulk l<=_
      omega
 | pair a b F T =>
   intro c;simp only[Ty.Eh,gw] at c;have F:=F c.1;have T:=T c.2;have chain:∀{fuel off} {fs} {cs:List Value} {l:List _},r5 P (.pair a b) off fs->(fs.mapM λf=>DataW.trod enc P w 0 (λ_=>true) held fuel f.type ((cs.drop f.offset).take<|P.cellsOf f.type))=aa l ->
     cs.length=off+(Ty.pair a b).size->∃x,bJ w (old w) _ x (cs.drop off)/\(Ty.pair a b).bulk x<=all (l.map (·.1)):=by
    intro fuel off fs cs l hd h hl;obtain⟨f,r,rfl,f1,_,f2,f3,f4⟩:=hd.cons;rw[Zg] at h;obtain⟨y,I,Q⟩:=BL.1 h;obtain⟨ys,g3,g4⟩:=BL.1 Q;obtain rfl:y::ys=l:=aI g4;rw[f1,f2.cells] at I;obtain⟨E,p1,p2⟩:=F.1 f2 I;obtain⟨J,q1,q2⟩:=T.2 f4 g3 (by simp only[Ty.size] at hl;omega);refine⟨(E,J),⟨_,_,?_,p1,q1⟩,?_⟩
    .rw[<-Aq,Fz]
    .rw[T1,q.cons];show a.bulk E+b.bulk J<=_
     omega
   refine⟨λ{fuel tid cs d ps} hd h=>?_,chain⟩;obtain⟨fs,Z,M,_⟩:=hd.pair;cases fuel with
   | zero=>cases h
   | succ fuel =>
     simp only[DataW.trod,Z] at h;split at h
     case isFalse=>cases h
     rename_i G;obtain⟨ys,I,Q⟩:=EA.1 h;obtain⟨rfl,rfl⟩:=eN Q;rw[hd.cells] at G;obtain⟨x,r1,r2⟩:=chain M I (by rw[G,BV]);exact⟨x,by simpa using r1,by rw[q.agg];omega⟩
 | alt u a r F ihr=>intro c;cases c
 | BX=>intro c;cases c
 | unit =>
   intro c;refine⟨λhd=>by simp[Den,gf] at hd,λ{fuel off fs cs l} hd h hl=>?_⟩;exact⟨(),by show cs.drop off=[];rw[List.drop_eq_nil_iff];simp[Ty.size] at hl;omega,pW _⟩
end
end Go.Ge
namespace Go.Ge
open RowKit ChangeShapes WideShapes
def XR(P:Program):Ty->List TypeId->Prop
 | .pair t r,tid::ts=>Den P t tid/\XR P r ts
 | .unit,[]=>True
 | _,_=>False
section
variable {H:Type} {enc:TypeId×Value->H} {P:Program} {w:World} {held:Bool} {bulk:DataW H->Nat} {all:List (DataW H)->Nat}
def U5{t}{f g:Nat}{v x}(h:t.Eh=true)(d:Den P t f)(c:Value.okWide P w .any g f v)(p:bJ w (old w) t x v.cells.toList):v=cY t v.cells.toList:=by
 cases t with
 | int k=>obtain⟨n,rfl⟩:=okWide_int d.int c;rfl
 | bool=>obtain⟨b,rfl⟩:=okWide_bool d.bool c;rfl
 | str=>obtain⟨s,rfl⟩:=okWide_string d.str c;rfl
 | slice e=>obtain⟨j,i,_⟩:=d.slice;obtain⟨a,l,m,rfl⟩:=okWide_slice i c;rfl
 | pair a b=>obtain⟨q,i,_⟩:=d.pair;obtain⟨o,rfl,_⟩:=okWide_struct i c;simp[cY,Ty.isAgg,Value.cells]
 | arr n e =>
   obtain⟨j,i,_⟩:=d.arr;unfold Value.okWide at c;rw[i] at c;obtain⟨o,rfl,_⟩:=c;simp[cY,Ty.isAgg,Value.cells]
 | unit=>simp[Den,gf] at d
 | alt u a r=>cases h
 | BX=>cases h
def aei(i:MB bulk all){base}:∀{A ts vs ds ps},A.Eh=true->XR P A ts->DataW.TrodAll enc P w 0 (λ_=>true) held ts vs ds ps ->
  (∀(j:Nat) t v,ts[j]?=aa t->vs[j]?=aa v->Value.okWide P w .any base t v)->∃x,jR w (old w) A x vs/\A.bulk x<=all ds:=by
 intro A;induction A with
 | pair t r n f =>
   intro ts vs ds ps b e h c;simp only[Ty.Eh,gw] at b;cases ts with
   | nil=>exact e.elim
   | cons tid ts =>
     obtain⟨k,o⟩:=e;obtain⟨v,g,d,s,p,q,rfl,rfl,rfl,⟨l,u⟩,z⟩:=trodAll_cons h;obtain⟨x,m,F⟩:=(aeh i b.1).1 k u;obtain⟨y,C,G⟩:=f b.2 o z λj t v D E=>c (j+1) t v (by simpa using D) (by simpa using E);refine⟨(x,y),⟨v.cells.toList,g,?_,m,C⟩,?_⟩
     .rw[<-U5 b.1 k (c 0 tid v rfl rfl) m]
     .rw[i.cons];show t.bulk x+r.bulk y<=_
      omega
 | unit =>
   intro ts vs ds ps b e h c;cases ts with
   | nil =>
     obtain⟨rfl,rfl,rfl⟩:=trodAll_nil h;exact⟨(),rfl,pW _⟩
   | cons tid ts=>exact e.elim
 | _=>intro ts vs ds ps b e;exact e.elim
def O5(i:laidOutB P=true){W g sp}:∀{ts vs ds ps},(∀t∈ts,P.readableRec t=true/\t<P.types.size) ->
  DataW.TrodAll enc P W 0 (λ_=>true) true ts vs ds ps->(∀p∈ps,W.sameAt g p)->(∀p∈ps,sp p.block=true)->DataW.TrodAll enc P g 0 sp true ts vs ds ps:=by
 intro ts;induction ts with
 | nil=>intro vs ds ps _ h _ _;obtain⟨rfl,rfl,rfl⟩:=trodAll_nil h;rfl
 | cons t ts j =>
   intro vs ds ps f h b e;obtain⟨v,k,d,l,p,q,rfl,rfl,rfl,m,n⟩:=trodAll_cons h;refine⟨p,q,WideElems.Trod_stays i (f t<|ri ..).1 (f t<|ri ..).2 m (λx c=>b x (DP _ c)) (λx c=>e x (DP _ c)),?_,rfl⟩;exact j (λt o=>f t (v8 _ o)) n (λx c=>b x (JM _ c)) (λx c=>e x (JM _ c))
def Ty.ok:(t:Ty)->t.den->Prop
 | .int k,n=>k.min<=(show Int from n)/\(show Int from n)<=k.max
 | .bool,_=>True
 | .str,s=>List.length (α:=UInt8) s<=maxLen
 | .slice e,l=>∀(i:Nat) (x:e.den),(show List e.den from l)[i]?=aa x->e.ok x
 | .arr n e,l=>List.length (α:=e.den) l=n/\∀(i:Nat) (x:e.den),(show List e.den from l)[i]?=aa x->e.ok x
 | .pair a b,x=>a.ok x.1/\b.ok x.2
 | .unit,_=>True
 | .alt _ _ _,_=>True
 | .BX,_=>True
def bJ.ok{I}:∀{t x cs},bJ w I t x cs->t.ok x:=by
 intro t;induction t with
 | int k=>intro x cs h;exact h.2
 | bool=>intro x cs h;trivial
 | str=>intro x cs h;exact h.2
 | slice e d =>
   intro x cs h i y c;rcases h with ⟨_,h⟩|⟨blk,off,cap,j,l,p,m⟩
   .rw[show x=[] from h] at c;cases c
   .obtain⟨es,_,_,o⟩:=m i y c;exact d o
 | arr n e d=>intro x cs h;exact⟨h.1,λi y c=>d (h.2.2 i y c)⟩
 | pair a b f g=>intro x cs h;obtain⟨q,s,_,j,l⟩:=h;exact⟨f j,g l⟩
 | unit=>intro x cs h;trivial
 | alt u a r=>intro x cs h;trivial
 | BX=>intro x cs h;trivial
def jR.ok{I}:∀{A x b},jR w I A x b->A.ok x:=by
 intro A;induction A with
 | pair t r d c=>intro x b h;obtain⟨cs,rest,_,e,f⟩:=h;exact⟨e.ok,c f⟩
 | unit=>intro x b h;trivial
 | _=>intro x b h;exact h.elim
def aa6(Q:MB bulk all)(R:laidOutB P=true){m tb:Nat}{g:Func}{s:ChangeSpec}{A spec apart fresh handsOn}
  (n:XR P A g.params.toList) (i:∀t∈g.params.toList,P.readableRec t=true/\t<P.types.size) (r:g.resultTypes=#[tb]) (C:P.underlying tb=aa .bool) (u:s.vars=[])
  (S:∀c,c.length=g.params.toList.length->s.fn H c={ results:=[.lit<|.bool true],args:=c }) {G} (T:Holds P G m ⟨A,.pair .bool .unit,spec⟩)
  {W} (U:EG G W) {base args c gs before} (y:∀(j:Nat) t v,g.params[j]?=aa t->args[j]?=aa v->Value.okWide P W .any base t v)
  (D:DataW.Whole enc P g.params.toList s.vars apart W args.toList c gs before) (f:∀x,A.ok x->A.bulk x<=all (c++gs)->spec x=aa (true,())) (E:A.Eh=true:=by rfl) :
  Calls P m args W λe K=>∃v,e=.returned v/\s.post enc P g apart fresh handsOn false W args v K:=by
 have k:=D.lt;have z:=D;obtain⟨p,q,F,L,rfl,V,X⟩:=D;rw[u] at L;obtain⟨rfl,rfl⟩:=trodVars_none L;simp at z k f;obtain⟨x,M,Y⟩:=aei Q E n F λj t v Z I=>y j t v (by simpa using Z) (by simpa using I);have hlen:∀{ts vs c ps},DataW.TrodAll enc P W 0 (λ_=>true) true ts vs c ps->c.length=ts.length:=by
  intro ts;induction ts with
  | nil=>intro vs c ps h;obtain⟨_,rfl,_⟩:=trodAll_nil h;rfl
  | cons t ts ih=>intro vs c ps h;obtain⟨v,vs',d,ds',p,q,rfl,rfl,rfl,h1,h2⟩:=trodAll_cons h;simp[ih h2]
 have l:=S c (hlen F);refine(T.calls _ W args x _ (λb o h=>h) U M<|f x M.ok Y).mono λe K hw=>?_;obtain⟨v,I',rfl,O,_,_,_,hr⟩:=hw;obtain⟨cs,rfl,I⟩:=hr;obtain rfl:v=.bool true:=by simpa [cY,Ty.isAgg] using I
 refine⟨_,rfl,c,[],p,[],p,[],z,?_,?_,?_,O.frame _,λh=>by cases h⟩
 .rw[tK,l,r];exact trodAll_mk1 (shut_bool C true)
 .rw[tK,l];exact O5 R i F (λx J=>O.same (k x J)) (λx J=>by simpa using k x J)
 .rw[tK,l,u];rfl
end
end Go.Ge
namespace Go.Ge
variable [Lp]
open RowKit
noncomputable def aej(cx:Ctx)(bf:List Nat)(b:List ResultVar)(R:Ty)(c:Code)(σ:St):Option R.den :=
 ((js cx 0 bf zD c [] σ).bind λr=>bif Nat.beq r.1 1 then((results1 cx r.2 b).bind λv=>match jj (gX r.2.mem) R (zG R v) with
  | some y=>.ret y
  | none=>.fail) else .fail).run
section
variable {P:Program} {cx:Ctx} {bf:List Nat}
def Gq{G}:yx P G zD:=λB γ σ aV w f b c v _ _ _ h=>by cases h
def AG:∀f b σ v aV,(zD f b σ).run=aa (v,aV)->bU σ aV:=λf b σ v aV h=>by cases h
def Ends(w:World)(I:Nat->Nat->Prop)(R:Ty)(y:R.den)(e:Ending)(d:World):Prop :=
 ∃v c,e=.returned v/\Below w.heap.size w d/\(∀b o,I b o->c b o)/\(∀b o,c b o->b<d.heap.size)/\(∀b o,c b o->¬I b o->w.heap.size<=b)/\lS d c R y v
def Qi{Q}(g:P.follows .mixedOrders=true)(q:fN P cx){G}(i:pS P G cx){fn R y c σ γ a w0 w N I}
  (z:∀t∈writes c,t<N) (A:aej cx bf fn.results.toList R c σ=aa y) (h:dy (oS G w0.heap.size) N γ σ a w) (C:Ext (oS G w0.heap.size) ⟨I,λ_=>af⟩ (λ_=>af) w0 γ σ.mem w)
  (D:∀a w,bodyPost P fn (Ends w0 I R y) .ret a w->Q .ret a w):c.wp P Q a w:=by
 obtain⟨r,j,k⟩:=bind_some A;obtain⟨e,aV⟩:=r;obtain⟨E,F⟩:=ay k;obtain⟨v,J,l⟩:=bind_some F;have K:jj (gX aV.mem) R (zG R v)=aa y:=by
  split at l
  .rename_i T m;obtain rfl:=aI l;exact m
  .cases l
 refine vo g q i Gq AG c z j h λbE u w' s x f=>?_;obtain⟨d,L,M⟩:=zd q s J;have n:=C.trans x;have key:Ends w0 I R y (.returned d) w':=by
  refine⟨d,λb o=>bE.I b o\/(w0.heap.size<=b/\b<w'.heap.size),rfl,n.below.below,λb o hi=>.inl (n.I b o hi),λb o hi=>?_,λb o hi O=>?_,Qh (σ:=gX aV.mem) s.ok (λb o hi=>.inl hi) (λb o j k=>.inr ⟨sk.1 j,k⟩) M K⟩
  .rcases hi with hi|hi
   .exact s.ok.vg b o hi
   .exact hi.2
  .rcases hi with hi|hi
   .exact sk.1 ((n.r4 b o hi).resolve_left O)
   .exact hi.1
 have:u.defers=[]/\∃S,(results fn u.tmps).run P w'=.ok S w'/\Ends w0 I R y _ w':=⟨s.defers,d,L,key⟩;have p:e=1:=gx E;subst p;exact D _ _ this
def U6(s:P.follows .mixedOrders=true)(hc:fN P cx){G}(z:pS P G cx){f tid id1 fn e W R2 R3 o0 o1 ty2}{q:List e.den->St}
  (hP:P.funcs[f]?=aa fn) (M:(fn.name == "runtime.NumGoroutine")=false)
  (A:fn.body=aa (.seq W<|.seq (.seq (.region id1 #[o0,o1] false)<|.cond (.tmp 4) (.seq R2 .ret) .skip)<|.seq R3 .ret))
  (hT:find cx.T tid=aa (.slice e)) (hN:4<fn.ntmps) (hd:∀t∈writes W++(writes R2++writes R3),t<fn.ntmps)
  (g0:o0.guard=af) (d0:o0.dst=aa 3) (p0:o0.op=.move (.tmp 0)) (g1:o1.guard=af) (d1:o1.dst=aa 4) (p1:o1.op=.binOp .eql tid (.tmp 3) (.const<|.slice af 0 0) ty2)
  (h0:∀l,(js cx 0 bf zD W []<|yu (λ_=>af) [.data (.slice e) l]).run=aa (0,q l)) (hs0:∀l,(q l).bh 0=.data (.slice e) l) (hs3:∀l,(q l).bh 3=.undef) (hs4:∀l,(q l).bh 4=.undef)
  (hA:∀l,aej cx bf fn.results.toList (.pair (.slice e) .unit) (.seq R2 .ret) (q l)=aa (([]:List e.den),()))
  (hB:∀l,fits (len l)=true->aej cx bf fn.results.toList (.pair (.slice e) .unit) (.seq R3 .ret) (q l)=aa (l,())) :
  Holds P G f ⟨.pair (.slice e) .unit,.pair (.slice e) .unit,λx=>bif fits (len (α:=e.den) x.1) then aa x else af⟩ where
 body:=⟨fn,_,hP,M,A⟩
 calls:=by
  intro I w r x y hI hG O p;obtain⟨l,u⟩:=x;change List e.den at l;have C:fits (len l)=true/\y=(l,()):=by
   change (bif fits _ then aa _ else af)=aa y at p;cases V:fits _ with
   | true=>rw[V] at p;exact⟨rfl,(aI p).symm⟩
   | false=>rw[V] at p;cases p
  obtain⟨C,rfl⟩:=C;obtain⟨cs,X,Y,Z,R⟩:=O;obtain rfl:X=[]:=R;obtain⟨eid,amh,_⟩:=(hc.T _ _ hT).slice;have hm:bF (oS G w.heap.size) ⟨I,λ_=>af⟩ _ w :=
   { vh:=λb Q g=>by
      obtain⟨o,h1,h2⟩:=hG b Q g;exact⟨λD=>by have:=sk.1 D;have:=(xe.1 h1).1;omega,o,h1,h2⟩
     base:=bV _
     boxes:=λb bx D=>by cases D
     inj:=λb c S k k' D=>absurd rfl D
     fresh:=λb S k D=>absurd rfl D
     vg:=hI
     sep:=λb bx S k off D=>by cases D }
  have hv:lT ⟨I,λ_=>af⟩ (λ_=>af) w [.data (.slice e) l] r.toList:=by
   rw[Y];refine⟨rfl,λi v x hv hx=>?_⟩;cases i with
   | zero=>obtain rfl:=aI hv;obtain rfl:=aI hx;exact⟨cs,Z,rfl⟩
   | succ i=>cases hv
  refine calls_of_wp hP A (wp_seq ?_);have WS:r.size=1:=by have:=congrArg List.length Y;simpa using this
  have hNN:r.size+(fn.ntmps-r.size)=fn.ntmps:=ah;have K:=HN hm hv fn.ntmps;rw[hNN] at K;refine vo s hc z Gq AG W (λt ht=>hd t (DP _ ht)) (h0 l) K λγ1 F J s1 x1 f1=>?_;refine wp_seq (wp_seq<|wp_region_list ?_);have hr0:=s1.bh 0;rw[hs0] at hr0;obtain⟨cs1,hc1,hv1⟩:=eg.1 hr0;have hsl:∃j n m,F.tmps.getD 0 Go.undef=.slice j n m/\(j=af->l=[]):=by
   rcases hc1 with ⟨⟨j,k1⟩,k2⟩|⟨S,off,m,k1,_⟩
   .exact⟨j,0,0,by rw[hv1,k1];rfl,λ_=>k2⟩
   .exact⟨_,_,_,by rw[hv1,k1];rfl,λh=>by cases h⟩
  obtain⟨j,n,m,amj,U⟩:=hsl;have E:∀{d},(q l).bh d=.undef->(q l).put d .undef=q l:=by
   intro d hd0;unfold St.put
   congr 1
   funext t;cases D:Nat.beq t d with
   | true=>obtain rfl:=gx D;exact hd0.symm
   | false=>rfl
  have s2:dy (oS G w.heap.size) fn.ntmps γ1 (q l) (F.put (aa 3)<|.slice j n m) J:=by
   have:=s1.xv (d:=aa 3) (v:=.undef) (val:=.slice j n m) (λk hk=>by cases hk;omega) ⟨_,rfl⟩;rw[show(q l).bu (aa 3) .undef=q l from E (hs3 l)] at this;exact this
  have s3:dy (oS G w.heap.size) fn.ntmps γ1 (q l) ((F.put (aa 3)<|.slice j n m).put (aa 4)<|.bool j.isNone) J:=by
   have:=s2.xv (d:=aa 4) (v:=.undef) (val:=.bool j.isNone) (λk hk=>by cases hk;omega) ⟨_,rfl⟩;rw[show(q l).bu (aa 4) .undef=q l from E (hs4 l)] at this;exact this
  have e3:(F.put (aa 3)<|.slice j n m).eval (.tmp 3)=.slice j n m:=by
   simp[Act.eval,Act.put,s1.size];omega
  have e4:((F.put (aa 3)<|.slice j n m).put (aa 4)<|.bool j.isNone).eval (.tmp 4)=.bool j.isNone:=by
   have:=s2.size;simp only[Act.eval];generalize F.put _ _=a2 at this⊢;simp[Act.put,this,hN]
  unfold wpList;rw[show Region.wanted o0 _=true by unfold Region.wanted;rw[g0]];refine .inl ?_;unfold Oper.wp;have ex0:(execOp F.eval o0).run P J=.ok (.value<|.slice j n m) J:=by
   have:F.eval (.tmp 0)=.slice j n m:=amj;simp only[execOp,p0,this];rfl
  rw[ex0];show wpList P #[o0,o1] _ [o1] _ J
  rw[d0];unfold wpList;rw[show Region.wanted o1 _=true by unfold Region.wanted;rw[g1]];refine .inl ?_;unfold Oper.wp;have ex1:(execOp (F.put (aa 3)<|.slice j n m).eval o1).run P J=.ok (.value<|.bool j.isNone) J:=by
   have aiK:(F.put (aa 3)<|.slice j n m).eval (.const _)=.slice af 0 0:=rfl;have hg:(eqGuard .eql tid (.tmp 3) (.const<|.slice af 0 0) (.slice j n m)<|.slice af 0 0).run P J=.ok () J:=by simp[eqGuard]
   simp only[execOp,p1,e3,aiK,Sem.run_bind,hg,_root_.Go.run_eql_slice_nil J tid eid j n m amh,Result.andThen_ok,Sem.run_pure]
  rw[ex1];simp only[Oper.upon];rw[d1];have L:∀{t},t∈writes R2++writes R3->t∈writes W++_:=λh=>JM _ h;refine wp_cond_split e4 (λhn=>?_) (λhn=>(wp_skip<|Qi s hc z (λt ht=>hd t (L<|JM _<|by simpa [writes] using ht)) (hB l C) s3 x1 λa w V=>V))
  .have hl:=U (by simpa using hn);have:=hA l;rw[<-hl] at this;exact Qi s hc z (λt ht=>hd t (L<|DP _<|by simpa [writes] using ht)) this s3 x1 λa w V=>V
noncomputable def aek(cx:Ctx)(bf:List Nat)(b:List ResultVar)(e:Ty)(c:Code)(d:St):Option (List e.den) :=
 ((js cx 0 bf zD c [] d).bind λr=>bif Nat.beq r.1 1 then((results1 cx r.2 b).bind λv=>match Av e r.2 v with
  | some x=>.ret x.2.2.2
  | none=>.fail) else .fail).run
def ael(w:World)(I:Nat->Nat->Prop)(e:Ty)(l:List e.den)(q:Ending)(d:World):Prop :=
 ∃v f L,q=.returned v/\lU w I (λ_=>False) d f/\xC d f e l L v/\∀b c,L=aa (b,c)->w.heap.size<=b
def MC{Q}(i:P.follows .mixedOrders=true)(u:fN P cx){G}(j:pS P G cx){fn e l c σ γ a w0 w N I}
  (F:∀t∈writes c,t<N) (J:aek cx bf fn.results.toList e c σ=aa l) (h:dy (oS G w0.heap.size) N γ σ a w) (K:Ext (oS G w0.heap.size) ⟨I,λ_=>af⟩ (λ_=>af) w0 γ σ.mem w)
  (L:∀a w,bodyPost P fn (ael w0 I e l) .ret a w->Q .ret a w):c.wp P Q a w:=by
 obtain⟨r,M,O⟩:=bind_some J;obtain⟨x,aV⟩:=r;obtain⟨R,S⟩:=ay O;obtain⟨v,T,n⟩:=bind_some S;split at n
 case h_2=>cases n
 rename_i o y;obtain⟨b,U,bx,z⟩:=o;obtain rfl:=aI n;obtain⟨V,A,C,W,X,D,_⟩:=vm y;refine vo i u j Gq AG c F M h λbE E w' s x f=>?_;obtain⟨d,Y,Z⟩:=zd u s T;have g:=K.trans x;obtain⟨m,he⟩:=P7 s.ok y Z;have key:ael w0 I e z (.returned d) w':=by
  refine⟨d,bE.I,bE.loc b,rfl,⟨⟨g.below.os,g.below.tape,g.below.output,g.below.size,λk hk=>g.below.block k hk⟩,g.I,s.ok.vg,λb o hi hn=>sk.1 ((g.r4 b o hi).resolve_left hn)⟩,m,λp c hl=>?_⟩;exact sk.1 (s.ok.fresh b p c (by rw[V];simp) hl).1
 have:E.defers=[]/\∃v1,(results fn E.tmps).run P w'=.ok v1 w'/\ael w0 I e z _ w':=⟨s.defers,d,Y,key⟩;have q:_=1:=gx R;subst q;exact L _ _ this
def aa7(q:P.follows .mixedOrders=true)(hc:fN P cx)(r:pS P dE cx){f tid id1 fn e L R2 R3 o0 o1 ty2}{o:List e.den->St}
 (hP:P.funcs[f]?=aa fn) (E:(fn.name == "runtime.NumGoroutine")=false)
 (s:fn.body=aa (.seq L<|.seq (.seq (.region id1 #[o0,o1] false)<|.cond (.tmp 4) (.seq R2 .ret) .skip)<|.seq R3 .ret))
 (hT:find cx.T tid=aa (.slice e)) (hN:4<fn.ntmps) (hd:∀t∈writes L++(writes R2++writes R3),t<fn.ntmps)
 (g0:o0.guard=af) (d0:o0.dst=aa 3) (p0:o0.op=.move (.tmp 0)) (g1:o1.guard=af) (d1:o1.dst=aa 4) (p1:o1.op=.binOp .eql tid (.tmp 3) (.const<|.slice af 0 0) ty2)
 (h0:∀l,(js cx 0 bf zD L []<|yu (λ_=>af) [.data (.slice e) l]).run=aa (0,o l)) (hs0:∀l,(o l).bh 0=.data (.slice e) l) (hs3:∀l,(o l).bh 3=.undef) (hs4:∀l,(o l).bh 4=.undef)
 (hA:∀l,aek cx bf fn.results.toList e (.seq R2 .ret) (o l)=aa [])
 (hB:∀l,fits (len l)=true->aek cx bf fn.results.toList e (.seq R3 .ret) (o l)=aa l) :
 pR P f (.clone e):=by
 refine⟨⟨fn,_,hP,E,s⟩,λI w p l hI F M=>?_⟩;obtain⟨cs,O,R,S,G⟩:=F;obtain rfl:O=[]:=G;obtain⟨eid,U,_⟩:=(hc.T _ _ hT).slice;have hm:bF (oS dE w.heap.size) ⟨I,λ_=>af⟩ _ w :=
  { vh:=λb Q g=>g.elim
    base:=bV _
    boxes:=λb bx A=>by cases A
    inj:=λb c J k k' A=>absurd rfl A
    fresh:=λb J k A=>absurd rfl A
    vg:=hI
    sep:=λb bx J k off A=>by cases A }
 have hv:lT ⟨I,λ_=>af⟩ (λ_=>af) w [.data (.slice e) l] p.toList:=by
  rw[R];refine⟨rfl,λi v x hv hx=>?_⟩;cases i with
  | zero=>obtain rfl:=aI hv;obtain rfl:=aI hx;exact⟨cs,S,rfl⟩
  | succ i=>cases hv
 refine calls_of_wp hP s (wp_seq ?_);have WS:p.size=1:=by have:=congrArg List.length R;simpa using this
 have hNN:p.size+(fn.ntmps-p.size)=fn.ntmps:=ah;have C:=HN hm hv fn.ntmps;rw[hNN] at C;refine vo q hc r Gq AG L (λt V=>hd t (DP _ V)) (h0 l) C λW y z s1 x1 f1=>?_;refine wp_seq (wp_seq<|wp_region_list ?_);have X:=s1.bh 0;rw[hs0] at X;obtain⟨cs1,hc1,Y⟩:=eg.1 X;have hsl:∃j n m,y.tmps.getD 0 Go.undef=.slice j n m/\(j=af->l=[]):=by
  rcases hc1 with ⟨⟨j,k1⟩,k2⟩|⟨J,off,m,k1,_⟩
  .exact⟨j,0,0,by rw[Y,k1];rfl,λ_=>k2⟩
  .exact⟨_,_,_,by rw[Y,k1];rfl,λh=>by cases h⟩
 obtain⟨j,n,m,Z,K⟩:=hsl;have u:∀{d},(o l).bh d=.undef->(o l).put d .undef=o l:=by
  intro d hd0;unfold St.put
  congr 1
  funext t;cases A:Nat.beq t d with
  | true=>obtain rfl:=gx A;exact hd0.symm
  | false=>rfl
 have s2:dy (oS dE w.heap.size) fn.ntmps W (o l) (y.put (aa 3)<|.slice j n m) z:=by
  have:=s1.xv (d:=aa 3) (v:=.undef) (val:=.slice j n m) (λk hk=>by cases hk;omega) ⟨_,rfl⟩;rw[show(o l).bu (aa 3) .undef=o l from u (hs3 l)] at this;exact this
 have s3:dy (oS dE w.heap.size) fn.ntmps W (o l) ((y.put (aa 3)<|.slice j n m).put (aa 4)<|.bool j.isNone) z:=by
  have:=s2.xv (d:=aa 4) (v:=.undef) (val:=.bool j.isNone) (λk hk=>by cases hk;omega) ⟨_,rfl⟩;rw[show(o l).bu (aa 4) .undef=o l from u (hs4 l)] at this;exact this
 have e3:(y.put (aa 3)<|.slice j n m).eval (.tmp 3)=.slice j n m:=by
  simp[Act.eval,Act.put,s1.size];omega
 have e4:((y.put (aa 3)<|.slice j n m).put (aa 4)<|.bool j.isNone).eval (.tmp 4)=.bool j.isNone:=by
  have:=s2.size;simp only[Act.eval];generalize y.put _ _=a2 at this⊢;simp[Act.put,this,hN]
 unfold wpList;rw[show Region.wanted o0 _=true by unfold Region.wanted;rw[g0]];refine .inl ?_;unfold Oper.wp;have ex0:(execOp y.eval o0).run P z=.ok (.value<|.slice j n m) z:=by
  have:y.eval (.tmp 0)=.slice j n m:=Z;simp only[execOp,p0,this];rfl
 rw[ex0];show wpList P #[o0,o1] _ [o1] _ z
 rw[d0];unfold wpList;rw[show Region.wanted o1 _=true by unfold Region.wanted;rw[g1]];refine .inl ?_;unfold Oper.wp;have ex1:(execOp (y.put (aa 3)<|.slice j n m).eval o1).run P z=.ok (.value<|.bool j.isNone) z:=by
  have aiK:(y.put (aa 3)<|.slice j n m).eval (.const _)=.slice af 0 0:=rfl;have hg:(eqGuard .eql tid (.tmp 3) (.const<|.slice af 0 0) (.slice j n m)<|.slice af 0 0).run P z=.ok () z:=by simp[eqGuard]
  simp only[execOp,p1,e3,aiK,Sem.run_bind,hg,_root_.Go.run_eql_slice_nil z tid eid j n m U,Result.andThen_ok,Sem.run_pure]
 rw[ex1];simp only[Oper.upon];rw[d1];have D:∀{t},t∈writes R2++writes R3->t∈writes L++_:=λh=>JM _ h;refine wp_cond_split e4 (λhn=>?_) (λhn=>(wp_skip<|MC q hc r (λt V=>hd t (D<|JM _<|by simpa [writes] using V)) (hB l M) s3 x1 λa w hq=>hq))
 .have hl:=K (by simpa using hn);have:=hA l;rw[<-hl] at this;exact MC q hc r (λt V=>hd t (D<|DP _<|by simpa [writes] using V)) this s3 x1 λa w hq=>hq
end
end Go.Ge
namespace Go.Ge
variable [Lp]
def cV{S R}{f:S->Option (S⊕R)}{r}:∀k (st:Nat->S),(∀i,i<k->f (st i)=aa (.inl<|st<|i+1))->f (st k)=aa (.inr r)->Loop f (st 0)=aa r:=by
 intro k;induction k with
 | zero=>intro st _ h;rw[aN,h];rfl
 | succ k c =>
   intro st b d;rw[aN,b 0 ah];exact c _ (λi e=>b _ ah) d
def aB{i:Nat}(h:i<4611686018427387904):aw .i64 i 1=((i+1:Nat):Int):=by
 unfold aw;simp[IntKind.wrap,IntKind.bits];omega
def su{α}(l:List α)(i:Nat):idx l i=l[i]?:=by
 unfold idx;simp
def aa8{n:Nat}(h:n<=4294967296):fits n=true:=by
 unfold fits;simp;omega
def ai{α}(x y:α):ak true x y=x:=rfl
def ag{α}(x y:α):ak false x y=y:=rfl
def ab{α β} x (f:α->Option β):ae (aa x) f=f x:=rfl
def zQ a:bt a a=true:=by simp[bt]
def oj a:aG a a=true:=by simp[aG]
def aW:nt true=false:=rfl
def aE:nt false=true:=rfl
def aiL{P tys}(h:(tys.all λp=>gf P p.2 false p.1 0 [])=true):∀tid t,find tys tid=aa t->Den P t tid:=λtid t b=>by
 rw[wa] at h;exact h _ (ss b)
def Qj{l t}(h:dc l t=true):t∈l:=Cc.1 h
def akz(P:Program)(b:TypeId):Bool:=(match P.underlying b with|some (.pointer _)=>true|some (.func ..)=>true|_=>false)&&(match P.info? b with|some i=>Nat.beq i.size 1&&(match i.zero with|some z=>z.oneCell'|none=>false)|none=>false)
def agM{P vf}(h:(vf.all λt=>akz P t)=true):∀tid,dc vf tid=true->(∀w,(isAgg tid).run P w=.ok false w)/\(∀w,(Go.sizeOf tid).run P w=.ok 1 w)/\∃z,(∀w,(zeroValue tid).run P w=.ok z w)/\z.oneCell'=true:=λtid g=>by
 rw[wa] at h;have:=h tid (Qj g);simp only[akz,gw] at this;obtain⟨f,b⟩:=this;refine⟨?_,?_,?_⟩
 .intro w;split at f
  .rename_i c;simp[isAgg,run_underlying c]
  .rename_i c;simp[isAgg,run_underlying c]
  .cases f
 .intro w;split at b
  .rename_i i d;simp only[gw] at b;have:=gx b.1;simp[Go.sizeOf,typeInfo,d,this]
  .cases b
 .split at b
  .rename_i i d;simp at b;obtain⟨_,e⟩:=b;split at e
   .rename_i z j;exact⟨z,λw=>by simp[zeroValue,typeInfo,d,j],e⟩
   .cases e
  .cases b
def akA(P:Program)(b:TypeId):Bool:=match P.underlying b with|some (.pointer _)=>true|_=>false
def agN{P DW}(h:(DW.all λt=>akA P t)=true):∀tid,dc DW tid=true->∃e,P.underlying tid=aa (.pointer e):=λtid b=>by
 rw[wa] at h;have:=h tid (Qj b);unfold akA at this;split at this
 .rename_i e c;exact⟨e,c⟩
 .cases this
def Sk{P G}:∀p∈([]:List (Nat×Rt)),Holds P G p.1 p.2:=λp h=>by cases h
def MD{P G}:∀p∈([]:List (Nat×T9)),RO P G p.1 p.2:=λp h=>by cases h
def Zx{P}:∀p∈([]:List (Nat×Spc)),pR P p.1 p.2:=λp b=>by cases b
def dC{P f s l}(h:pR P f s)(c:∀p∈l,pR P p.1 p.2):∀p∈(f,s)::l,pR P p.1 p.2:=λp b=>by
 rcases fh.1 b with rfl|b
 .exact h
 .exact c p b
def Qk{α}:∀{l:List (String×α)} {k a},PW l k=aa a->(k,a)∈l
 | [],_,_,h=>by cases h
 | (i,a)::r,k,b,h=>by
   unfold PW at h;by_cases e:i=k
   .rw[cU e] at h;obtain rfl:=e;obtain rfl:=aI h;exact ri ..
   .rw[cd e] at h;exact v8 _ (Qk h)
def Sl{P G}:∀p∈([]:List (String×Rt)),AE P G p.1 p.2:=λp h=>by cases h
def ME{P G}:∀p∈([]:List (Nat×Hp)),oh P G p.1 p.2:=λp h=>by cases h
def MF{P G cx}(h:∀p∈cx.Ua,Holds P G p.1 p.2)(k:∀p∈cx.OA,RO P G p.1 p.2)(s:∀p∈cx.PV,pR P p.1 p.2)(v:∀p∈cx.inv,AE P G p.1 p.2)(q:∀p∈cx.Ru,oh P G p.1 p.2):pS P G cx :=
 ⟨λf c b=>h _ (ss b),λf c b=>k _ (ss b),λf c b=>s _ (ss b),λn c b=>v _ (Qk b),λf c b=>q _ (ss b)⟩
def agO{P wb}(h:(wb.all λp=>OB P p.1 p.2)=true):∀tid b,find wb tid=aa b->OB P tid b=true:=λtid b c=>by
 rw[wa] at h;exact h _ (ss c)
def elB(P:Program)(p:Nat×Nat):Bool:=match P.underlying p.1 with|some (.slice e)=>Nat.beq e p.2|_=>false
def aiM{P els}(h:(els.all λp=>elB P p)=true):∀tid e,find els tid=aa e->P.underlying tid=aa (.slice e):=λtid e b=>by
 rw[wa] at h;have:=h _ (ss b);unfold elB at this;split at this
 .rename_i d c;rw[c,gx this]
 .cases this
def U7{P t i z}(h:P.info? t=aa i)(k:i.zero=aa z) w:(zeroValue t).run P w=.ok z w:=by simp[zeroValue,typeInfo,h,k]
def Gr(I:Nat->Nat->Prop) w:EG dE w:=λb Q h=>h.elim
end Go.Ge
namespace Go.Ge
open RowKit
def Bs c:∀l,-1<=Lib.indexByte l c/\Lib.indexByte l c<l.length:=by
 intro l;induction l with
 | nil=>exact⟨by simp[Lib.indexByte],by simp[Lib.indexByte]⟩
 | cons b r d =>
   unfold Lib.indexByte;split
   .exact⟨aT,by simp only[iD];omega⟩
   .split
    .exact⟨aT,cT⟩
    .simp;omega
def Zy{P:Program}{f:Nat}{fn}(d:P.funcs[f]?=aa fn)(c:(fn.name == "runtime.NumGoroutine")=false)(e:fn.body.isSome=true) :
  ∃fn b,P.funcs[f]?=aa fn/\(fn.name == "runtime.NumGoroutine")=false/\fn.body=aa b:=by
 obtain⟨b,g⟩:=Ld.1 e;exact⟨fn,b,d,c,g⟩
def U8{w:World}{b p q v T c}(h:w.heap[b]?=aa (.cells #[p,v] T c)):w.setCell ⟨b,0,af⟩ q=w.setRow b #[q,v]:=by
 unfold World.setCell World.setRow
 congr 1
 apply Array.ext_getElem?;intro i;simp only[TO];by_cases e:b=i
 .subst e;simp[h]
 .simp[e]
def yo.refl b w:yo b w w:=⟨rfl,rfl,rfl,bV _,λ_ _ _=>rfl,λ_ _ _=>rfl⟩
def yo.weaken{b w w'}(h:yo af w w'):yo b w w':=⟨h.os,h.tape,h.output,h.size,λk c _=>h.block k c aT,h.cell⟩
def yo.drew{b w w'}(h:yo b w w'):yo b w w'.drew:=⟨h.os,h.tape,h.output,h.size,h.block,h.cell⟩
def yo.alloc{d w w'}(h:yo d w w') o:yo d w (w'.alloc o) where
 os:=h.os
 tape:=h.tape
 output:=h.output
 size:=fi h.size aT
 block:=λk b e=>(cZ w' o k<|zv b h.size).trans (h.block k b e)
 cell:=λk c b=>(dF<|cZ w' o k<|zv b h.size).trans (h.cell k c b)
def yo.freeze{g w w'}(h:yo (aa g) w w') n:yo (aa g) w (w'.freeze ⟨g,0,af⟩ n):=by
 unfold World.freeze;split
 .exact h
 .refine⟨h.os,h.tape,h.output,fi h.size aT,λk d f=>?_,λk c d=>?_⟩
  .have b:¬g=k:=λe=>f (by rw[e]);rw[<-h.block k d f];simp[TO,b]
  .rw[<-h.cell k c d];by_cases e:g=k
   .subst e;simp only[World.cell?,TO];cases w'.heap[g]? with
    | none=>rfl
    | some o=>cases o<;>rfl
   .have b:=e;simp[World.cell?,TO,b]
def Sn{P G}{f:Nat}{fn}{spec:bb->Int->Int}(v:P.funcs[f]?=aa fn)(g:(fn.name == "runtime.NumGoroutine")=false)(z:fn.body.isSome=true)
  (A:∀s c,(-1<=spec s c/\spec s c<s.length))
  (h:∀s c w,Calls P f #[.string s,.int .u8 c] w λe w'=>e=.returned (.int .i64<|spec s.data.toList c)/\w'=w) :
  Holds P G f ⟨.pair .str<|.pair (.int .u8) .unit,.pair (.int .i64) .unit,λx=>aa (spec x.1 x.2.1,())⟩ where
 body:=by
  obtain⟨m,C⟩:=Ld.1 z;exact⟨fn,m,v,g,C⟩
 calls:=by
  intro I w n x y D L i j;obtain⟨s,c,u⟩:=x;obtain rfl:_=y:=aI j;obtain⟨M,t,r,p,E,k,q,l,d⟩:=i;obtain rfl:k=[]:=d;obtain⟨rfl,F⟩:=p;obtain⟨rfl,_⟩:=l;obtain rfl:n=#[.string ⟨s.toArray⟩,.int .u8 c]:=by
   apply BU.1;rw[r,q];rfl
  refine(h ⟨s.toArray⟩ c w).mono ?_;rintro e w' ⟨rfl,rfl⟩;refine⟨_,I,rfl,Below.refl _ _,λb o h=>h,D,λb o J K=>absurd J K,?_⟩;have O:=A s c;have Q:s.length<=maxLen:=F;refine⟨[.int .i64 _],⟨rfl,?_,?_⟩,rfl⟩
  .have:(i64).min=-9223372036854775808:=aD;show(i64).min<=spec s c
   omega
  .have:(i64).max=9223372036854775807:=aD;have:maxLen=140737488355328\/maxLen<=9223372036854775807:=by right;decide
   show spec s c<=(i64).max
   omega
def O6{P G}{f:Nat}{fn}{spec:bb->Int->Option bb}(D:P.funcs[f]?=aa fn)(g:(fn.name == "runtime.NumGoroutine")=false)(E:fn.body.isSome=true)
  (F:∀s c y,spec s c=aa y->y.length<=maxLen)
  (h:∀s c w y,(i64).min<=c/\c<=(i64).max->s.data.toList.length<=maxLen->spec s.data.toList c=aa y ->
   Calls P f #[.string s,.int .i64 c] w λe w'=>e=.returned (.string ⟨y.toArray⟩)/\Below w.heap.size w w') :
  Holds P G f ⟨.pair .str<|.pair (.int .i64) .unit,.pair .str .unit,λx=>(spec x.1 x.2.1).map λy=>(y,())⟩ where
 body:=by
  obtain⟨m,r⟩:=Ld.1 E;exact⟨fn,m,D,g,r⟩
 calls:=by
  intro I w n x y J Q i j;obtain⟨s,c,u⟩:=x;obtain⟨z,v,rfl⟩:=EA.1 j;obtain⟨R,A,t,p,K,k,q,l,d⟩:=i;obtain rfl:k=[]:=d;obtain⟨rfl,L⟩:=p;obtain⟨rfl,r⟩:=l;obtain rfl:n=#[.string ⟨s.toArray⟩,.int .i64 c]:=by
   apply BU.1;rw[t,q];rfl
  refine(h ⟨s.toArray⟩ c w z r L v).mono ?_;rintro e w' ⟨rfl,C⟩;exact⟨_,I,rfl,C,λb o h=>h,λb o h=>zv (J b o h) C.size,λb o M O=>absurd M O,[.string ⟨z.toArray⟩],⟨rfl,F _ _ _ v⟩,rfl⟩
end Go.Ge
namespace Go.Ge
open RowKit Go.Proofs Go.Shelf
def Any.XS s c:((Lib.countByte s.data.toList c:Nat):Int)=((Lib.countB s ⟨#[c]⟩:Nat):Int):=by
 show((s.data.toList.count c):Int)=((Lib.count s.data.toList [c]):Int)
 rw[Lib.count_one]
set_option maxHeartbeats 1000000 in
def Any.EY{P ρ}(L:Lays.n146 P ρ)(k:(P.info?<|ρ.t 9).map (λi=>(i.zero,i.size,i.bytes))=aa (aa<|.string ByteArray.empty,1,16)) s b w
  (n:s.size<4294967281) :
  Calls P (ρ.f 146) #[.string s,.string ⟨#[b]⟩] w λe w' =>
   e=.returned (.slice (aa ⟨w.heap.size,0,af⟩) (Lib.countB s ⟨#[b]⟩+1)<|Lib.countB s ⟨#[b]⟩+1)/\w'=w.alloc (.cells ((Lib.splitB ⟨#[b]⟩ 0 (Lib.countB s ⟨#[b]⟩) s).map Value.string).toArray<|ρ.t 9):=by
 have j:1<=(⟨#[b]⟩:ByteArray).size:=bV _;generalize d:(⟨#[b]⟩:ByteArray)=sep at j;have o:=Lib.countB_le sep j s.size s (bV _);have hlen:=Lib.splitB_all sep j 0 _ s rfl;have c:=Proofs.Any.strings_genSplit_core { L with } k s sep 0 (-1) (Lib.countB s sep+1) w n j (pW _)
  (λx c p=>by
   subst d;refine(Proofs.Any.strings_Index_one { L with } x b _).mono λe w' ⟨l,g⟩=>⟨?_,g⟩;rw[l];show _=Ending.returned (Value.int .i64<|Lib.index x.data.toList [b])
   rw[Lib.index_one])
  (by
   subst d;refine(Proofs.Any.strings_Count_one { L with } s b w).mono λe w' ⟨l,g⟩=>⟨?_,g⟩;rw[l,Any.XS])
  aD aD ah
 have q:Lib.cellsOf (Lib.splitB sep 0 (Lib.countB s sep) s) (Lib.countB s sep+1)=((Lib.splitB sep 0 (Lib.countB s sep) s).map Value.string).toArray:=by rw[<-hlen];apply Lib.cellsOf_full
 have m:∀h w,(callFunc _ h).run P w=.ok _ w:=enters_of L.f221 (by kernel_rfl) rfl
 go_enter L.f146,Body.n146_ntmps ρ
 go_wp2_with (go_at_fn (ρ.f 221);refine c.mono ?_;rintro e w' ⟨rfl,g⟩;rw[g])
 go_ret
 exact⟨rfl,rfl⟩
def Dk(s c:bb):Option (List bb):=match c with
 | [b]=>if s.length<4294967281 then aa (Lib.split s [b]) else af
 | _=>af
def aa9 sep:∀k s x,x∈Lib.splitK sep 0 k s->x.length<=s.length:=by
 intro k;induction k with
 | zero=>intro s x h;simp[Lib.splitK] at h;rw[h];apply bV
 | succ k b =>
   intro s x h;unfold Lib.splitK at h;split at h
   .simp at h;rw[h];apply bV
   .rcases fh.1 h with h|h
    .rw[h,dk];omega
    .have:=b _ _ h;rw[rj] at this;omega
def U9{P G}{f r:Nat}{fn}(U:P.funcs[f]?=aa fn)(g:(fn.name == "runtime.NumGoroutine")=false)(V:fn.body.isSome=true)
  (h:∀s b w,s.size<4294967281->Calls P f #[.string s,.string ⟨#[b]⟩] w λe w' =>
   e=.returned (.slice (aa ⟨w.heap.size,0,af⟩) (Lib.countB s ⟨#[b]⟩+1)<|Lib.countB s ⟨#[b]⟩+1)/\w'=w.alloc (.cells ((Lib.splitB ⟨#[b]⟩ 0 (Lib.countB s ⟨#[b]⟩) s).map Value.string).toArray r)) :
  Holds P G f ⟨.pair .str<|.pair .str .unit,.pair (.slice .str) .unit,λx=>(Dk x.1 x.2.1).map λy=>(y,())⟩ where
 body:=by
  obtain⟨t,W⟩:=Ld.1 V;exact⟨fn,t,U,g,W⟩
 calls:=by
  intro I w A x y X hG k l;obtain⟨s,m,u⟩:=x;change bb at s;change bb at m;obtain⟨z,n,rfl⟩:=EA.1 l;change Dk s m=aa z at n;have C:∃b,m=[b]/\s.length<4294967281/\z=Lib.split s [b]:=by
   unfold Dk at n;split at n
   .rename_i b;split at n
    .rename_i L;exact⟨b,rfl,L,(aI n).symm⟩
    .cases n
   .cases n
  obtain⟨b,rfl,L,rfl⟩:=C;obtain⟨cs,Q,M,D,Y,p,E,q,c⟩:=k;obtain rfl:p=[]:=c;obtain⟨rfl,O⟩:=D;obtain⟨rfl,_⟩:=q;obtain rfl:A=#[.string ⟨s.toArray⟩,.string ⟨#[b]⟩]:=by
   apply BU.1;rw[M,E];rfl
  refine(h ⟨s.toArray⟩ b w<|by show s.toArray.size<_;simpa using L).mono ?_;rintro e w' ⟨rfl,rfl⟩;have d:=Lib.splitB_data ⟨#[b]⟩ 0 (Lib.countB ⟨s.toArray⟩ ⟨#[b]⟩) ⟨s.toArray⟩;have hlen:=Lib.splitB_all ⟨#[b]⟩ (bV _) 0 _ ⟨s.toArray⟩ rfl;generalize Z:Lib.splitB ⟨#[b]⟩ 0 _ ⟨s.toArray⟩=R at d hlen;have hd:R.map _=Lib.split s [b]:=d;have hn:(Lib.split s [b]).length=Lib.countB ⟨s.toArray⟩ ⟨#[b]⟩+1:=by rw[<-hd,y4,hlen]
  have F:Lib.countB ⟨s.toArray⟩ ⟨#[b]⟩+1<=maxLen:=by
   have:=Lib.countB_le ⟨#[b]⟩ (bV _) s.length ⟨s.toArray⟩ (by show s.toArray.size<=_;simp);have e:(⟨s.toArray⟩:ByteArray).size=s.length:=by show s.toArray.size=_;simp
   have:4294967281<=maxLen:=aD;omega
  refine⟨_,λb o=>I b o\/b=w.heap.size,rfl,(Below.refl _ _).alloc (bV _) _,λb o h=>.inl h,λb o h=>?_,λb o K h2=>?_,?_⟩
  .have WS:(w.alloc<|.cells (R.map Value.string).toArray r).heap.size=w.heap.size+1:=aT;rcases h with h|h
   .have:=X b o h;omega
   .omega
  .rcases K with K|K
   .exact absurd K h2
   .omega
  .refine⟨[.slice _ _ _],?_,rfl⟩;refine .inr ⟨w.heap.size,0,Lib.countB ⟨s.toArray⟩ ⟨#[b]⟩+1,?_,?_,F,λi x S=>?_⟩
   .show _=[Value.slice _ (Lib.split s [b]).length _]
    rw[hn]
   .show(Lib.split s [b]).length<=_
    omega
   .have J:(Lib.split s [b])[i]?=aa x:=S;rw[<-hd,JN] at J;obtain⟨y,hy,rfl⟩:=EA.1 J;refine⟨[.string y],rfl,λj v T=>?_,?_⟩
    .cases j with
     | succ j=>cases T
     | zero =>
       obtain rfl:=aI T;simp[Ty.size,hy]
    .refine⟨?_,?_⟩
     .have:=(Lib.mk_data y).symm;rw[<-this]
     .have hm:=eG S;have:=aa9 _ _ _ _ hm;exact fi this O
def EZ(l:List bb)(b:bb):Option bb:=if l.length<=140737488355328/\(Lib.join l b).length<=140737488355328 then aa (Lib.join l b) else af
def XT{P G}{f:Nat}{fn}(hP:P.funcs[f]?=aa fn)(t:(fn.name == "runtime.NumGoroutine")=false)(hb:fn.body.isSome=true)
  (Y:∀a c d w,Calls P f #[.slice a 0 c,.string d] w λe w'=>e=.returned (.string ⟨#[]⟩)/\w'=w)
  (h:∀V o c (L:List ByteArray) d w,
  (∀j x,L[j]?=aa x->w.cell? ⟨V,o+j,af⟩=aa (.string x))->(V<w.heap.size)->(L.length<=140737488355328)->(L.length<=c) ->
  ((Lib.join (L.map (·.data.toList)) d.data.toList).length<=140737488355328) ->
  Calls P f #[.slice (aa ⟨V,o,af⟩) L.length c,.string d] w λe w'=>e=.returned (.string ⟨(Lib.join (L.map (·.data.toList)) d.data.toList).toArray⟩)/\Below w.heap.size w w') :
  Holds P G f ⟨.pair (.slice .str)<|.pair .str .unit,.pair .str .unit,λx=>(EZ x.1 x.2.1).map λy=>(y,())⟩ where
 body:=by
  obtain⟨M,W⟩:=Ld.1 hb;exact⟨fn,M,hP,t,W⟩
 calls:=by
  intro I w n x y Z hG A C;obtain⟨l,d,u⟩:=x;obtain⟨z,R,rfl⟩:=EA.1 C;unfold EZ at R;split at R
  case isFalse=>cases R
  rename_i g;obtain⟨D,g⟩:=g;obtain rfl:=aI R;obtain⟨cs,rest,O,Q,cs2,E,p,F,k⟩:=A;obtain rfl:E=[]:=k;obtain⟨rfl,hsm⟩:=F;have fin:∀{v},cs=[v]->∀{w'},Below w.heap.size w w'->∀{e:Ending},e=.returned (.string ⟨(Lib.join l d).toArray⟩) ->
    ∃v S,e=.returned v/\Below w.heap.size w w'/\(∀b o,I b o->S b o)/\(∀b o,S b o->b<w'.heap.size)/\(∀b o,S b o->¬I b o->w.heap.size<=b)/\lS w' S (.pair .str .unit) (Lib.join l d,()) v:=by
   intro v _ w' T e he;exact⟨_,I,he,T,λb o h=>h,λb o h=>zv (Z b o h) T.size,λb o h1 h2=>absurd h1 h2,[.string ⟨(Lib.join l d).toArray⟩],⟨rfl,(fi g aD)⟩,rfl⟩
  rcases Q with ⟨⟨q,rfl⟩,hl⟩|⟨J,K,m,rfl,s,agB,X⟩
  .obtain rfl:l=[]:=hl;obtain rfl:n=#[.slice q 0 0,.string ⟨d.toArray⟩]:=by
    apply BU.1;rw[O,p];rfl
   refine(Y q 0 ⟨d.toArray⟩ w).mono ?_;rintro e w' ⟨rfl,rfl⟩;exact fin rfl (Below.refl _ _) rfl
  .change l.length<=m at s;obtain rfl:n=#[.slice _ l.length m,.string ⟨d.toArray⟩]:=by
    apply BU.1;rw[O,p];rfl
   cases l with
   | nil =>
     refine(Y _ m ⟨d.toArray⟩ w).mono ?_;rintro e w' ⟨rfl,rfl⟩;exact fin rfl (Below.refl _ _) rfl
   | cons a r =>
     have i:∀j x,(a::r)[j]?=aa x->w.cell? ⟨J,K+j,af⟩=aa (.string ⟨x.toArray⟩)/\I J (K+j):=by
      intro j x U;obtain⟨es,he,W,hr⟩:=X j x U;obtain⟨rfl,_⟩:=hr;have:=W 0 _ rfl;simpa [Ty.size] using this
     have e1:((a::r).map λx=>(⟨x.toArray⟩:ByteArray)).map (·.data.toList)=a::r:=by
      rw[List.map_map];exact List.map_id'' (λx=>rfl) _
     have:=h J K m _ ⟨d.toArray⟩ w (λj x U=>by
      rw[JN] at U;obtain⟨y,hy,rfl⟩:=EA.1 U;exact(i j y hy).1) (Z _ _ (i 0 a rfl).2) (by rw[y4];exact D) (by rw[y4];exact s) (by rw[e1];exact g)
     rw[e1,y4] at this;refine this.mono ?_;rintro e w' ⟨rfl,T⟩;exact fin rfl T rfl
end Go.Ge
namespace Go.Ge
open RowKit
def MG{P G f fn}(C:P.funcs[f]?=aa fn)(q:(fn.name == "runtime.NumGoroutine")=false)(D:fn.body.isSome=true){T F:Nat}{t A U R:Ty}{W:((t.den×A.den)×U.den->Option (R.den×U.den))->(t.den×A.den)×U.den->Option (R.den×U.den)}
  (E:∀s,oh P G f ⟨T,t,F,A,U,R,s⟩->oh P G f ⟨T,t,F,A,U,R,W s⟩) (S:Nat->(t.den×A.den)×U.den->Option (R.den×U.den)) (J:∀x,S 0 x=af) (K:∀k x y,S (k+1) x=aa y->W (S k) x=aa y)
  {spec} (L:∀x y,spec x=aa y->∃k,S k x=aa y):oh P G f ⟨T,t,F,A,U,R,spec⟩:=by
 have l:∃fn o,P.funcs[f]?=aa fn/\(fn.name == "runtime.NumGoroutine")=false/\fn.body=aa o:=by
  obtain⟨o,M⟩:=Ld.1 D;exact⟨fn,o,C,q,M⟩
 have all:∀k,oh P G f ⟨T,t,F,A,U,R,S k⟩:=by
  intro k;induction k with
  | zero=>exact⟨l,λI w m n p z r x u y _ _ _ _ _ _ _ _ _ v=>by have:=J ((r,x),u);rw[show S 0 ((r,x),u)=aa y from v] at this;cases this⟩
  | succ k O=>exact⟨l,λI w m n p z r x u y a b c d e g h i j v=>(E _ O).calls I w m n p z r x u y a b c d e g h i j (K k _ _ v)⟩
 exact⟨l,λI w m n p z r x u y a b c d e g h i j v=>by
  obtain⟨k,Q⟩:=L _ _ v;exact(all k).calls I w m n p z r x u y a b c d e g h i j Q⟩
end Go.Ge
namespace Go.Ge
open RowKit Go.Sort Go.Proofs
def lU.mk'{w w' I X}(c:w'.os=w.os)(f:w'.tape=w.tape)(g:w'.output=w.output)(d:w.heap.size<=w'.heap.size)
  (i:∀k,k<w.heap.size->¬X k->w'.heap[k]?=w.heap[k]?) (j:∀b o,I b o->b<w.heap.size):lU w I X w' I where
 below:=⟨c,f,g,d,λk e=>i k (Zb λq=>e (.inl q)) λq=>e (.inr q)⟩
 held:=λ_ _ h=>h
 vg:=λb o h=>zv (j b o h) d
 r4:=λb o h k=>absurd h k
def O7{b:Type}{L:List b}{i y}(h:L[i]?=aa y):(L.drop i).take 1=[y]:=by
 obtain⟨c,d⟩:=iy.1 h;rw[BT c];simp[d]
def Va{w I}{t:Ty}[inst:Inhabited t.den]{enc:t.den->Value}(m:t.size=1)(n:∀x g,bJ w I t x g->g=[enc x]){l:List t.den}{blk cur tid h}(k:w.heap[blk]?=aa (.cells cur tid h))(e:nr cur h)(o:l.length<=cur.size)
  (f:∀(i:Nat) x,l[i]?=aa x->bJ w I t x ((cur.toList.drop<|i*t.size).take t.size)):Sort.Holds enc w blk 0 l.toArray:=by
 intro j p;have b:j<l.length:=by simpa using p
 have c:=n _ _ (f j l[j]<|fH b);rw[m,FD] at c;have q:cur[j]?=aa (enc l[j]):=by
  have:((cur.toList.drop j).take 1)[0]?=aa (enc l[j]):=by
   rw[c];rfl
  simpa using this
 have d:l.toArray[j]! = l[j]:=by simp[b]
 refine⟨?_,?_⟩
 .rw[d];simp only[World.cell?,k,BV];exact q
 .have:=e j ah;simp only[World.frozen?,k];simp at this;simp;exact this
def Zz{w w' I}{t:Ty}[inst:Inhabited t.den]{enc:t.den->Value}(E:t.size=1)(J:∀b o,I b o->b<w.heap.size){l l':List t.den}{blk cap cur tid u}(F:w.heap[blk]?=aa (.cells cur tid u))(v:ThB t cur u)
  (f:cur.size=cap*t.size) (j:∀o,¬I blk o) {d:List t.den} (T:d.length=l.length) (K:l.length<=cap) (p:cap<=maxLen) (y:l'.length<=l.length) (q:∀(i:Nat) x,l'[i]?=aa x->d[i]?=aa x/\bJ w' I t x [enc x]) {n os}
  (r:w'=grow (putRow enc (Sort.ahead w n) blk 0 d.toArray) os) :
  lU w I (λk=>∃c,aa (blk,cap)=aa (k,c)) w' I/\xC w' I t l' (aa (blk,cap)) (.slice (aa ⟨blk,0,af⟩) l'.length cap):=by
 have z:w'.heap.size=w.heap.size+os.size:=by rw[r];simp
 have g:∀k,k<w.heap.size->w'.heap[k]?=if k=blk then aa (.cells (putCells enc 0 d.toArray cur) tid u) else w.heap[k]?:=by
  intro k A;subst r;simp only[grow,putRow,mapBlock];rw[ahS<|by simpa using A,TO];by_cases e:blk=k
  .subst e;simp[F,onCells]
  .simp[e,IX e]
 have h:=g blk ((xe.1 F).1);rw[aQ rfl] at h;have L:lU w I (λk=>∃c,aa (blk,cap)=aa _) w' I:=lU.mk' (by rw[r];rfl) (by rw[r];rfl) (by rw[r];rfl) ah (λk A M=>by
  rw[g k A,aK λe=>M ⟨cap,by rw[e]⟩]) J
 refine⟨L,.inr ⟨blk,cap,putCells enc 0 d.toArray cur,tid,u,rfl,rfl,h,v.same (by simp[putCells]),fi y K,p,by simp[putCells,f],j,λi x G=>?_⟩⟩;obtain⟨s,O⟩:=q i x G;have Q:i<l'.length:=(iy.1 G).1;have m:i<d.length:=ah;have C:i<cur.size:=by rw[f,E];omega
 have R:(putCells enc 0 d.toArray cur)[i]?=aa (enc x):=by
  have D:d[i]=x:=by rw[fH m] at s;exact aI s
  have S:d.toArray[i]! = d[i]:=by simp[m]
  rw[show _[i]?=aa (enc d.toArray[i]!) from by simp[putCells,C,m],S,D]
 rw[E,FD,O7 (by simpa using R)];exact O
def vp(l:List bb):List bb:=l.mergeSort λx y=>decide (x<=y)
def aba:vp []=[]:=by simp[vp]
def Ql l:(vp l).length=l.length:=by simp[vp]
def aem{P}{f:Nat}{fn}(W:P.funcs[f]?=aa fn)(X:(fn.name == "runtime.NumGoroutine")=false)(A:fn.body.isSome=true)
  (Y:∀blk off cap (z:List bb) w,Sort.Holds encStr w blk off z.toArray->blk<w.heap.size->z.length<4611686018427387904 ->
   Calls P f #[.slice (aa ⟨blk,off,af⟩) z.length cap] w λe w'=>e=.returned (.tuple #[])/\∃n K,w'=grow (putRow encStr (Sort.ahead w n) blk off (z.mergeSort λx y=>decide (x<=y)).toArray) K)
  (Z:∀p cap w,Calls P f #[.slice p 0 cap] w λe w'=>e=.returned (.tuple #[])/\w'=w) :
  pR P f (.own .str .unit false λl _=>bif fits (len (α:=bb) l) then aa (vp l) else af):=by
 obtain⟨o,A⟩:=Ld.1 A;refine⟨⟨fn,o,W,X,A⟩,λI w q v r l M L x O k s m b=>?_⟩;change List bb at l;obtain rfl:r=[]:=m;have d:q=#[v]:=by apply BU.1;rw[k]
 subst d;have c:fits (len l)=true/\M=vp l:=by
  change (bif fits _ then aa _ else af)=aa M at b;cases Q:fits _ with
  | true=>rw[Q] at b;exact⟨rfl,(aI b).symm⟩
  | false=>rw[Q] at b;cases b
 obtain⟨c,rfl⟩:=c;have hlen:=F1 c;rcases s with ⟨rfl,rfl,rfl⟩|⟨blk,cap,C,tid,fr,rfl,rfl,D,R,S,q6,T,q8,U⟩
 .refine(Z af 0 w).mono λe w' u=>?_;obtain⟨rfl,rfl⟩:=u;exact⟨I,lU.mk' rfl rfl rfl (bV _) (λ_ _ _=>rfl) O,rfl,Ql [],.inl ⟨rfl,aba,rfl⟩⟩
 .have E:List.length l<=cap:=S;have F:C.size=cap*1:=T;refine(Y blk 0 cap l w (Va (t:=.str) (inst:=instInhabitedList) (enc:=encStr) rfl (λ_ _ h=>h.1) D R.th (by rw[F,FD];exact E) U) (xe.1 D).1 ah).mono λe w' u=>?_;obtain⟨rfl,n,K,u⟩:=u;have g:(vp l).length=l.length:=by simp[vp]
  obtain⟨k1,G⟩:=Zz (t:=.str) (inst:=instInhabitedList) (enc:=encStr) rfl O D R T q8 (l':=vp l) g S q6 (D5 g) (λi x V=>⟨V,by
   have J:x∈l:=List.mem_mergeSort.1 (eG V);obtain⟨j,hj⟩:=PQ.1 J;exact⟨rfl,(U j x hj).2⟩⟩) u
  change xC w' I Ty.str (vp l) (aa (blk,cap)) (.slice (aa ⟨blk,0,af⟩) (List.length (α:=bb)<|vp l) cap) at G;rw[g] at G;exact⟨I,k1,rfl,g,G⟩
def XU{α}[DecidableEq α][Inhabited α](b:List α):(Lib.compact b).length<=b.length/\∀x∈Lib.compact b,x∈b:=by
 constructor
 .unfold Lib.compact Lib.compactUpTo;rw[y4];exact fi (TP _ _) aT
 .intro x c;unfold Lib.compact Lib.compactUpTo at c;rw[Lq] at c;obtain⟨j,e,rfl⟩:=c;have d:j<b.length:=Ln.1 (zx.1 e).1;simp[d]
def Gs{P}{t:Ty}[inst:Inhabited t.den][deq:DecidableEq t.den]{enc:t.den->Value}{z:t.den}{Q:t.den->Prop}(s:t.size=1)(K:∀w I x M,bJ w I t x M↔M=[enc x]/\Q x){f:Nat}{fn}(Z:P.funcs[f]?=aa fn)(h2:(fn.name == "runtime.NumGoroutine")=false)(O:fn.body.isSome=true)
  (hc:∀k o g m w,Sort.Holds enc w k o m.toArray->m.length<=9223372036854775807->m.length<=g ->
   Calls P f #[.slice (aa ⟨k,o,af⟩) m.length g] w λe w'=>e=.returned (.slice (aa ⟨k,o,af⟩) (Lib.compact m).length g)/\∃q,w'=putRow enc (Sort.ahead w q) k o (Lib.compact m++List.replicate (m.length-(Lib.compact m).length) z).toArray)
  (hn:∀a g w,Calls P f #[.slice a 0 g] w λe w'=>e=.returned (.slice a 0 g)/\w'=w) :
  pR P f (.own t .unit true λl _=>aa (Lib.compact l)):=by
 have p:∀m:List t.den,(Lib.compact m).length<=m.length/\∀x∈Lib.compact m,x∈m:=XU;obtain⟨C,O⟩:=Ld.1 O;refine⟨⟨fn,C,Z,h2,O⟩,λI w D v E l l' L x T u F y A=>?_⟩;obtain rfl:E=[]:=y;have r:D=#[v]:=by apply BU.1;rw[u]
 subst r;obtain rfl:Lib.compact l=l':=aI A;rcases F with ⟨rfl,rfl,rfl⟩|⟨k,g,cur,tid,fr,rfl,rfl,U,V,J,W,X,q8,Y⟩
 .refine(hn af 0 w).mono λe w' G=>?_;obtain⟨rfl,rfl⟩:=G;exact⟨I,lU.mk' rfl rfl rfl (bV _) (λ_ _ _=>rfl) T,_,af,rfl,.inl ⟨rfl,(yZ.1<|Nat.le_zero.1 (p []).1),rfl⟩,λ_ _ h=>by cases h⟩
 .refine(hc k 0 g l w (Va s (λx M h=>((K _ _ _ _).1 h).1) U V.th (by rw[X,s,FD];exact J) Y) (fi J W) J).mono λe w' G=>?_;obtain⟨rfl,n,G⟩:=G;obtain⟨k1,k2⟩:=Zz (enc:=enc) s T U V X q8 (l':=Lib.compact l) (d:=Lib.compact l++List.replicate (l.length-(Lib.compact l).length) z) (by have:=(p l).1;simp;omega) J W (p l).1 (λi x R=>⟨by
    rw[TK (iy.1 R).1];exact R,by
   have S:x∈l:=(p l).2 x (eG R);obtain⟨j,hj⟩:=PQ.1 S;exact(K _ _ _ _).2 ⟨rfl,((K _ _ _ _).1<|Y j x hj).2⟩⟩) (n:=n) (os:=#[]) (w':=w') (by rw[G];simp)
  exact⟨I,k1,_,_,rfl,k2,λb c h=>.inl ⟨c,h⟩⟩
def Vb{P}{f:Nat}{fn}(h:P.funcs[f]?=aa fn)(i:(fn.name == "runtime.NumGoroutine")=false)(j:fn.body.isSome=true)
  (k:∀c d b g w,Sort.Holds encStr w c d g.toArray->g.length<=9223372036854775807->g.length<=b ->
   Calls P f #[.slice (aa ⟨c,d,af⟩) g.length b] w λe w'=>e=.returned (.slice (aa ⟨c,d,af⟩) (Lib.compact g).length b)/\∃q,w'=putRow encStr (Sort.ahead w q) c d (Lib.compact g++List.replicate (g.length-(Lib.compact g).length) []).toArray)
  (m:∀a b w,Calls P f #[.slice a 0 b] w λe w'=>e=.returned (.slice a 0 b)/\w'=w) :
  pR P f (.own .str .unit true λl _=>aa (Lib.compact (α:=bb) l)) :=
 Gs (t:=.str) (inst:=instInhabitedList) (deq:=instDecidableEqList) (enc:=encStr) (z:=[]) (Q:=λx=>List.length (α:=UInt8) x<=maxLen) rfl (λw I x n=>Iff.rfl) h i j k m
def Sp{P}{f:Nat}{fn}(h:P.funcs[f]?=aa fn)(i:(fn.name == "runtime.NumGoroutine")=false)(j:fn.body.isSome=true)
  (k:∀c d b g w,Sort.Holds (Value.int .i64) w c d g.toArray->g.length<=9223372036854775807->g.length<=b ->
   Calls P f #[.slice (aa ⟨c,d,af⟩) g.length b] w λe w'=>e=.returned (.slice (aa ⟨c,d,af⟩) (Lib.compact g).length b)/\∃q,w'=putRow (Value.int .i64) (Sort.ahead w q) c d (Lib.compact g++List.replicate (g.length-(Lib.compact g).length) 0).toArray)
  (m:∀a b w,Calls P f #[.slice a 0 b] w λe w'=>e=.returned (.slice a 0 b)/\w'=w) :
  pR P f (.own (.int .i64) .unit true λl _=>aa (Lib.compact (α:=Int) l)) :=
 Gs (t:=.int .i64) (inst:=(inferInstance:Inhabited Int)) (deq:=Int.instDecidableEq) (enc:=Value.int .i64) (z:=(0:Int)) (Q:=λx:Int=>IntKind.i64.min<=x/\x<=IntKind.i64.max) rfl (λw I x n=>Iff.rfl) h i j k m
end Go.Ge
