import Derived.Test.YtgklgliokhbcnaaGreatDoorGeG
import Derived.ProofKit
import Derived.Lib.LazyBuf
import Derived.Lib.Bytealg
import Derived.Shelf.Strings.SplitCore
import Derived.Shelf.Strings.Search3
import Derived.Shelf.Strings.Count
import Derived.Lib.SplitLaws
import Derived.Lib.Join
import Derived.Lib.IndexBytes
import Derived.Shelf.Strconv.Itoa3
import Derived.Shelf.Strconv.ErrVarParseInt
import Derived.Lib.AppendIntMem
import Derived.Lib.ItoaLen
import Derived.Lib.LaidTab
import Derived.LaidSub
import Derived.Sort.EncStr
import Derived.Sort.Grow
import Derived.Lib.SlicesCompact
set_option linter.unusedSectionVars false
set_option linter.unusedVariables false
set_option linter.unusedSimpArgs false
set_option linter.defProp false
open Option renaming some->aa,none->af
open Go.IntKind (i64)
namespace Go.Ge
variable [Lp]
open RowKit
section
variable {P:Program} {B:CG} {N:Nat} {γ:Gh} {σ:St} {a:Act} {w:World} {cx:Ctx}
def Hc{mem I loc}:∀{A x b},ks w I A x b->mB ⟨I,loc⟩ mem w (Fu A x) b:=by intro A;induction A with|pair t r g d =>(intro x b h;obtain⟨j,e,rfl,k,l⟩:=h;have:=d l;refine⟨by simp[Fu,this.1],λi v y c f=>?_⟩;cases i with|zero =>(obtain rfl:=aI c;obtain rfl:=aI f;exact⟨j,k,rfl⟩)|succ i=>exact this.2 i v y (by simpa [Fu] using c) (by simpa using f))|unit=>intro x b h;rw[show b=[] from h];exact⟨rfl,λi v y c=>by cases c⟩|_=>intro x b h;exact h.elim
def V2(h:bH B γ σ.mem w){I'}(i:∀b o,γ.I b o->I' b o)(f:∀b o,B.has b->b<w.heap.size->I' b o):∀{R y u vs},
  cQ γ σ.mem w u .many vs->jJ σ R (GB u)=aa y->cQ ⟨I',λ_=>af⟩ (λ_=>af) w (CB R y) .many vs:=by
 intro R;induction R with|pair t r j g =>(intro y u vs d c;cases u with|mix p q =>(obtain⟨v,e,rfl,k,l⟩:=d;simp only[GB,jJ] at c;split at c;{rename_i x z m n;obtain rfl:=aI c;obtain⟨s,A,C⟩:=MQ h i f k m;exact⟨v,e,rfl,⟨s,A,by rw[C]⟩,g l n⟩};cases c)|_=>cases c)|unit =>(intro y u vs d c;cases u with|mix p q=>cases c|nl=>exact d|_=>exact d.elim)|_=>intro y u vs d c;cases u<;>cases c
def Re(i:bH B γ σ.mem w){I'}(j:∀b o,γ.I b o->I' b o)(d:∀b o,B.has b->b<w.heap.size->I' b o){R y v val}
  (k:cQ γ σ.mem w v .val [val]) (c:jJ σ R (Ar R v)=aa y):mA w I' R y val:=by
 have many:∀{R y},(sL R y=.Ct (CB R y))->(jJ σ R (match v with|.Ct v=>GB v|v=>[v])=aa y)->(∀t,R≠.pair t .unit)->mA w I' R y val:=by
  intro R y e c f;unfold mA;rw[e];have one:∀{v'},jJ σ R [v']=aa y->False:=by intro v' h;cases R with|pair t r =>simp only[jJ] at h;split at h;{rename_i l;cases r with|unit=>exact f t rfl|_=>cases l};cases h|_=>cases h
  cases v with|Ct u =>(obtain⟨g,m,n⟩:=k;exact⟨g,m,V2 i j d n c⟩)|_=>exact(one c).elim
 cases R with|pair t r =>(cases r with|unit =>simp only[Ar,jJ] at c;split at c;{rename_i x z p C;obtain rfl:=aI c;obtain⟨q,s,A⟩:=MQ i j d k p;exact⟨q,s,by rw[A]⟩};cases c|_=>exact many rfl (by cases v<;>exact c) Cu)|_=>exact many rfl (by cases v<;>exact c) Cu
def Tm(s:P.follows .mixedOrders=true)(K:ga P cx){G}(t:ql P G cx)(j:Rb cx){ij n f A R spec}
  {fn code} (u:find cx.fns f=aa fn) (l:fn.body=aa code) (h:∀x y,spec x=aa y->sem cx n ij f A R x=aa y):Holds P G f ⟨A,R,spec⟩ where
 body:=by have z:=j f fn u;simp only[Y0,gO,Ez] at z;exact⟨fn,code,K.fns f fn u,z.1,l⟩
 calls:=by
  intro I w C x y L M m p;obtain⟨r,h1,q⟩:=bind_some (h x y p);obtain⟨v,mem'⟩:=r;have O:jJ (ig mem') R (Ar R v)=aa y:=by split at q;{rename_i X E;obtain rfl:=aI q;exact E};cases q
  have S:bH (px G w.heap.size) ⟨I,λ_=>af⟩ (λ_=>af) w :=
   { vR:=λb Q g=>by
      obtain⟨o,h1,q⟩:=M b Q g;exact⟨λd=>by have:=sU.1 d;have:=(xU.1 h1).1;omega,o,h1,q⟩
     base:=b0 _
     boxes:=λb T d=>by cases d
     inj:=λb c D k Y d=>absurd rfl d
     fresh:=λb D k d=>absurd rfl d
     vQ:=L
     sep:=λb T D k U d=>by cases d }
  obtain⟨_,i⟩:=CT s K t j n 0 f _ ⟨I,λ_=>af⟩ _ mem' w _ C v rfl S (Hc m) h1;refine i.mono λe w' V=>?_;obtain⟨F,bF,rfl,m1,J,W⟩:=V;refine⟨F,λb o=>bF.I b o\/(w.heap.size<=b/\b<w'.heap.size),rfl,J.below.below,λb o hi=>.inl (J.I b o hi),λb o hi=>?_,λb o hi hn=>?_,Re m1 (λb o hi=>.inl hi) (λb o h1 q=>.inr ⟨sU.1 h1,q⟩) W O⟩;{rcases hi with hi|hi;{exact m1.vQ b o hi};exact hi.2};rcases hi with hi|hi;{exact sU.1 ((J.sI b o hi).resolve_left hn)};exact hi.1
def He:List Nat->Nat->Nat->Option (Nat×Nat)|[],_,_=>af|blk::r,k,b=>if b=fk k then aa (blk,0) else He r (k+1) b
def Kc{i j}(h:fk i=fk j):i=j:=by unfold fk at h;omega
def DX:∀{b k j blk},b[j]?=aa blk->He b k (fk<|k+j)=aa (blk,0):=by intro b;induction b with|nil=>intro k j blk h;cases h|cons x r c =>intro k j blk h;cases j with|zero=>(obtain rfl:=aI h;simp[He])|succ j =>simp only[He];rw[aK (λe=>by have:=Kc e;omega),show k+(j+1)=k+1+j by omega];exact c (by simpa using h)
def so:∀{c k b blk q},He c k b=aa (blk,q)->∃j,c[j]?=aa blk/\b=fk (k+j):=by intro c;induction c with|nil=>intro k b blk q h;cases h|cons x r d =>intro k b blk q h;simp only[He] at h;split at h;{rename_i e;obtain⟨rfl,_⟩:=eX (aI h);exact⟨0,rfl,e⟩};obtain⟨j,f,g⟩:=d h;exact⟨j+1,by simpa using f,by rw[g];congr 1;omega⟩
def aaI{I}:∀{U u b k},sX w I U u b->∀{j blk},b[j]?=aa blk ->
  ∃c,Ir U u k (fk<|k+j)=aa c/\c.aR=0:=by
 intro U;induction U with|pair t U g f =>(intro u b k h j blk d;obtain⟨n,r,rfl,o,i⟩:=h;cases j with|zero=>exact⟨{ val:=.data t u.1,tid:=0,buf:=false,ro:=false,lk:=false,aR:=0 },by simp[Ir],rfl⟩|succ j =>obtain⟨c,l,m⟩:=f i (by simpa using d);refine⟨c,?_,m⟩;simp only[Ir];rw[ja (λe=>by have:=Kc e;omega),show k+(j+1)=k+1+j by omega];exact l)|unit=>intro u b k h j blk d;rw[show b=[] from h] at d;cases d|_=>intro u b k h;exact h.elim
def DY{I}:∀{U u e k b f},sX w I U u e->Ir U u k b=aa f ->
  ∃j c t,∃x,e[j]?=aa c/\b=fk (k+j)/\f={ val:=.data t x,tid:=0,buf:=false,ro:=false,lk:=false,aR:=0 }/\ae6 w I t x c:=by
 intro U;induction U with|pair t U l g =>(intro u e k b f h d;obtain⟨m,r,rfl,n,o⟩:=h;simp only[Ir] at d;cases i:Nat.beq b _ with|true =>rw[i] at d;exact⟨0,m,t,u.1,rfl,gP i,(aI d).symm,n⟩|false =>rw[i] at d;obtain⟨j,c,p,q,s,v,y,z⟩:=g o d;exact⟨j+1,c,p,q,by simpa using s,by rw[v];congr 1;omega,y,z⟩)|unit=>intro u e k b f h d;cases d|_=>intro u e k b f h;exact h.elim
def Y4{mem}:∀{ps A U x g l k},Q0 w γ.I ps A U x g l ->
  (∀j b,l[j]?=aa b->∃m,mem (fk<|k+j)=aa m/\m.aR=0/\γ.loc (fk<|k+j)=aa (b,0))->mB γ mem w (JU ps A U x k) g:=by
 intro ps;induction ps with|nil =>(intro A U x g l k h _;obtain⟨_,_,rfl,_⟩:=h;exact⟨rfl,λi v y c=>by cases c⟩)|cons p ps q =>intro A U x g l k h n;cases p with|false =>((cases A<;>first|(exact h.elim)|skip);obtain⟨s,d,rfl,o,t⟩:=h;have:=q t n;refine⟨by simp[JU,this.1],λi v y c e=>?_⟩;cases i with|zero =>(obtain rfl:=aI c;obtain rfl:=aI e;exact⟨s,o,rfl⟩)|succ i=>exact this.2 i v y (by simpa [JU] using c) (by simpa using e))|true =>(cases U<;>first|(exact h.elim)|skip);(obtain⟨b,d,r,rfl,rfl,o⟩:=h;have:=q o λj f u=>by have:=n (j+1) f (by simpa using u);rw[show k+_=k+1+j by omega] at this;exact this);refine⟨by simp[JU,this.1],λi v y c e=>?_⟩;cases i with|zero =>(obtain rfl:=aI c;obtain rfl:=aI e;obtain⟨m,z,C,D⟩:=n 0 b rfl;exact⟨⟨_,rfl,rfl⟩,m,z,EO C.symm,λ_=>⟨b,0,D,rfl⟩⟩)|succ i=>exact this.2 i v y (by simpa [JU] using c) (by simpa using e)
def Nx{mem g L X7 w0 I}(A:bH B γ mem w)(M:Ext L X7 g w0 γ mem w):∀{U u y k i},sX w0 I U u i ->
  (∀j c,i[j]?=aa c->(∃l,g (fk<|k+j)=aa l/\l.aR=0)/\X7.loc (fk<|k+j)=aa (c,0))->GC mem U k=aa y ->sX w γ.I U y i/\∀c∈i,∀o,¬γ.I c o:=by
 intro U;induction U with|pair t U O q =>(intro u y k i h s f;obtain⟨c,r,rfl,h1,Q⟩:=h;simp only[GC] at f;split at f;(case h_2=>cases f);rename_i l n;cases d:(Nat.beq l.aR 0&&!l.buf&&!l.ro) with|false=>rw[d] at f;cases f|true =>rw[d] at f;simp only[gO,Ez] at d;split at f;(case h_2=>cases f);(rename_i x1 u1 R S;obtain rfl:=aI f;obtain⟨⟨v,C,T⟩,D⟩:=s 0 c rfl;rw[Gr] at C D;obtain⟨V,E,q2,W⟩:=M.boxes _ v C;rw[n] at E;obtain rfl:=aI E;have x:=(W<|by rw[(gP d.1.1),T]).1;rw[D] at x;obtain⟨X,Y⟩:=q Q (λj m Z=>by have:=s (j+1) m (by simpa using Z);rw[show k+_=k+1+j by omega] at this;exact this) S);have p:=A.boxes _ l n;unfold eL at p;rw[d.1.2] at p;obtain⟨m,cap,z,tid,fr,F,a2,a3,G,J⟩:=p;rw[x] at F;obtain⟨rfl,_⟩:=eX (aI F);rw[(MS R)] at J;refine⟨⟨c,r,rfl,⟨z,tid,fr,a2,a3,J⟩,X⟩,λb e o K=>?_⟩;rcases fA.1 e with rfl|e;{have:=(A.sep _ l b 0 o n x K).1;rw[d.2] at this;cases this};exact Y b e o K)|unit =>intro u y k i h s f;exact⟨h,λb e=>by rw[show i=[] from h] at e;cases e⟩|_=>intro u y k i h;exact h.elim
def P2(O:P.follows .mixedOrders=true)(hc:ga P cx){G}(S:ql P G cx)(p:Rb cx){ij n f ps A U R spec}
  {fn code} (T:find cx.fns f=aa fn) (D:fn.body=aa code) (h:∀x y,spec x=aa y->alu cx n ij f ps A U R x=aa y):SV P G f ⟨ps,A,U,R,spec⟩ where
 body:=by have V:=p f fn T;simp only[Y0,gO,Ez] at V;exact⟨fn,code,hc.fns f fn T,V.1,D⟩
 calls:=by
  intro I w s M x u y hI hG hGb E d hnd F J;obtain⟨r,h1,K⟩:=bind_some (h _ y J);obtain⟨v,mem'⟩:=r;obtain⟨y1,y2⟩:=y;have hg:∃bO,gT (ig mem') R (Ar R v)=aa (y1,bO)/\GC bO.mem U 0=aa y2:=by split at K;{rename_i y' bO hy';split at K;{rename_i u' hu';obtain⟨rfl,rfl⟩:=eX (aI K);exact⟨bO,hy',hu'⟩};cases K};cases K
  obtain⟨bO,hg1,hg2⟩:=hg;have C:∀j blk,M[j]?=aa blk->(∃L,Ir U u 0 _=aa L/\L.aR=0)/\He M 0 _=aa (blk,0):=λj blk Z=>⟨aaI d Z,DX Z⟩;have hm:bH ⟨w.heap.size,_,G⟩ ⟨I,He M 0⟩ (Ir U u 0) w :=
   { vR:=λb Q g=>by
      obtain⟨o,h1,K⟩:=hG b Q g;refine⟨λl=>?_,o,h1,K⟩;have:=(xU.1 h1).1;rcases l with l|l
      .exact absurd this (by have hb':w.heap.size<=b:=l;omega)
      .exact hGb b Q g l
     base:=b0 _
     boxes:=λb L l=>by obtain⟨j,blk,t,z,g1,g2,g3,g4⟩:=DY d l;subst g3;subst g2;obtain⟨cur,tid,fr,k1,k2,k3⟩:=g4;exact⟨blk,0,cur,tid,fr,DX g1,k1,k2,.inl rfl,k3⟩
     inj:=λb c blk k k' l hc' W e2=>by
      obtain⟨i,i1,i2⟩:=so W;obtain⟨j,j1,j2⟩:=so e2;have hij:i=j:=by
       have hi:=(iQ.1 i1).1;exact(List.getElem?_inj hi hnd).1 (i1.trans j1.symm)
      subst hij;rw[i2,j2]
     fresh:=λb blk k l W=>by
      cases hq:Ir U u 0 b with
      | none=>exact absurd hq l
      | some L =>
        obtain⟨j,MJ,t,z,g1,g2,g3,g4⟩:=DY d hq;have X:He M 0 b=aa (blk,k):=W;rw[g2,DX g1] at X;obtain⟨rfl,_⟩:=eX (aI X);obtain⟨cur,tid,fr,k1,k2,k3⟩:=g4;exact⟨.inr<|eG g1,(xU.1 k1).1⟩
     vQ:=hI
     sep:=λb L blk k off l W hi=>by
      obtain⟨j,j1,_⟩:=so W;exact(F blk (eG j1) off hi).elim }
  have hv:mB ⟨I,He M 0⟩ _ w _ s.toList:=Y4 E λj blk Z=>by
   obtain⟨⟨L,g1,g2⟩,g3⟩:=C j blk Z;exact⟨L,g1,g2,g3⟩
  obtain⟨_,m⟩:=CT O hc S p n 0 f ⟨w.heap.size,_,G⟩ ⟨I,He M 0⟩ _ mem' w _ s v rfl hm hv h1;refine m.mono λe w' hw=>?_;obtain⟨val,bF,rfl,m1,x1,r1⟩:=hw;obtain⟨xs,u1,u2⟩:=FL r1;have Y:dG ⟨w.heap.size,_,G⟩ 0 bF (ig mem') { tmps:=#[],defers:=[] } w' :=
   { bj:=λt=>⟨_,rfl⟩
     size:=rfl
     defers:=rfl
     ok:=m1 }
  obtain⟨γ2,s1,s2,s3⟩:=kR Y u1 hg1;have xx:=x1.trans s2;obtain⟨k1,k2⟩:=Nx s1.ok xx d C hg2;refine⟨val,γ2.I,rfl,xx.below,xx.I,s1.ok.vQ,λb o hi hn=>?_,u2 _ _ s3,k1⟩;rcases(xx.sI b o hi).resolve_left hn with q|q
  .exact q
  .exact(k2 b q o hi).elim
def V3:∀{U k i b aR},(Mx U k)[i]?=aa (b,aR)->b=fk (k+i)/\aR=0:=by intro U;induction U with|pair t U d c =>(intro k i b aR h;cases i with|zero=>(obtain⟨rfl,rfl⟩:=eX (aI h);exact⟨rfl,rfl⟩)|succ i=>obtain⟨e,f⟩:=c (k:=k+1) (i:=i) (by simpa [Mx] using h);exact⟨by rw[e];congr 1;omega,f⟩)|_=>intro k i b aR h;cases h
def DZ{I}:∀{U u b k},sX w I U u b->(Mx U k).length=b.length:=by intro U;induction U with|pair t U d c=>(intro u b k h;obtain⟨f,r,rfl,g,e⟩:=h;simp[Mx,c e])|unit=>intro u b k h;rw[show b=[] from h];rfl|_=>intro u b k h;exact h.elim
def acn{mem I}:∀{U u y k e},sX w I U u e->GC mem U k=aa y->∀{j blk},e[j]?=aa blk->∃d,mem (fk<|k+j)=aa d/\d.aR=0:=by
 intro U;induction U with
 | pair t U l g =>
   intro u y k e h b j blk f;obtain⟨o,r,rfl,p,m⟩:=h;simp only[GC] at b;split at b;case h_2=>cases b
   rename_i d i;cases c:(Nat.beq d.aR 0&&!d.buf&&!d.ro) with
   | false=>rw[c] at b;cases b
   | true =>
     rw[c] at b;simp only[gO] at c;split at b;case h_2=>cases b
     rename_i q s v n;cases j with
     | zero=>exact⟨d,i,gP c.1.1⟩
     | succ j =>
       have:=g m n (j:=j) (by simpa using f)
       rwa [show k+1+j=k+(j+1) by omega] at this
 | unit=>intro u y k e h b j blk f;rw[show e=[] from h] at f;cases f
 | _=>intro u y k e h;exact h.elim
def Ny k:fk k≠ko:=by unfold fk ko;omega
def P3(aj2:P.follows .mixedOrders=true)(hc:ga P cx){G}(ab7:ql P G cx)(S:Rb cx){ij n f T F t A U R spec}
  {fn code} (hfn:find cx.fns f=aa fn) (alT:fn.body=aa code) (h:∀x y,spec x=aa y->alv cx n ij f T F t A U R x=aa y):lM P G f ⟨T,t,F,A,U,R,spec⟩ where
 body:=by have hok:=S f fn hfn;simp only[Y0,gO,Ez] at hok;exact⟨fn,code,hc.fns f fn hfn,hok.1,alT⟩
 calls:=by
  intro I w V rest l J r x u y hI hG hGb aft VF W d hnd alU alV;obtain⟨q,h1,h2⟩:=bind_some (h _ y alV);obtain⟨v,mem'⟩:=q;obtain⟨y1,y2⟩:=y;have hg:∃bO,gT (ig mem') R (Ar R v)=aa (y1,bO)/\GC bO.mem U 0=aa y2:=by
   split at h2
   .rename_i y' bO hy';split at h2;{rename_i u' hu';obtain⟨rfl,rfl⟩:=eX (aI h2);exact⟨bO,hy',hu'⟩}
    .cases h2
   .cases h2
  obtain⟨bO,hg1,hg2⟩:=hg;obtain⟨hnb,anp⟩:=aev.1 hnd
  let loc:Nat->Option (Nat×Nat):=λb=>if b=ko then aa (l,0) else He J 0 b
  have aaJ:loc ko=aa (l,0):=aQ rfl;have p:∀b,b≠ko->loc b=He J 0 b:=λb e=>aK e;have m:SK T F t U r u ko=aa (Yk T F t U r):=by simp[SK]
  have s:∀b,b≠ko->SK T F t U r u b=Ir U u 0 b:=λb e=>by unfold SK;rw[ja e];rfl
  have K:∀j l,J[j]?=aa l->(∃X,SK T F t U r u (fk<|0+j)=aa X/\X.aR=0)/\loc (fk<|0+j)=aa (l,0):=λj l hj=>by
   rw[s _<|Ny _,p _ (Ny _)];exact⟨aaI d hj,DX hj⟩
  have L:∀b k c,loc b=aa (k,c)->(b=ko/\k=l)\/(b≠ko/\He J 0 b=aa (k,c)):=λb k c Y=>by
   by_cases e:b=ko
   .subst e;rw[aaJ] at Y;obtain⟨rfl,_⟩:=eX (aI Y);exact .inl ⟨rfl,rfl⟩
   .rw[p b e] at Y;exact .inr ⟨e,Y⟩
  have M:∀b k c,loc b=aa (k,c)->k∈l::J:=λb k c Y=>by
   rcases L b k c Y with ⟨_,rfl⟩|⟨_,Y⟩
   .exact rU ..
   .obtain⟨j,j1,_⟩:=so Y;exact wZ _ (eG j1)
  have hm:bH ⟨w.heap.size,(·∈l::J),G⟩ ⟨I,loc⟩ (SK T F t U r u) w :=
   { vR:=λb Q g=>by
      obtain⟨o,h1,h2⟩:=hG b Q g;refine⟨λC=>?_,o,h1,h2⟩;have:=(xU.1 h1).1;rcases C with C|C
      .exact absurd this (by have hb':w.heap.size<=b:=C;omega)
      .exact hGb b Q g C
     base:=b0 _
     boxes:=λb X C=>by
      by_cases e:b=ko
      .subst e;rw[m] at C;obtain rfl:=aI C;obtain⟨cur,tid,fr,cs,k1,k2,k3,k4,k5⟩:=W;refine⟨l,0,cur,tid,fr,aaJ,k1,k2,k3,cs,_,k4,k5,_,[],rfl,⟨_,rfl,?_,λi b aR D=>?_⟩,rfl⟩
       .simp[DZ d]
       .have hlt:i<J.length:=by have:=(iQ.1 D).1;rwa [DZ d] at this
        obtain⟨rfl,rfl⟩:=V3 D;obtain⟨⟨X,g1,g2⟩,g3⟩:=K i J[i] (ft hlt);exact⟨X,g1,pq _,λ_=>⟨J[i],0,g3,by simp[hlt]⟩⟩
      .rw[s b e] at C;obtain⟨j,MJ,t',z,g1,g2,g3,g4⟩:=DY d C;subst g3;subst g2;obtain⟨cur,tid,fr,k1,k2,k3⟩:=g4;exact⟨MJ,0,cur,tid,fr,by rw[show(⟨I,loc⟩:Gh).loc _=_ from p _ e];exact DX g1,k1,k2,.inl rfl,k3⟩
     inj:=λb c k q q' C hc' Z e2=>by
      rcases L b k q Z with ⟨rfl,rfl⟩|⟨_,l1⟩
      .rcases L c _ q' e2 with ⟨rfl,_⟩|⟨_,l2⟩
       .rfl
       .obtain⟨j,j1,_⟩:=so l2;exact absurd (eG j1) hnb
      .rcases L c k q' e2 with ⟨rfl,rfl⟩|⟨_,l2⟩
       .obtain⟨j,j1,_⟩:=so l1;exact absurd (eG j1) hnb
       .obtain⟨i,i1,i2⟩:=so l1;obtain⟨j,j1,j2⟩:=so l2;have hij:i=j:=by
         have D:=(iQ.1 i1).1;exact(List.getElem?_inj D anp).1 (i1.trans j1.symm)
        subst hij;rw[i2,j2]
     fresh:=λb k q C Z=>by
      refine⟨.inr<|M b k q Z,?_⟩;rcases L b k q Z with ⟨rfl,rfl⟩|⟨e,l1⟩
      .obtain⟨cur,tid,fr,cs,k1,_⟩:=W;exact(xU.1 k1).1
      .rw[s b e] at C;cases hq:Ir U u 0 b with
       | none=>exact absurd hq C
       | some X =>
         obtain⟨j,MJ,t',z,g1,g2,g3,g4⟩:=DY d hq;rw[g2,DX g1] at l1;obtain⟨rfl,_⟩:=eX (aI l1);obtain⟨cur,tid,fr,k1,k2,k3⟩:=g4;exact(xU.1 k1).1
     vQ:=hI
     sep:=λb X k q off C Z D=>(alU k (M b k q Z) off D).elim }
  have hv:mB ⟨I,loc⟩ (SK T F t U r u) w (.ptr ko 0 []::Fu A x) V.toList:=by
   have:=Hc (mem:=SK T F t U r u) (loc:=loc) VF;rw[aft];refine⟨by simp[this.1],λi v y hv hy=>?_⟩;cases i with
   | zero =>
     obtain rfl:=aI hv;obtain rfl:=aI hy;exact⟨⟨_,rfl,rfl⟩,_,m,b0 _,λ_=>⟨l,0,aaJ,rfl⟩⟩
   | succ i=>exact this.2 i v y (by simpa using hv) (by simpa using hy)
  obtain⟨_,O⟩:=CT aj2 hc ab7 S n 0 f ⟨w.heap.size,_,G⟩ ⟨I,loc⟩ _ mem' w _ V v rfl hm hv h1;refine O.mono λe w' hw=>?_;obtain⟨val,bF,rfl,m1,x1,r1⟩:=hw;obtain⟨xs,u1,u2⟩:=FL r1;have anq:dG ⟨w.heap.size,_,G⟩ 0 bF (ig mem') { tmps:=#[],defers:=[] } w' :=
   { bj:=λt=>⟨_,rfl⟩
     size:=rfl
     defers:=rfl
     ok:=m1 }
  obtain⟨γ2,s1,s2,s3⟩:=kR anq u1 hg1;have xx:=x1.trans s2;obtain⟨k1,k2⟩:=Nx s1.ok xx d K hg2;have E:bO.mem ko=aa (Yk T F t U r):=ku hg1 _ _ (Nv n 0 f _ _ _ h1 ko _ m rfl) rfl;obtain⟨vS,q1,q2,q3⟩:=xx.boxes _ _ m;rw[E] at q1;obtain rfl:=aI q1;have hl2:γ2.loc ko=aa (l,0):=(q3 rfl).1.trans aaJ;have hat:=s1.ok.boxes _ _ E;obtain⟨MJ,ae1,cur,tid,fr,a1,a2,a3,a4,c1,c2,a5,a6,c3,c4,a7,⟨arr,a8,a10,a11⟩,a9⟩:=hat;obtain rfl:c4=[]:=a9;rw[hl2] at a1;obtain⟨rfl,rfl⟩:=eX (aI a1);have anr:arr=(J.map λb=>Value.pointer (aa ⟨b,0,af⟩)).toArray:=by
   apply Array.ext';apply KH;intro i;have hlen:arr.toList.length=J.length:=by rw[<-DZ (k:=0) d];simpa using a10
   by_cases D:i<J.length
   .have hci:i<(Mx U 0).length:=by rw[DZ d];exact D
    obtain⟨Z,e2⟩:=V3 (ft hci);have hof:=a11 i (fk<|0+i) 0 ((ft hci).trans<|congrArg aa<|Prod.ext Z e2);obtain⟨X,b1,b2⟩:=acn d hg2 (ft D);obtain⟨k,c,b3,b4⟩:=bp b1 b2 hof;obtain⟨⟨GV,b5,b6⟩,b7⟩:=K i _ (ft D);obtain⟨Q8,b8,b9,b10⟩:=xx.boxes _ GV b5;rw[b1] at b8;obtain rfl:=aI b8;rw[(b10<|by rw[b2,b6]).1] at b3;have b3':loc (fk<|0+i)=aa (k,c):=b3;rw[b7] at b3';obtain⟨rfl,_⟩:=eX (aI b3');simp[D] at b4⊢;exact b4
   .rw[Ev ah,Ev cR]
  refine⟨val,γ2.I,rfl,xx.below,xx.I,s1.ok.vQ,λb o D hn=>?_,u2 _ _ s3,k1,cur,tid,fr,c1,a2,a3,a4,by rw[a5,a7,a8,anr,uC],a6⟩;rcases(xx.sI b o D).resolve_left hn with q|q
  .exact q
  .rcases fA.1 q with rfl|q
   .have:=(s1.ok.sep _ _ b 0 o E hl2 D).1;cases this
   .exact(k2 b q o D).elim
end
end Go.Ge
namespace Go.Ge
open RowKit ChangeShapes
def wF{α:Type}(f:α->Nat):List α->Nat|[]=>0|x::r=>f x+wF f r
def Ty.fa:(t:Ty)->t.den->Nat|.int _,_=>1|.bool,_=>1|.str,s=>List.length (α:=UInt8) s+1|.slice e,l=>wF e.fa l+1|.arr _ e,l=>wF e.fa l|.pair a b,x=>a.fa x.1+b.fa x.2|.unit,_=>0|.alt _ _ _,_=>0|.Cz,_=>0
def Ty.E1:Ty->Bool|.slice e=>e.E1|.arr _ e=>e.E1|.pair a b=>a.E1&&b.E1|.alt _ _ _=>false|.Cz=>false|_=>true
structure Nz {H:Type} (fa:DataW H->Nat) (all:List (DataW H)->Nat):Prop where
 lit:∀l,1<=fa (.lit l)
 str:∀s,fa (.lit<|.string s)=s.length+1
 nil:1<=fa .nil
 slice:∀e s,fa (.slice e s)=all e+all s+1
 agg:∀p,fa (.agg p)=all p+1
 none:all []=0
 cons:∀d r,all (d::r)=fa d+all r
def D0{α c:Type}{f:α->Option c}:∀{l:List α} {ys},l.mapM f=aa ys->ys.length=l.length/\∀(i:Nat) x,l[i]?=aa x->f x=ys[i]?:=by intro l;induction l with|nil=>(intro ys h;obtain rfl:=aI (by simpa using h);exact⟨rfl,λi x b=>by cases b⟩)|cons a l d =>intro ys h;rw[aav] at h;obtain⟨y,e,g⟩:=Co.1 h;obtain⟨j,k,m⟩:=Co.1 g;obtain rfl:y::j=ys:=aI m;obtain⟨n,o⟩:=d k;refine⟨by simp[n],λi x b=>?_⟩;cases i with|zero=>(obtain rfl:=aI b;exact e)|succ i=>exact o i x (by simpa using b)
def Kd{α e:Type}{R:Nat->α->e->Prop}:∀{ys:List e} {k},(∀i y,ys[i]?=aa y->∃x,R (k+i) x y)->∃d:List α,d.length=ys.length/\∀i x y,d[i]?=aa x->ys[i]?=aa y->R (k+i) x y:=by
 intro ys;induction ys with
 | nil=>intro k _;exact⟨[],rfl,λi x y h=>by cases h⟩
 | cons y ys f =>
   intro k h;obtain⟨x,g⟩:=h 0 y rfl;obtain⟨d,j,l⟩:=f λi y m=>by
    have:=h (i+1) y (by simpa using m)
    rwa [show k+_=k+1+i by omega] at this
   refine⟨x::d,by simp[j],λi n o b c=>?_⟩;cases i with|zero=>(obtain rfl:=aI b;obtain rfl:=aI c;exact g)|succ i =>rw[show k+_=k+1+i by omega];exact l i n o (by simpa using b) (by simpa using c)
def aaK{α β}{f:α->Nat}{g:β->Nat}:∀{b ys},b.length=ys.length->(∀(i:Nat) x y,b[i]?=aa x->ys[i]?=aa y->f x<=g y)->wF f b<=wF g ys:=by intro b;induction b with|nil=>intro ys _ _;apply pq|cons x b d =>intro ys c h;cases ys with|nil=>cases c|cons y ys =>have k:=h 0 x y rfl rfl;have l:=d (by simpa using c) λi x y e j=>h (i+1) x y (by simpa using e) (by simpa using j);simp only[wF];omega
section
variable {H:Type} {enc:TypeId×Value->H} {P:Program} {w:World} {held:Bool} {fa:DataW H->Nat} {all:List (DataW H)->Nat}
def aaL(b:Nz fa all){β}(f:β->DataW H):∀l,all (l.map f)=wF (λy=>fa (f y)) l:=by intro l;induction l with|nil=>exact b.none|cons y l c=>rw[U2,b.cons,c];rfl
def old(w:World):Nat->Nat->Prop:=λb _=>b<w.heap.size
def Ke{a n cs}(h:w.cells? 0 a n=aa cs):cs.length=n/\∀j,j<n->w.cell? (a.add j)=cs[j]?:=by obtain⟨b,c⟩:=D0 h;refine⟨by simpa using b,λj d=>c j j ?_⟩;simp[d]
def V4{b o v sp}(h:w.cell? ⟨b,o,sp⟩=aa v):b<w.heap.size/\sp=none:=by
 unfold World.cell? at h;split at h
 {rename_i c t f d;refine⟨(xU.1 d).1,?_⟩;split at h;{cases h};rename_i hs;cases sp with|none=>rfl|some s=>exact absurd rfl hs};cases h
def afu(q:Nz fa all):∀{t:Ty},t.E1=true ->
  (∀{fuel tid:Nat} {cs:List Value} {d:DataW H} {ps:List MemPlace},Den P t tid->DataW.trod enc P w 0 (λ_=>true) held fuel tid cs=aa (d,ps)->∃x:t.den,bL w (old w) t x cs/\t.fa x<=fa d) /\(∀{fuel off:Nat} {fs:List Field} {cs:List Value} {l:List (DataW H×List MemPlace)},sJ P t off fs->(fs.mapM λf=>DataW.trod enc P w 0 (λ_=>true) held fuel f.type ((cs.drop f.offset).take<|P.cellsOf f.type))=aa l ->cs.length=off+t.size->∃x:t.den,bL w (old w) t x (cs.drop off)/\t.fa x<=all (l.map (·.1))):=by
 intro t;induction t with
 | int k =>intro c;refine⟨λ{fuel tid cs d ps} hd h=>?_,λhd=>by simp[sJ,gy] at hd⟩;cases fuel with|zero=>cases h|succ fuel =>(simp only[DataW.trod,hd.int] at h;split at h<;>first|(exfalso;simp_all;done)|skip);rename_i k0 k' n X;split at h;{rename_i G;obtain⟨rfl,rfl⟩:=eX (aI h);injection X with X;injection X with X;subst X;obtain⟨rfl,K⟩:=G;simp only[Lit.wf,gO,A6] at K;exact⟨(n:Int),⟨rfl,K.1,K.2⟩,q.lit _⟩};cases h
 | bool =>intro c;refine⟨λ{fuel tid cs d ps} hd h=>?_,λhd=>by simp[sJ,gy] at hd⟩;cases fuel with|zero=>cases h|succ fuel =>(simp only[DataW.trod,hd.bool] at h;split at h<;>first|(exfalso;simp_all;done)|skip);rename_i b _;obtain⟨rfl,rfl⟩:=eX (aI h);exact⟨b,rfl,q.lit _⟩
 | str =>intro c;refine⟨λ{fuel tid cs d ps} hd h=>?_,λhd=>by simp[sJ,gy] at hd⟩;cases fuel with|zero=>cases h|succ fuel =>(simp only[DataW.trod,hd.str] at h;split at h<;>first|(exfalso;simp_all;done)|skip);rename_i s _;split at h;{rename_i hs;obtain⟨rfl,rfl⟩:=eX (aI h);refine⟨s.data.toList,⟨?_,?_⟩,?_⟩;{rfl};{have:List.length (α:=UInt8) s.data.toList=s.size:=US;rw[this];exact hs};rw[q.str];exact b0 _};cases h
 | slice e L =>
   intro c;have L:=L c;refine⟨λ{fuel tid cs d ps} hd h=>?_,λhd=>by simp[sJ,gy] at hd⟩;obtain⟨Y,Z,M,h3,h4⟩:=hd.slice;cases fuel with
   | zero=>cases h
   | succ fuel =>
     (simp only[DataW.trod,Z] at h;split at h<;>first|(exfalso;simp_all;done)|skip);{obtain⟨rfl,rfl⟩:=eX (aI h);exact⟨([]:List e.den),.inl ⟨⟨af,rfl⟩,rfl⟩,q.nil⟩}
     rename_i e' a O z he;injection he with he;injection he with he;subst he;split at h;(case isFalse=>cases h);rename_i G;obtain⟨hc1,hc2,hc3⟩:=G;obtain⟨m,I,Q⟩:=Co.1 h;obtain⟨rest,g3,g4⟩:=Fm.1 Q;obtain⟨rfl,rfl⟩:=eX g4;simp only[y9] at g3;obtain⟨U,V⟩:=D0 I;obtain⟨m1,m2⟩:=D0 g3;simp only[Sy] at U m1;rw[M.cells] at V m2;by_cases ajU:z=0;{subst ajU;obtain rfl:O=0:=ah;exact⟨([]:List e.den),.inl ⟨⟨aa a,rfl⟩,rfl⟩,by rw[q.slice];simp[Ty.fa,wF]⟩}
     ·
      (have hat:∃y,(w.cells? 0 a e.size).bind (DataW.trod enc P w 0 (λ_=>true) held fuel Y)=aa y:=by by_cases hlen:O=0;{have:=m2 0 0 (Ps ah);have o:0<rest.length:=ah;rw[ft o] at this;rw[hlen] at this;simp only[Cx,aeE] at this;exact⟨_,by rw[<-this];simp[Addr.add]⟩};have:=V 0 0 (Ps ah);have o:0<m.length:=ah;rw[ft o] at this;simp only[aeE] at this;exact⟨_,by rw[<-this];simp[Addr.add]⟩);obtain⟨y,C⟩:=hat;obtain⟨W,hes,_⟩:=Co.1 C;obtain⟨z1,z2⟩:=Ke hes;have z3:=z2 0 h4;rw[ft ah] at z3;have p:a.spot=none:=by (have:a.add 0=a:=by simp[Addr.add]);rw[this] at z3;obtain⟨D,off,sp⟩:=a;exact(V4 z3).2
      obtain⟨D,off,sp⟩:=a;dsimp only at p;subst p;obtain⟨l,E,J⟩:=Kd (R:=λi (x:e.den) (y:DataW H×List MemPlace)=>(∃W:List Value,W.length=e.size /\
        (∀(j:Nat) v,W[j]?=aa v->w.cell? ⟨D,off+i*e.size+j,af⟩=aa v/\old w D (off+i*e.size+j))/\bL w (old w) e x W)/\e.fa x<=fa y.1) (ys:=m) (k:=0) λi y hi=>by
       have o:=(iQ.1 hi).1;have:=V i i (Ps ah);rw[hi] at this;obtain⟨W,q1,q2⟩:=Co.1 this;rw[addr_add] at q1;obtain⟨q3,q4⟩:=Ke q1;obtain⟨x,r1,r2⟩:=L.1 (d:=y.1) (ps:=y.2) M q2;refine⟨x,⟨W,q3,λj v hv=>?_,r1⟩,r2⟩;have hj:=(iQ.1 hv).1;have:=q4 j ah;rw[addr_add,hv] at this;rw[Cx];exact⟨this,(V4 this).1⟩
      refine⟨l,.inr ⟨D,off,z,?_,?_,hc3,λi x S=>?_⟩,?_⟩;{show [Value.slice _ O z]=[Value.slice _ (List.length (α:=e.den) l) z];rw[E,U]};{show List.length (α:=e.den) l<=z;rw[E,U];exact hc2};{have A:l[i]?=aa x:=S;have o:=(iQ.1 A).1;obtain⟨y,C⟩:∃y,m[i]?=aa y:=⟨_,ft ah⟩;have:=(J i x y A C).1;rw[Cx] at this;exact this};rw[q.slice,aaL q];have:=aaK (f:=e.fa) (g:=λy:DataW H×List MemPlace=>fa y.1) E λi x y S C=>(J i x y S C).2;show wF e.fa l+1<=_;omega
 | arr n e L =>intro c;have L:=L c;refine⟨λ{fuel tid cs d ps} hd h=>?_,λhd=>by simp[sJ,gy] at hd⟩;obtain⟨Y,Z,M,h4⟩:=hd.arr;cases fuel with|zero=>cases h|succ fuel =>simp only[DataW.trod,Z] at h;split at h;(case isFalse=>cases h);(rename_i G;obtain⟨ys,I,Q⟩:=Fm.1 h;obtain⟨rfl,rfl⟩:=eX Q;obtain⟨U,V⟩:=D0 I;simp only[Sy] at U;rw[M.cells] at V;obtain⟨l,E,J⟩:=Kd (R:=λi (x:e.den) (y:DataW H×List MemPlace)=>bL w (old w) e x ((cs.drop<|i*e.size).take e.size)/\e.fa x<=fa y.1) (ys:=ys) (k:=0) λi y hi=>by have o:=(iQ.1 hi).1;have:=V i i (Ps ah);rw[hi] at this;obtain⟨x,r1,r2⟩:=L.1 (d:=y.1) (ps:=y.2) M this;exact⟨x,by rw[Cx];exact r1,r2⟩);refine⟨l,⟨?_,?_,λi x S=>?_⟩,?_⟩;{show List.length (α:=e.den) l=n;rw[E,U]};{rw[G,hd.cells];rfl};{have A:l[i]?=aa x:=S;have o:=(iQ.1 A).1;obtain⟨y,C⟩:∃y,ys[i]?=aa y:=⟨_,ft ah⟩;have:=(J i x y A C).1;rw[Cx] at this;exact this};rw[q.agg,aaL q];have:=aaK (g:=λy=>fa y.1) E λi x y S C=>(J i x y S C).2;show wF e.fa l<=_;omega
 | pair a b F T =>
   intro c;simp only[Ty.E1,gO] at c;have F:=F c.1;have T:=T c.2;have chain:∀{fuel off} {fs} {cs:List Value} {l:List _},sJ P (.pair a b) off fs->(fs.mapM λf=>DataW.trod enc P w 0 (λ_=>true) held fuel f.type ((cs.drop f.offset).take<|P.cellsOf f.type))=aa l ->
     cs.length=off+(Ty.pair a b).size->∃x,bL w (old w) _ x (cs.drop off)/\(Ty.pair a b).fa x<=all (l.map (·.1)):=by
    intro fuel off fs cs l hd h hl;obtain⟨f,r,rfl,f1,_,f2,f3,f4⟩:=hd.cons;rw[aav] at h;obtain⟨y,I,Q⟩:=Co.1 h;obtain⟨ys,g3,g4⟩:=Co.1 Q;obtain rfl:y::ys=l:=aI g4;rw[f1,f2.cells] at I;obtain⟨E,p1,p2⟩:=F.1 f2 I;obtain⟨J,q1,q2⟩:=T.2 f4 g3 (by simp only[Ty.size] at hl;omega);refine⟨(E,J),⟨_,_,?_,p1,q1⟩,?_⟩
    .rw[<-A7,Gp]
    .rw[U2,q.cons];show a.fa E+b.fa J<=_
     omega
   refine⟨λ{fuel tid cs d ps} hd h=>?_,chain⟩;obtain⟨fs,Z,M,_⟩:=hd.pair;cases fuel with
   | zero=>cases h
   | succ fuel =>
     simp only[DataW.trod,Z] at h;split at h
     case isFalse=>cases h
     rename_i G;obtain⟨ys,I,Q⟩:=Fm.1 h;obtain⟨rfl,rfl⟩:=eX Q;rw[hd.cells] at G;obtain⟨x,r1,r2⟩:=chain M I (by rw[G,Cx]);exact⟨x,by simpa using r1,by rw[q.agg];omega⟩
 | alt u a r F ihr=>intro c;cases c
 | Cz=>intro c;cases c
 | unit =>
   intro c;refine⟨λhd=>by simp[Den,gy] at hd,λ{fuel off fs cs l} hd h hl=>?_⟩;exact⟨(),by show cs.drop off=[];rw[List.drop_eq_nil_iff];simp[Ty.size] at hl;omega,pq _⟩
end
end Go.Ge
namespace Go.Ge
open RowKit ChangeShapes WideShapes
def Y5(P:Program):Ty->List TypeId->Prop|.pair t r,tid::ts=>Den P t tid/\Y5 P r ts|.unit,[]=>True|_,_=>False
section
variable {H:Type} {enc:TypeId×Value->H} {P:Program} {w:World} {held:Bool} {fa:DataW H->Nat} {all:List (DataW H)->Nat}
def V5{t}{f g:Nat}{v x}(h:t.E1=true)(d:Den P t f)(c:Value.okWide P w .any g f v)(p:bL w (old w) t x v.cells.toList):v=df t v.cells.toList:=by cases t with|int k=>(obtain⟨n,rfl⟩:=okWide_int d.int c;rfl)|bool=>(obtain⟨b,rfl⟩:=okWide_bool d.bool c;rfl)|str=>(obtain⟨s,rfl⟩:=okWide_string d.str c;rfl)|slice e=>(obtain⟨j,i,_⟩:=d.slice;obtain⟨a,l,m,rfl⟩:=okWide_slice i c;rfl)|pair a b=>(obtain⟨q,i,_⟩:=d.pair;obtain⟨o,rfl,_⟩:=okWide_struct i c;simp[df,Ty.isAgg,Value.cells])|arr n e =>(obtain⟨j,i,_⟩:=d.arr;unfold Value.okWide at c;rw[i] at c;obtain⟨o,rfl,_⟩:=c;simp[df,Ty.isAgg,Value.cells])|unit=>simp[Den,gy] at d|alt u a r=>cases h|Cz=>cases h
def afv(i:Nz fa all){base}:∀{A ts vs ds ps},A.E1=true->Y5 P A ts->DataW.TrodAll enc P w 0 (λ_=>true) held ts vs ds ps ->
  (∀(j:Nat) t v,ts[j]?=aa t->vs[j]?=aa v->Value.okWide P w .any base t v)->∃x,ks w (old w) A x vs/\A.fa x<=all ds:=by
 intro A;induction A with|pair t r n f =>(intro ts vs ds ps b e h c;simp only[Ty.E1,gO] at b;cases ts with|nil=>exact e.elim|cons tid ts =>obtain⟨k,o⟩:=e;obtain⟨v,g,d,s,p,q,rfl,rfl,rfl,⟨l,u⟩,hs⟩:=trodAll_cons h;obtain⟨x,m,E⟩:=(afu i b.1).1 k u;obtain⟨y,z,F⟩:=f b.2 o hs λj t v C D=>c (j+1) t v (by simpa using C) (by simpa using D);refine⟨(x,y),⟨v.cells.toList,g,?_,m,z⟩,?_⟩;{rw[<-V5 b.1 k (c 0 tid v rfl rfl) m]};rw[i.cons];show t.fa x+r.fa y<=_;omega)|unit =>(intro ts vs ds ps b e h c;cases ts with|nil =>(obtain⟨rfl,rfl,rfl⟩:=trodAll_nil h;exact⟨(),rfl,pq _⟩)|cons tid ts=>exact e.elim)|_=>intro ts vs ds ps b e;exact e.elim
def P4(i:laidOutB P=true){W g sp}:∀{ts vs ds ps},(∀t∈ts,P.readableRec t=true/\t<P.types.size) ->
  DataW.TrodAll enc P W 0 (λ_=>true) true ts vs ds ps->(∀p∈ps,W.sameAt g p)->(∀p∈ps,sp p.block=true)->DataW.TrodAll enc P g 0 sp true ts vs ds ps:=by
 intro ts;induction ts with|nil=>(intro vs ds ps _ h _ _;obtain⟨rfl,rfl,rfl⟩:=trodAll_nil h;rfl)|cons t ts j =>intro vs ds ps f h b e;obtain⟨v,k,d,l,p,q,rfl,rfl,rfl,m,n⟩:=trodAll_cons h;refine⟨p,q,WideElems.Trod_stays i (f t<|rU ..).1 (f t<|rU ..).2 m (λx c=>b x (Ew _ c)) (λx c=>e x (Ew _ c)),?_,rfl⟩;exact j (λt o=>f t (wZ _ o)) n (λx c=>b x (KG _ c)) (λx c=>e x (KG _ c))
def Ty.ok:(t:Ty)->t.den->Prop|.int k,n=>k.min<=(show Int from n)/\(show Int from n)<=k.max|.bool,_=>True|.str,s=>List.length (α:=UInt8) s<=maxLen|.slice e,l=>∀(i:Nat) (x:e.den),(show List e.den from l)[i]?=aa x->e.ok x|.arr n e,l=>List.length (α:=e.den) l=n/\∀(i:Nat) (x:e.den),(show List e.den from l)[i]?=aa x->e.ok x|.pair a b,x=>a.ok x.1/\b.ok x.2|.unit,_=>True|.alt _ _ _,_=>True|.Cz,_=>True
def bL.ok{I}:∀{t x cs},bL w I t x cs->t.ok x:=by intro t;induction t with|int k=>intro x cs h;exact h.2|bool=>intro x cs h;trivial|str=>intro x cs h;exact h.2|slice e d =>(intro x cs h i y c;rcases h with ⟨_,h⟩|⟨blk,off,cap,j,l,p,m⟩;{rw[show x=[] from h] at c;cases c};obtain⟨es,_,_,o⟩:=m i y c;exact d o)|arr n e d=>intro x cs h;exact⟨h.1,λi y c=>d (h.2.2 i y c)⟩|pair a b f g=>(intro x cs h;obtain⟨q,s,_,j,l⟩:=h;exact⟨f j,g l⟩)|unit=>intro x cs h;trivial|alt u a r=>intro x cs h;trivial|Cz=>intro x cs h;trivial
def ks.ok{I}:∀{A x b},ks w I A x b->A.ok x:=by intro A;induction A with|pair t r d c=>(intro x b h;obtain⟨cs,rest,_,e,f⟩:=h;exact⟨e.ok,c f⟩)|unit=>intro x b h;trivial|_=>intro x b h;exact h.elim
def aco(Q:Nz fa all)(R:laidOutB P=true){m tb:Nat}{g:Func}{s:ChangeSpec}{A spec apart fresh handsOn}
  (n:Y5 P A g.params.toList) (i:∀t∈g.params.toList,P.readableRec t=true/\t<P.types.size) (r:g.resultTypes=#[tb]) (C:P.underlying tb=aa .bool) (u:s.vars=[]) (S:∀c,c.length=g.params.toList.length->s.fn H c={ results:=[.lit<|.bool true],args:=c }) {G} (T:Holds P G m ⟨A,.pair .bool .unit,spec⟩) {W} (U:Fv G W) {base args c gs before} (y:∀(j:Nat) t v,g.params[j]?=aa t->args[j]?=aa v->Value.okWide P W .any base t v) (D:DataW.Whole enc P g.params.toList s.vars apart W args.toList c gs before) (f:∀x,A.ok x->A.fa x<=all (c++gs)->spec x=aa (true,())) (E:A.E1=true:=by rfl) : Calls P m args W λe K=>∃v,e=.returned v/\s.post enc P g apart fresh handsOn false W args v K:=by
 have k:=D.lt;have z:=D;obtain⟨p,q,F,L,rfl,V,X⟩:=D;rw[u] at L;obtain⟨rfl,rfl⟩:=trodVars_none L;simp at z k f;obtain⟨x,M,Y⟩:=afv Q E n F λj t v Z I=>y j t v (by simpa using Z) (by simpa using I);have hlen:∀{ts vs c ps},DataW.TrodAll enc P W 0 (λ_=>true) true ts vs c ps->c.length=ts.length:=by intro ts;induction ts with|nil=>(intro vs c ps h;obtain⟨_,rfl,_⟩:=trodAll_nil h;rfl)|cons t ts ih=>intro vs c ps h;obtain⟨v,vs',d,ds',p,q,rfl,rfl,rfl,h1,h2⟩:=trodAll_cons h;simp[ih h2]
 have l:=S c (hlen F);refine(T.calls _ W args x _ (λb o h=>h) U M<|f x M.ok Y).mono λe K hw=>?_;obtain⟨v,I',rfl,O,_,_,_,hr⟩:=hw;obtain⟨cs,rfl,I⟩:=hr;obtain rfl:v=.bool true:=by simpa [df,Ty.isAgg] using I
 refine⟨_,rfl,c,[],p,[],p,[],z,?_,?_,?_,O.frame _,λh=>by cases h⟩
 .rw[uC,l,r];exact trodAll_mk1 (shut_bool C true)
 .rw[uC,l];exact P4 R i F (λx J=>O.same (k x J)) (λx J=>by simpa using k x J)
 .rw[uC,l,u];rfl
end
end Go.Ge
namespace Go.Ge
variable [Lp]
open RowKit
noncomputable def afw(cx:Ctx)(bf:List Nat)(b:List ResultVar)(R:Ty)(c:Code)(σ:St):Option R.den :=((jS cx 0 bf Ao c [] σ).bind λr=>bif Nat.beq r.1 1 then((results1 cx r.2 b).bind λv=>match jJ (ig r.2.mem) R (Ar R v) with|some y=>.ret y|none=>.fail) else .fail).run
section
variable {P:Program} {cx:Ctx} {bf:List Nat}
def Hf{G}:zf P G Ao:=λB γ σ aV w f b c v _ _ _ h=>by cases h
def Bl:∀f b σ v aV,(Ao f b σ).run=aa (v,aV)->bY σ aV:=λf b σ v aV h=>by cases h
def Ends(w:World)(I:Nat->Nat->Prop)(R:Ty)(y:R.den)(e:Ending)(d:World):Prop :=∃v c,e=.returned v/\Below w.heap.size w d/\(∀b o,I b o->c b o)/\(∀b o,c b o->b<d.heap.size)/\(∀b o,c b o->¬I b o->w.heap.size<=b)/\mA d c R y v
def Rf{Q}(g:P.follows .mixedOrders=true)(q:ga P cx){G}(i:ql P G cx){fn R y c σ γ a w0 w N I}
  (z:∀t∈writes c,t<N) (A:afw cx bf fn.results.toList R c σ=aa y) (h:dG (px G w0.heap.size) N γ σ a w) (C:Ext (px G w0.heap.size) ⟨I,λ_=>af⟩ (λ_=>af) w0 γ σ.mem w) (D:∀a w,bodyPost P fn (Ends w0 I R y) .ret a w->Q .ret a w):c.wp P Q a w:=by
 obtain⟨r,j,k⟩:=bind_some A;obtain⟨e,aV⟩:=r;obtain⟨E,F⟩:=aA k;obtain⟨v,J,l⟩:=bind_some F;have K:jJ (ig aV.mem) R (Ar R v)=aa y:=by split at l;{rename_i S m;obtain rfl:=aI l;exact m};cases l
 refine vY g q i Hf Bl c z j h λbF u w' s x f=>?_;obtain⟨d,L,M⟩:=zV q s J;have n:=C.trans x;have key:Ends w0 I R y (.returned d) w':=by refine⟨d,λb o=>bF.I b o\/(w0.heap.size<=b/\b<w'.heap.size),rfl,n.below.below,λb o hi=>.inl (n.I b o hi),λb o hi=>?_,λb o hi hn=>?_,Re (σ:=ig aV.mem) s.ok (λb o hi=>.inl hi) (λb o j k=>.inr ⟨sU.1 j,k⟩) M K⟩;{rcases hi with hi|hi;{exact s.ok.vQ b o hi};exact hi.2};rcases hi with hi|hi;{exact sU.1 ((n.sI b o hi).resolve_left hn)};exact hi.1
 have:u.defers=[]/\∃O,(results fn u.tmps).run P w'=.ok O w'/\Ends w0 I R y _ w':=⟨s.defers,d,L,key⟩;have p:e=1:=gP E;subst p;exact D _ _ this
def V6(s:P.follows .mixedOrders=true)(hc:ga P cx){G}(z:ql P G cx){f tid id1 fn e W R2 R3 o0 o1 ty2}{q:List e.den->St}
  (hP:P.funcs[f]?=aa fn) (M:(fn.name == "runtime.NumGoroutine")=false) (A:fn.body=aa (.seq W<|.seq (.seq (.region id1 #[o0,o1] false)<|.cond (.tmp 4) (.seq R2 .ret) .skip)<|.seq R3 .ret)) (hT:find cx.T tid=aa (.slice e)) (hN:4<fn.ntmps) (hd:∀t∈writes W++(writes R2++writes R3),t<fn.ntmps) (g0:o0.guard=af) (d0:o0.dst=aa 3) (p0:o0.op=.move (.tmp 0)) (g1:o1.guard=af) (d1:o1.dst=aa 4) (p1:o1.op=.binOp .eql tid (.tmp 3) (.const<|.slice af 0 0) ty2) (h0:∀l,(jS cx 0 bf Ao W []<|zb (λ_=>af) [.data (.slice e) l]).run=aa (0,q l)) (hs0:∀l,(q l).bj 0=.data (.slice e) l) (hs3:∀l,(q l).bj 3=.undef) (hs4:∀l,(q l).bj 4=.undef) (hA:∀l,afw cx bf fn.results.toList (.pair (.slice e) .unit) (.seq R2 .ret) (q l)=aa (([]:List e.den),())) (hB:∀l,fits (len l)=true->afw cx bf fn.results.toList (.pair (.slice e) .unit) (.seq R3 .ret) (q l)=aa (l,())) : Holds P G f ⟨.pair (.slice e) .unit,.pair (.slice e) .unit,λx=>bif fits (len (α:=e.den) x.1) then aa x else af⟩ where
 body:=⟨fn,_,hP,M,A⟩
 calls:=by
  intro I w r x y hI hG O p;obtain⟨l,u⟩:=x;change List e.den at l;have C:fits (len l)=true/\y=(l,()):=by
   change (bif fits _ then aa _ else af)=aa y at p;cases V:fits _ with
   | true=>rw[V] at p;exact⟨rfl,(aI p).symm⟩
   | false=>rw[V] at p;cases p
  obtain⟨C,rfl⟩:=C;obtain⟨cs,X,Y,Z,R⟩:=O;obtain rfl:X=[]:=R;obtain⟨eid,anz,_⟩:=(hc.T _ _ hT).slice;have hm:bH (px G w.heap.size) ⟨I,λ_=>af⟩ _ w :=
   { vR:=λb Q g=>by
      obtain⟨o,h1,h2⟩:=hG b Q g;exact⟨λD=>by have:=sU.1 D;have:=(xU.1 h1).1;omega,o,h1,h2⟩
     base:=b0 _
     boxes:=λb bx D=>by cases D
     inj:=λb c S k k' D=>absurd rfl D
     fresh:=λb S k D=>absurd rfl D
     vQ:=hI
     sep:=λb bx S k off D=>by cases D }
  have hv:mB ⟨I,λ_=>af⟩ (λ_=>af) w [.data (.slice e) l] r.toList:=by
   rw[Y];refine⟨rfl,λi v x hv hx=>?_⟩;cases i with
   | zero=>obtain rfl:=aI hv;obtain rfl:=aI hx;exact⟨cs,Z,rfl⟩
   | succ i=>cases hv
  refine calls_of_wp hP A (wp_seq ?_);have X6:r.size=1:=by have:=congrArg List.length Y;simpa using this
  have hNN:r.size+(fn.ntmps-r.size)=fn.ntmps:=ah;have K:=II hm hv fn.ntmps;rw[hNN] at K;refine vY s hc z Hf Bl W (λt ht=>hd t (Ew _ ht)) (h0 l) K λγ1 F J s1 x1 f1=>?_;refine wp_seq (wp_seq<|wp_region_list ?_);have hr0:=s1.bj 0;rw[hs0] at hr0;obtain⟨cs1,hc1,hv1⟩:=et.1 hr0;have hsl:∃j n m,F.tmps.getD 0 Go.undef=.slice j n m/\(j=af->l=[]):=by
   rcases hc1 with ⟨⟨j,k1⟩,k2⟩|⟨S,off,m,k1,_⟩
   .exact⟨j,0,0,by rw[hv1,k1];rfl,λ_=>k2⟩
   .exact⟨_,_,_,by rw[hv1,k1];rfl,λh=>by cases h⟩
  obtain⟨j,n,m,anB,U⟩:=hsl;have E:∀{d},(q l).bj d=.undef->(q l).put d .undef=q l:=by
   intro d hd0;unfold St.put
   congr 1
   funext t;cases D:Nat.beq t d with
   | true=>obtain rfl:=gP D;exact hd0.symm
   | false=>rfl
  have s2:dG (px G w.heap.size) fn.ntmps γ1 (q l) (F.put (aa 3)<|.slice j n m) J:=by
   have:=s1.ya (d:=aa 3) (v:=.undef) (val:=.slice j n m) (λk hk=>by cases hk;omega) ⟨_,rfl⟩;rw[show(q l).bu (aa 3) .undef=q l from E (hs3 l)] at this;exact this
  have s3:dG (px G w.heap.size) fn.ntmps γ1 (q l) ((F.put (aa 3)<|.slice j n m).put (aa 4)<|.bool j.isNone) J:=by
   have:=s2.ya (d:=aa 4) (v:=.undef) (val:=.bool j.isNone) (λk hk=>by cases hk;omega) ⟨_,rfl⟩;rw[show(q l).bu (aa 4) .undef=q l from E (hs4 l)] at this;exact this
  have e3:(F.put (aa 3)<|.slice j n m).eval (.tmp 3)=.slice j n m:=by
   simp[Act.eval,Act.put,s1.size];omega
  have e4:((F.put (aa 3)<|.slice j n m).put (aa 4)<|.bool j.isNone).eval (.tmp 4)=.bool j.isNone:=by
   have:=s2.size;simp only[Act.eval];generalize F.put _ _=a2 at this⊢;simp[Act.put,this,hN]
  unfold wpList;rw[show Region.wanted o0 _=true by unfold Region.wanted;rw[g0]];refine .inl ?_;unfold Oper.wp;have ex0:(execOp F.eval o0).run P J=.ok (.value<|.slice j n m) J:=by
   have:F.eval (.tmp 0)=.slice j n m:=anB;simp only[execOp,p0,this];rfl
  rw[ex0];show wpList P #[o0,o1] _ [o1] _ J
  rw[d0];unfold wpList;rw[show Region.wanted o1 _=true by unfold Region.wanted;rw[g1]];refine .inl ?_;unfold Oper.wp;have ex1:(execOp (F.put (aa 3)<|.slice j n m).eval o1).run P J=.ok (.value<|.bool j.isNone) J:=by
   have aj5:(F.put (aa 3)<|.slice j n m).eval (.const _)=.slice af 0 0:=rfl;have hg:(eqGuard .eql tid (.tmp 3) (.const<|.slice af 0 0) (.slice j n m)<|.slice af 0 0).run P J=.ok () J:=by simp[eqGuard]
   simp only[execOp,p1,e3,aj5,Sem.run_bind,hg,_root_.Go.run_eql_slice_nil J tid eid j n m anz,Result.andThen_ok,Sem.run_pure]
  rw[ex1];simp only[Oper.upon];rw[d1];have L:∀{t},t∈writes R2++writes R3->t∈writes W++_:=λh=>KG _ h;refine wp_cond_split e4 (λhn=>?_) (λhn=>(wp_skip<|Rf s hc z (λt ht=>hd t (L<|KG _<|by simpa [writes] using ht)) (hB l C) s3 x1 λa w V=>V))
  .have hl:=U (by simpa using hn);have:=hA l;rw[<-hl] at this;exact Rf s hc z (λt ht=>hd t (L<|Ew _<|by simpa [writes] using ht)) this s3 x1 λa w V=>V
noncomputable def afx(cx:Ctx)(bf:List Nat)(b:List ResultVar)(e:Ty)(c:Code)(d:St):Option (List e.den) :=((jS cx 0 bf Ao c [] d).bind λr=>bif Nat.beq r.1 1 then((results1 cx r.2 b).bind λv=>match Bb e r.2 v with|some x=>.ret x.2.2.2|none=>.fail) else .fail).run
def afy(w:World)(I:Nat->Nat->Prop)(e:Ty)(l:List e.den)(q:Ending)(d:World):Prop :=∃v f L,q=.returned v/\mC w I (λ_=>False) d f/\yg d f e l L v/\∀b c,L=aa (b,c)->w.heap.size<=b
def NA{Q}(i:P.follows .mixedOrders=true)(u:ga P cx){G}(j:ql P G cx){fn e l c σ γ a w0 w N I}
  (F:∀t∈writes c,t<N) (J:afx cx bf fn.results.toList e c σ=aa l) (h:dG (px G w0.heap.size) N γ σ a w) (K:Ext (px G w0.heap.size) ⟨I,λ_=>af⟩ (λ_=>af) w0 γ σ.mem w) (L:∀a w,bodyPost P fn (afy w0 I e l) .ret a w->Q .ret a w):c.wp P Q a w:=by
 obtain⟨r,M,O⟩:=bind_some J;obtain⟨x,aV⟩:=r;obtain⟨R,S⟩:=aA O;obtain⟨v,T,n⟩:=bind_some S;split at n
 case h_2=>cases n
 rename_i o y;obtain⟨b,U,bx,z⟩:=o;obtain rfl:=aI n;obtain⟨V,A,C,W,X,D,_⟩:=vW y;refine vY i u j Hf Bl c F M h λbF E w' s x f=>?_;obtain⟨d,Y,Z⟩:=zV u s T;have g:=K.trans x;obtain⟨m,he⟩:=Q3 s.ok y Z;have key:afy w0 I e z (.returned d) w':=by refine⟨d,bF.I,bF.loc b,rfl,⟨⟨g.below.os,g.below.tape,g.below.output,g.below.size,λk hk=>g.below.block k hk⟩,g.I,s.ok.vQ,λb o hi hn=>sU.1 ((g.sI b o hi).resolve_left hn)⟩,m,λp c hl=>?_⟩;exact sU.1 (s.ok.fresh b p c (by rw[V];simp) hl).1
 have:E.defers=[]/\∃v1,(results fn E.tmps).run P w'=.ok v1 w'/\afy w0 I e z _ w':=⟨s.defers,d,Y,key⟩;have q:_=1:=gP R;subst q;exact L _ _ this
def acp(q:P.follows .mixedOrders=true)(hc:ga P cx)(r:ql P cZ cx){f tid id1 fn e L R2 R3 o0 o1 ty2}{o:List e.den->St}
 (hP:P.funcs[f]?=aa fn) (E:(fn.name == "runtime.NumGoroutine")=false) (s:fn.body=aa (.seq L<|.seq (.seq (.region id1 #[o0,o1] false)<|.cond (.tmp 4) (.seq R2 .ret) .skip)<|.seq R3 .ret)) (hT:find cx.T tid=aa (.slice e)) (hN:4<fn.ntmps) (hd:∀t∈writes L++(writes R2++writes R3),t<fn.ntmps) (g0:o0.guard=af) (d0:o0.dst=aa 3) (p0:o0.op=.move (.tmp 0)) (g1:o1.guard=af) (d1:o1.dst=aa 4) (p1:o1.op=.binOp .eql tid (.tmp 3) (.const<|.slice af 0 0) ty2) (h0:∀l,(jS cx 0 bf Ao L []<|zb (λ_=>af) [.data (.slice e) l]).run=aa (0,o l)) (hs0:∀l,(o l).bj 0=.data (.slice e) l) (hs3:∀l,(o l).bj 3=.undef) (hs4:∀l,(o l).bj 4=.undef) (hA:∀l,afx cx bf fn.results.toList e (.seq R2 .ret) (o l)=aa []) (hB:∀l,fits (len l)=true->afx cx bf fn.results.toList e (.seq R3 .ret) (o l)=aa l) : qk P f (.clone e):=by
 refine⟨⟨fn,_,hP,E,s⟩,λI w p l hI F M=>?_⟩;obtain⟨cs,O,R,S,G⟩:=F;obtain rfl:O=[]:=G;obtain⟨eid,U,_⟩:=(hc.T _ _ hT).slice;have hm:bH (px cZ w.heap.size) ⟨I,λ_=>af⟩ _ w :=
  { vR:=λb Q g=>g.elim
    base:=b0 _
    boxes:=λb bx A=>by cases A
    inj:=λb c J k k' A=>absurd rfl A
    fresh:=λb J k A=>absurd rfl A
    vQ:=hI
    sep:=λb bx J k off A=>by cases A }
 have hv:mB ⟨I,λ_=>af⟩ (λ_=>af) w [.data (.slice e) l] p.toList:=by
  rw[R];refine⟨rfl,λi v x hv hx=>?_⟩;cases i with
  | zero=>obtain rfl:=aI hv;obtain rfl:=aI hx;exact⟨cs,S,rfl⟩
  | succ i=>cases hv
 refine calls_of_wp hP s (wp_seq ?_);have X6:p.size=1:=by have:=congrArg List.length R;simpa using this
 have hNN:p.size+(fn.ntmps-p.size)=fn.ntmps:=ah;have C:=II hm hv fn.ntmps;rw[hNN] at C;refine vY q hc r Hf Bl L (λt V=>hd t (Ew _ V)) (h0 l) C λW y z s1 x1 f1=>?_;refine wp_seq (wp_seq<|wp_region_list ?_);have X:=s1.bj 0;rw[hs0] at X;obtain⟨cs1,hc1,Y⟩:=et.1 X;have hsl:∃j n m,y.tmps.getD 0 Go.undef=.slice j n m/\(j=af->l=[]):=by
  rcases hc1 with ⟨⟨j,k1⟩,k2⟩|⟨J,off,m,k1,_⟩
  .exact⟨j,0,0,by rw[Y,k1];rfl,λ_=>k2⟩
  .exact⟨_,_,_,by rw[Y,k1];rfl,λh=>by cases h⟩
 obtain⟨j,n,m,Z,K⟩:=hsl;have u:∀{d},(o l).bj d=.undef->(o l).put d .undef=o l:=by
  intro d hd0;unfold St.put
  congr 1
  funext t;cases A:Nat.beq t d with
  | true=>obtain rfl:=gP A;exact hd0.symm
  | false=>rfl
 have s2:dG (px cZ w.heap.size) fn.ntmps W (o l) (y.put (aa 3)<|.slice j n m) z:=by
  have:=s1.ya (d:=aa 3) (v:=.undef) (val:=.slice j n m) (λk hk=>by cases hk;omega) ⟨_,rfl⟩;rw[show(o l).bu (aa 3) .undef=o l from u (hs3 l)] at this;exact this
 have s3:dG (px cZ w.heap.size) fn.ntmps W (o l) ((y.put (aa 3)<|.slice j n m).put (aa 4)<|.bool j.isNone) z:=by
  have:=s2.ya (d:=aa 4) (v:=.undef) (val:=.bool j.isNone) (λk hk=>by cases hk;omega) ⟨_,rfl⟩;rw[show(o l).bu (aa 4) .undef=o l from u (hs4 l)] at this;exact this
 have e3:(y.put (aa 3)<|.slice j n m).eval (.tmp 3)=.slice j n m:=by
  simp[Act.eval,Act.put,s1.size];omega
 have e4:((y.put (aa 3)<|.slice j n m).put (aa 4)<|.bool j.isNone).eval (.tmp 4)=.bool j.isNone:=by
  have:=s2.size;simp only[Act.eval];generalize y.put _ _=a2 at this⊢;simp[Act.put,this,hN]
 unfold wpList;rw[show Region.wanted o0 _=true by unfold Region.wanted;rw[g0]];refine .inl ?_;unfold Oper.wp;have ex0:(execOp y.eval o0).run P z=.ok (.value<|.slice j n m) z:=by
  have:y.eval (.tmp 0)=.slice j n m:=Z;simp only[execOp,p0,this];rfl
 rw[ex0];show wpList P #[o0,o1] _ [o1] _ z
 rw[d0];unfold wpList;rw[show Region.wanted o1 _=true by unfold Region.wanted;rw[g1]];refine .inl ?_;unfold Oper.wp;have ex1:(execOp (y.put (aa 3)<|.slice j n m).eval o1).run P z=.ok (.value<|.bool j.isNone) z:=by
  have aj5:(y.put (aa 3)<|.slice j n m).eval (.const _)=.slice af 0 0:=rfl;have hg:(eqGuard .eql tid (.tmp 3) (.const<|.slice af 0 0) (.slice j n m)<|.slice af 0 0).run P z=.ok () z:=by simp[eqGuard]
  simp only[execOp,p1,e3,aj5,Sem.run_bind,hg,_root_.Go.run_eql_slice_nil z tid eid j n m U,Result.andThen_ok,Sem.run_pure]
 rw[ex1];simp only[Oper.upon];rw[d1];have D:∀{t},t∈writes R2++writes R3->t∈writes L++_:=λh=>KG _ h;refine wp_cond_split e4 (λhn=>?_) (λhn=>(wp_skip<|NA q hc r (λt V=>hd t (D<|KG _<|by simpa [writes] using V)) (hB l M) s3 x1 λa w hq=>hq))
 .have hl:=K (by simpa using hn);have:=hA l;rw[<-hl] at this;exact NA q hc r (λt V=>hd t (D<|Ew _<|by simpa [writes] using V)) this s3 x1 λa w hq=>hq
end
end Go.Ge
namespace Go.Ge
variable [Lp]
def dc{S R}{f:S->Option (S⊕R)}{r}:∀k (st:Nat->S),(∀i,i<k->f (st i)=aa (.inl<|st<|i+1))->f (st k)=aa (.inr r)->Loop f (st 0)=aa r:=by intro k;induction k with|zero=>intro st _ h;rw[aN,h];rfl|succ k c =>intro st b d;rw[aN,b 0 ah];exact c _ (λi e=>b _ ah) d
def aC{i:Nat}(h:i<4611686018427387904):aw .i64 i 1=((i+1:Nat):Int):=by unfold aw;simp[IntKind.wrap,IntKind.bits];omega
def s6{α}(l:List α)(i:Nat):idx l i=l[i]?:=by unfold idx;simp
def acq{n:Nat}(h:n<=4294967296):fits n=true:=by unfold fits;simp;omega
def ai{α}(x y:α):ak true x y=x:=rfl
def ag{α}(x y:α):ak false x y=y:=rfl
def ab{α β} x (f:α->Option β):ae (aa x) f=f x:=rfl
def AB a:bg a a=true:=by simp[bg]
def kv a:aD a a=true:=by simp[aD]
def aW:nt true=false:=rfl
def aE:nt false=true:=rfl
def aj6{P tys}(h:(tys.all λp=>gy P p.2 false p.1 0 [])=true):∀tid t,find tys tid=aa t->Den P t tid:=λtid t b=>by rw[w8] at h;exact h _ (sZ b)
def Rg{l t}(h:dm l t=true):t∈l:=CN.1 h
def alW(P:Program)(b:TypeId):Bool:=(match P.underlying b with|some (.pointer _)=>true|some (.func ..)=>true|_=>false)&&(match P.info? b with|some i=>Nat.beq i.size 1&&(match i.zero with|some z=>z.oneCell'|none=>false)|none=>false)
def ah2{P vP}(h:(vP.all λt=>alW P t)=true):∀tid,dm vP tid=true->(∀w,(isAgg tid).run P w=.ok false w)/\(∀w,(Go.sizeOf tid).run P w=.ok 1 w)/\∃z,(∀w,(zeroValue tid).run P w=.ok z w)/\z.oneCell'=true:=λtid g=>by
 rw[w8] at h;have:=h tid (Rg g);simp only[alW,gO] at this;obtain⟨f,b⟩:=this;refine⟨?_,?_,?_⟩
 .intro w;split at f;{rename_i c;simp[isAgg,run_underlying c]};{rename_i c;simp[isAgg,run_underlying c]};cases f
 {intro w;split at b;{rename_i i d;simp only[gO] at b;have:=gP b.1;simp[Go.sizeOf,typeInfo,d,this]};cases b};split at b;{rename_i i d;simp at b;obtain⟨_,e⟩:=b;split at e;{rename_i z j;exact⟨z,λw=>by simp[zeroValue,typeInfo,d,j],e⟩};cases e};cases b
def alX(P:Program)(b:TypeId):Bool:=match P.underlying b with|some (.pointer _)=>true|_=>false
def ah3{P EC}(h:(EC.all λt=>alX P t)=true):∀tid,dm EC tid=true->∃e,P.underlying tid=aa (.pointer e):=λtid b=>by
 rw[w8] at h;have:=h tid (Rg b);unfold alX at this;split at this
 {rename_i e c;exact⟨e,c⟩};cases this
def Tn{P G}:∀p∈([]:List (Nat×SA)),Holds P G p.1 p.2:=λp h=>by cases h
def NB{P G}:∀p∈([]:List (Nat×Va)),SV P G p.1 p.2:=λp h=>by cases h
def aaM{P}:∀p∈([]:List (Nat×Spc)),qk P p.1 p.2:=λp b=>by cases b
def dK{P f s l}(h:qk P f s)(c:∀p∈l,qk P p.1 p.2):∀p∈(f,s)::l,qk P p.1 p.2:=λp b=>by
 rcases fA.1 b with rfl|b
 {exact h};exact c p b
def Rh{α}:∀{l:List (String×α)} {k a},QR l k=aa a->(k,a)∈l|[],_,_,h=>by cases h|(i,a)::r,k,b,h=>by unfold QR at h;by_cases e:i=k;{rw[cW e] at h;obtain rfl:=e;obtain rfl:=aI h;exact rU ..};rw[cf e] at h;exact wZ _ (Rh h)
def To{P G}:∀p∈([]:List (String×SA)),Bj P G p.1 p.2:=λp h=>by cases h
def NC{P G}:∀p∈([]:List (Nat×Gt)),lM P G p.1 p.2:=λp h=>by cases h
def ND{P G cx}(h:∀p∈cx.Vb,Holds P G p.1 p.2)(k:∀p∈cx.Px,SV P G p.1 p.2)(s:∀p∈cx.QQ,qk P p.1 p.2)(v:∀p∈cx.inv,Bj P G p.1 p.2)(q:∀p∈cx.SB,lM P G p.1 p.2):ql P G cx :=⟨λf c b=>h _ (sZ b),λf c b=>k _ (sZ b),λf c b=>s _ (sZ b),λn c b=>v _ (Rh b),λf c b=>q _ (sZ b)⟩
def ah4{P w9}(h:(w9.all λp=>Py P p.1 p.2)=true):∀tid b,find w9 tid=aa b->Py P tid b=true:=λtid b c=>by rw[w8] at h;exact h _ (sZ c)
def elB(P:Program)(p:Nat×Nat):Bool:=match P.underlying p.1 with|some (.slice e)=>Nat.beq e p.2|_=>false
def aj7{P els}(h:(els.all λp=>elB P p)=true):∀tid e,find els tid=aa e->P.underlying tid=aa (.slice e):=λtid e b=>by
 rw[w8] at h;have:=h _ (sZ b);unfold elB at this;split at this
 {rename_i d c;rw[c,gP this]};cases this
def V7{P t i z}(h:P.info? t=aa i)(k:i.zero=aa z) w:(zeroValue t).run P w=.ok z w:=by simp[zeroValue,typeInfo,h,k]
def Hg(I:Nat->Nat->Prop) w:Fv cZ w:=λb Q h=>h.elim
end Go.Ge
namespace Go.Ge
open RowKit
def B5 c:∀l,-1<=Lib.indexByte l c/\Lib.indexByte l c<l.length:=by intro l;induction l with|nil=>exact⟨by simp[Lib.indexByte],by simp[Lib.indexByte]⟩|cons b r d =>unfold Lib.indexByte;split;{exact⟨aT,by simp only[iV];omega⟩};split;{exact⟨aT,cR⟩};simp;omega
def aaN{P:Program}{f:Nat}{fn}(d:P.funcs[f]?=aa fn)(c:(fn.name == "runtime.NumGoroutine")=false)(e:fn.body.isSome=true) :
  ∃fn b,P.funcs[f]?=aa fn/\(fn.name == "runtime.NumGoroutine")=false/\fn.body=aa b:=by
 obtain⟨b,g⟩:=KD.1 e;exact⟨fn,b,d,c,g⟩
def V8{w:World}{b p q v T c}(h:w.heap[b]?=aa (.cells #[p,v] T c)):w.setCell ⟨b,0,af⟩ q=w.setRow b #[q,v]:=by
 unfold World.setCell World.setRow;congr 1;apply Array.ext_getElem?;intro i;simp only[UP];by_cases e:b=i
 {subst e;simp[h]};simp[e]
def y6.refl b w:y6 b w w:=⟨rfl,rfl,rfl,b0 _,λ_ _ _=>rfl,λ_ _ _=>rfl⟩
def y6.weaken{b w w'}(h:y6 af w w'):y6 b w w':=⟨h.os,h.tape,h.output,h.size,λk c _=>h.block k c aT,h.cell⟩
def y6.drew{b w w'}(h:y6 b w w'):y6 b w w'.drew:=⟨h.os,h.tape,h.output,h.size,h.block,h.cell⟩
def y6.alloc{d w w'}(h:y6 d w w') o:y6 d w (w'.alloc o) where
 os:=h.os
 tape:=h.tape
 output:=h.output
 size:=fB h.size aT
 block:=λk b hn=>(dh w' o k<|Ai b h.size).trans (h.block k b hn)
 cell:=λk c b=>(dM<|dh w' o k<|Ai b h.size).trans (h.cell k c b)
def y6.freeze{g w w'}(h:y6 (aa g) w w') n:y6 (aa g) w (w'.freeze ⟨g,0,af⟩ n):=by
 unfold World.freeze;split
 {exact h};refine⟨h.os,h.tape,h.output,fB h.size aT,λk d hn=>?_,λk c d=>?_⟩;{have b:¬g=k:=λe=>hn (by rw[e]);rw[<-h.block k d hn];simp[UP,b]};rw[<-h.cell k c d];by_cases e:g=k;{subst e;simp only[World.cell?,UP];cases w'.heap[g]? with|none=>rfl|some o=>cases o<;>rfl};have b:=e;simp[World.cell?,UP,b]
def Tp{P G}{f:Nat}{fn}{spec:bb->Int->Int}(v:P.funcs[f]?=aa fn)(g:(fn.name == "runtime.NumGoroutine")=false)(z:fn.body.isSome=true)
  (A:∀s c,(-1<=spec s c/\spec s c<s.length)) (h:∀s c w,Calls P f #[.string s,.int .u8 c] w λe w'=>e=.returned (.int .i64<|spec s.data.toList c)/\w'=w) : Holds P G f ⟨.pair .str<|.pair (.int .u8) .unit,.pair (.int .i64) .unit,λx=>aa (spec x.1 x.2.1,())⟩ where
 body:=by
  obtain⟨m,C⟩:=KD.1 z;exact⟨fn,m,v,g,C⟩
 calls:=by
  intro I w n x y D L i j;obtain⟨s,c,u⟩:=x;obtain rfl:_=y:=aI j;obtain⟨M,t,r,p,E,k,q,l,d⟩:=i;obtain rfl:k=[]:=d;obtain⟨rfl,F⟩:=p;obtain⟨rfl,_⟩:=l;obtain rfl:n=#[.string ⟨s.toArray⟩,.int .u8 c]:=by apply Cw.1;rw[r,q];rfl
  refine(h ⟨s.toArray⟩ c w).mono ?_;rintro e w' ⟨rfl,rfl⟩;refine⟨_,I,rfl,Below.refl _ _,λb o h=>h,D,λb o J K=>absurd J K,?_⟩;have hs:=A s c;have O:s.length<=maxLen:=F;refine⟨[.int .i64 _],⟨rfl,?_,?_⟩,rfl⟩;{have:(i64).min=-9223372036854775808:=aF;show(i64).min<=spec s c;omega};(have:(i64).max=9223372036854775807:=aF;have:maxLen=140737488355328\/maxLen<=9223372036854775807:=by right;decide);show spec s c<=(i64).max;omega
def P5{P G}{f:Nat}{fn}{spec:bb->Int->Option bb}(D:P.funcs[f]?=aa fn)(g:(fn.name == "runtime.NumGoroutine")=false)(E:fn.body.isSome=true)
  (F:∀s c y,spec s c=aa y->y.length<=maxLen) (h:∀s c w y,(i64).min<=c/\c<=(i64).max->s.data.toList.length<=maxLen->spec s.data.toList c=aa y ->Calls P f #[.string s,.int .i64 c] w λe w'=>e=.returned (.string ⟨y.toArray⟩)/\Below w.heap.size w w') :
  Holds P G f ⟨.pair .str<|.pair (.int .i64) .unit,.pair .str .unit,λx=>(spec x.1 x.2.1).map λy=>(y,())⟩ where
 body:=by obtain⟨m,r⟩:=KD.1 E;exact⟨fn,m,D,g,r⟩
 calls:=by
  intro I w n x y J Q i j;obtain⟨s,c,u⟩:=x;obtain⟨z,v,rfl⟩:=Fm.1 j;obtain⟨R,A,t,p,K,k,q,l,d⟩:=i;obtain rfl:k=[]:=d;obtain⟨rfl,L⟩:=p;obtain⟨rfl,r⟩:=l;obtain rfl:n=#[.string ⟨s.toArray⟩,.int .i64 c]:=by apply Cw.1;rw[t,q];rfl
  refine(h ⟨s.toArray⟩ c w z r L v).mono ?_;rintro e w' ⟨rfl,C⟩;exact⟨_,I,rfl,C,λb o h=>h,λb o h=>Ai (J b o h) C.size,λb o M O=>absurd M O,[.string ⟨z.toArray⟩],⟨rfl,F _ _ _ v⟩,rfl⟩
end Go.Ge
namespace Go.Ge
open RowKit Go.Proofs Go.Shelf
def Any.Y6 s c:((Lib.countByte s.data.toList c:Nat):Int)=((Lib.countB s ⟨#[c]⟩:Nat):Int):=by show((s.data.toList.count c):Int)=((Lib.count s.data.toList [c]):Int);rw[Lib.count_one]
set_option maxHeartbeats 1000000 in
def Any.FM{P ρ}(L:Lays.n146 P ρ)(k:(P.info?<|ρ.t 9).map (λi=>(i.zero,i.size,i.bytes))=aa (aa<|.string ByteArray.empty,1,16)) s b w
  (hs:s.size<4294967281) : Calls P (ρ.f 146) #[.string s,.string ⟨#[b]⟩] w λe w' =>e=.returned (.slice (aa ⟨w.heap.size,0,af⟩) (Lib.countB s ⟨#[b]⟩+1)<|Lib.countB s ⟨#[b]⟩+1)/\w'=w.alloc (.cells ((Lib.splitB ⟨#[b]⟩ 0 (Lib.countB s ⟨#[b]⟩) s).map Value.string).toArray<|ρ.t 9):=by
 have j:1<=(⟨#[b]⟩:ByteArray).size:=b0 _;generalize d:(⟨#[b]⟩:ByteArray)=sep at j;have n:=Lib.countB_le sep j s.size s (b0 _);have hlen:=Lib.splitB_all sep j 0 _ s rfl;have c:=Proofs.Any.strings_genSplit_core { L with } k s sep 0 (-1) (Lib.countB s sep+1) w hs j (pq _)
  (λx c o=>by subst d;refine(Proofs.Any.strings_Index_one { L with } x b _).mono λe w' ⟨l,g⟩=>⟨?_,g⟩;rw[l];show _=Ending.returned (Value.int .i64<|Lib.index x.data.toList [b]);rw[Lib.index_one])
  (by subst d;refine(Proofs.Any.strings_Count_one { L with } s b w).mono λe w' ⟨l,g⟩=>⟨?_,g⟩;rw[l,Any.Y6])
  aF aF ah
 have p:Lib.cellsOf (Lib.splitB sep 0 (Lib.countB s sep) s) (Lib.countB s sep+1)=((Lib.splitB sep 0 (Lib.countB s sep) s).map Value.string).toArray:=by rw[<-hlen];apply Lib.cellsOf_full
 have m:∀h w,(callFunc _ h).run P w=.ok _ w:=enters_of L.f221 (by kernel_rfl) rfl
 go_enter L.f146,Body.n146_ntmps ρ
 go_wp2_with (go_at_fn (ρ.f 221);refine c.mono ?_;rintro e w' ⟨rfl,g⟩;rw[g])
 go_ret
 exact⟨rfl,rfl⟩
def D1(s c:bb):Option (List bb):=match c with|[b]=>if s.length<4294967281 then aa (Lib.split s [b]) else af|_=>af
def acr sep:∀k s x,x∈Lib.splitK sep 0 k s->x.length<=s.length:=by intro k;induction k with|zero=>intro s x h;simp[Lib.splitK] at h;rw[h];apply b0|succ k b =>intro s x h;unfold Lib.splitK at h;split at h;{simp at h;rw[h];apply b0};rcases fA.1 h with h|h;{rw[h,dw];omega};have:=b _ _ h;rw[rV] at this;omega
def V9{P G}{f r:Nat}{fn}(U:P.funcs[f]?=aa fn)(g:(fn.name == "runtime.NumGoroutine")=false)(V:fn.body.isSome=true)
  (h:∀s b w,s.size<4294967281->Calls P f #[.string s,.string ⟨#[b]⟩] w λe w' =>e=.returned (.slice (aa ⟨w.heap.size,0,af⟩) (Lib.countB s ⟨#[b]⟩+1)<|Lib.countB s ⟨#[b]⟩+1)/\w'=w.alloc (.cells ((Lib.splitB ⟨#[b]⟩ 0 (Lib.countB s ⟨#[b]⟩) s).map Value.string).toArray r)) :
  Holds P G f ⟨.pair .str<|.pair .str .unit,.pair (.slice .str) .unit,λx=>(D1 x.1 x.2.1).map λy=>(y,())⟩ where
 body:=by obtain⟨t,W⟩:=KD.1 V;exact⟨fn,t,U,g,W⟩
 calls:=by
  intro I w A x y X hG k l;obtain⟨s,m,u⟩:=x;change bb at s;change bb at m;obtain⟨z,n,rfl⟩:=Fm.1 l;change D1 s m=aa z at n;have C:∃b,m=[b]/\s.length<4294967281/\z=Lib.split s [b]:=by
   unfold D1 at n;split at n
   .rename_i b;split at n
    .rename_i L;exact⟨b,rfl,L,(aI n).symm⟩
    .cases n
   .cases n
  obtain⟨b,rfl,L,rfl⟩:=C;obtain⟨cs,Q,M,D,Y,p,E,q,c⟩:=k;obtain rfl:p=[]:=c;obtain⟨rfl,O⟩:=D;obtain⟨rfl,_⟩:=q;obtain rfl:A=#[.string ⟨s.toArray⟩,.string ⟨#[b]⟩]:=by
   apply Cw.1;rw[M,E];rfl
  refine(h ⟨s.toArray⟩ b w<|by show s.toArray.size<_;simpa using L).mono ?_;rintro e w' ⟨rfl,rfl⟩;have d:=Lib.splitB_data ⟨#[b]⟩ 0 (Lib.countB ⟨s.toArray⟩ ⟨#[b]⟩) ⟨s.toArray⟩;have hlen:=Lib.splitB_all ⟨#[b]⟩ (b0 _) 0 _ ⟨s.toArray⟩ rfl;generalize Z:Lib.splitB ⟨#[b]⟩ 0 _ ⟨s.toArray⟩=R at d hlen;have hd:R.map _=Lib.split s [b]:=d;have hn:(Lib.split s [b]).length=Lib.countB ⟨s.toArray⟩ ⟨#[b]⟩+1:=by rw[<-hd,zK,hlen]
  have F:Lib.countB ⟨s.toArray⟩ ⟨#[b]⟩+1<=maxLen:=by
   have:=Lib.countB_le ⟨#[b]⟩ (b0 _) s.length ⟨s.toArray⟩ (by show s.toArray.size<=_;simp);have e:(⟨s.toArray⟩:ByteArray).size=s.length:=by show s.toArray.size=_;simp
   have:4294967281<=maxLen:=aF;omega
  refine⟨_,λb o=>I b o\/b=w.heap.size,rfl,(Below.refl _ _).alloc (b0 _) _,λb o h=>.inl h,λb o h=>?_,λb o K h2=>?_,?_⟩
  .have X6:(w.alloc<|.cells (R.map Value.string).toArray r).heap.size=w.heap.size+1:=aT;rcases h with h|h
   .have:=X b o h;omega
   .omega
  .rcases K with K|K
   .exact absurd K h2
   .omega
  .refine⟨[.slice _ _ _],?_,rfl⟩;refine .inr ⟨w.heap.size,0,Lib.countB ⟨s.toArray⟩ ⟨#[b]⟩+1,?_,?_,F,λi x S=>?_⟩
   .show _=[Value.slice _ (Lib.split s [b]).length _]
    rw[hn]
   .show(Lib.split s [b]).length<=_
    omega
   .have J:(Lib.split s [b])[i]?=aa x:=S;rw[<-hd,KI] at J;obtain⟨y,hy,rfl⟩:=Fm.1 J;refine⟨[.string y],rfl,λj v T=>?_,?_⟩
    .cases j with
     | succ j=>cases T
     | zero =>
       obtain rfl:=aI T;simp[Ty.size,hy]
    .refine⟨?_,?_⟩
     .have:=(Lib.mk_data y).symm;rw[<-this]
     .have hm:=eG S;have:=acr _ _ _ _ hm;exact fB this O
def FN(l:List bb)(b:bb):Option bb:=if l.length<=140737488355328/\(Lib.join l b).length<=140737488355328 then aa (Lib.join l b) else af
def Y7{P G}{f:Nat}{fn}(hP:P.funcs[f]?=aa fn)(t:(fn.name == "runtime.NumGoroutine")=false)(hb:fn.body.isSome=true)
  (Y:∀a c d w,Calls P f #[.slice a 0 c,.string d] w λe w'=>e=.returned (.string ⟨#[]⟩)/\w'=w) (h:∀V o c (L:List ByteArray) d w,
  (∀j x,L[j]?=aa x->w.cell? ⟨V,o+j,af⟩=aa (.string x))->(V<w.heap.size)->(L.length<=140737488355328)->(L.length<=c) ->((Lib.join (L.map (·.data.toList)) d.data.toList).length<=140737488355328) ->Calls P f #[.slice (aa ⟨V,o,af⟩) L.length c,.string d] w λe w'=>e=.returned (.string ⟨(Lib.join (L.map (·.data.toList)) d.data.toList).toArray⟩)/\Below w.heap.size w w') :
  Holds P G f ⟨.pair (.slice .str)<|.pair .str .unit,.pair .str .unit,λx=>(FN x.1 x.2.1).map λy=>(y,())⟩ where
 body:=by
  obtain⟨M,W⟩:=KD.1 hb;exact⟨fn,M,hP,t,W⟩
 calls:=by
  intro I w n x y Z hG A C;obtain⟨l,d,u⟩:=x;obtain⟨z,R,rfl⟩:=Fm.1 C;unfold FN at R;split at R;case isFalse=>cases R
  rename_i g;obtain⟨D,g⟩:=g;obtain rfl:=aI R;obtain⟨cs,rest,O,Q,cs2,E,p,F,k⟩:=A;obtain rfl:E=[]:=k;obtain⟨rfl,hsm⟩:=F;have fin:∀{v},cs=[v]->∀{w'},Below w.heap.size w w'->∀{e:Ending},e=.returned (.string ⟨(Lib.join l d).toArray⟩) ->
    ∃v S,e=.returned v/\Below w.heap.size w w'/\(∀b o,I b o->S b o)/\(∀b o,S b o->b<w'.heap.size)/\(∀b o,S b o->¬I b o->w.heap.size<=b)/\mA w' S (.pair .str .unit) (Lib.join l d,()) v:=by
   intro v _ w' T e he;exact⟨_,I,he,T,λb o h=>h,λb o h=>Ai (Z b o h) T.size,λb o h1 h2=>absurd h1 h2,[.string ⟨(Lib.join l d).toArray⟩],⟨rfl,(fB g aF)⟩,rfl⟩
  rcases Q with ⟨⟨q,rfl⟩,hl⟩|⟨J,K,m,rfl,s,ahQ,X⟩
  .obtain rfl:l=[]:=hl;obtain rfl:n=#[.slice q 0 0,.string ⟨d.toArray⟩]:=by
    apply Cw.1;rw[O,p];rfl
   refine(Y q 0 ⟨d.toArray⟩ w).mono ?_;rintro e w' ⟨rfl,rfl⟩;exact fin rfl (Below.refl _ _) rfl
  .change l.length<=m at s;obtain rfl:n=#[.slice _ l.length m,.string ⟨d.toArray⟩]:=by
    apply Cw.1;rw[O,p];rfl
   cases l with
   | nil =>
     refine(Y _ m ⟨d.toArray⟩ w).mono ?_;rintro e w' ⟨rfl,rfl⟩;exact fin rfl (Below.refl _ _) rfl
   | cons a r =>
     have i:∀j x,(a::r)[j]?=aa x->w.cell? ⟨J,K+j,af⟩=aa (.string ⟨x.toArray⟩)/\I J (K+j):=by
      intro j x U;obtain⟨es,he,W,hr⟩:=X j x U;obtain⟨rfl,_⟩:=hr;have:=W 0 _ rfl;simpa [Ty.size] using this
     have e1:((a::r).map λx=>(⟨x.toArray⟩:ByteArray)).map (·.data.toList)=a::r:=by
      rw[List.map_map];exact List.map_id'' (λx=>rfl) _
     have:=h J K m _ ⟨d.toArray⟩ w (λj x U=>by
      rw[KI] at U;obtain⟨y,hy,rfl⟩:=Fm.1 U;exact(i j y hy).1) (Z _ _ (i 0 a rfl).2) (by rw[zK];exact D) (by rw[zK];exact s) (by rw[e1];exact g)
     rw[e1,zK] at this;refine this.mono ?_;rintro e w' ⟨rfl,T⟩;exact fin rfl T rfl
end Go.Ge
namespace Go.Ge
open RowKit
def Holds.weaken{P G f A R spec b}(h:Holds P G f ⟨A,R,spec⟩)(d:∀x y,b x=aa y->spec x=aa y):Holds P G f ⟨A,R,b⟩ where
 body:=h.body
 calls:=λI w c x y e g i j=>h.calls I w c x y e g i (d x y j)
def acs{P G f fn}(i:P.funcs[f]?=aa fn)(e:(fn.name == "runtime.NumGoroutine")=false)(j:fn.body.isSome=true){A R}{F:(A.den->Option R.den)->A.den->Option R.den}
  (l:∀g,Holds P G f ⟨A,R,g⟩->Holds P G f ⟨A,R,F g⟩) (S:Nat->A.den->Option R.den) (m:∀x,S 0 x=af) (n:∀k x y,S (k+1) x=aa y->F (S k) x=aa y) {spec} (o:∀x y,spec x=aa y->∃k,S k x=aa y):Holds P G f ⟨A,R,spec⟩:=by
 have b:∃fn c,P.funcs[f]?=aa fn/\(fn.name == "runtime.NumGoroutine")=false/\fn.body=aa c:=by obtain⟨c,p⟩:=KD.1 j;exact⟨fn,c,i,e,p⟩
 have all:∀k,Holds P G f ⟨A,R,S k⟩:=by intro k;induction k with|zero=>exact⟨b,λI w d x y _ _ _ h=>by have:=m x;rw[show S 0 x=aa y from h] at this;cases this⟩|succ k q=>exact(l _ q).weaken (n k)
 exact⟨b,λI w d x y r s t h=>by obtain⟨k,u⟩:=o x y h;exact(all k).calls I w d x y r s t u⟩
def FO{P G f fn}(C:P.funcs[f]?=aa fn)(q:(fn.name == "runtime.NumGoroutine")=false)(D:fn.body.isSome=true){T F:Nat}{t A U R:Ty}{W:((t.den×A.den)×U.den->Option (R.den×U.den))->(t.den×A.den)×U.den->Option (R.den×U.den)}
  (E:∀s,lM P G f ⟨T,t,F,A,U,R,s⟩->lM P G f ⟨T,t,F,A,U,R,W s⟩) (S:Nat->(t.den×A.den)×U.den->Option (R.den×U.den)) (J:∀x,S 0 x=af) (K:∀k x y,S (k+1) x=aa y->W (S k) x=aa y) {spec} (L:∀x y,spec x=aa y->∃k,S k x=aa y):lM P G f ⟨T,t,F,A,U,R,spec⟩:=by
 have l:∃fn o,P.funcs[f]?=aa fn/\(fn.name == "runtime.NumGoroutine")=false/\fn.body=aa o:=by obtain⟨o,M⟩:=KD.1 D;exact⟨fn,o,C,q,M⟩
 have all:∀k,lM P G f ⟨T,t,F,A,U,R,S k⟩:=by intro k;induction k with|zero=>exact⟨l,λI w m n p z r x u y _ _ _ _ _ _ _ _ _ v=>by have:=J ((r,x),u);rw[show S 0 ((r,x),u)=aa y from v] at this;cases this⟩|succ k O=>exact⟨l,λI w m n p z r x u y a b c d e g h i j v=>(E _ O).calls I w m n p z r x u y a b c d e g h i j (K k _ _ v)⟩
 exact⟨l,λI w m n p z r x u y a b c d e g h i j v=>by obtain⟨k,Q⟩:=L _ _ v;exact(all k).calls I w m n p z r x u y a b c d e g h i j Q⟩
end Go.Ge
namespace Go.Ge
open RowKit Go.Sort Go.Proofs
def mC.mk'{w w' I X}(c:w'.os=w.os)(f:w'.tape=w.tape)(g:w'.output=w.output)(d:w.heap.size<=w'.heap.size)
  (i:∀k,k<w.heap.size->¬X k->w'.heap[k]?=w.heap[k]?) (j:∀b o,I b o->b<w.heap.size):mC w I X w' I where
 below:=⟨c,f,g,d,λk e=>i k (aar λq=>e (.inl q)) λq=>e (.inr q)⟩
 held:=λ_ _ h=>h
 vQ:=λb o h=>Ai (j b o h) d
 sI:=λb o h k=>absurd h k
def P6{b:Type}{L:List b}{i y}(h:L[i]?=aa y):(L.drop i).take 1=[y]:=by obtain⟨c,d⟩:=iQ.1 h;rw[Cv c];simp[d]
def Wa{w I}{t:Ty}[inst:Inhabited t.den]{enc:t.den->Value}(m:t.size=1)(n:∀x g,bL w I t x g->g=[enc x]){l:List t.den}{blk cur tid h}(k:w.heap[blk]?=aa (.cells cur tid h))(e:nY cur h)(o:l.length<=cur.size)
  (f:∀(i:Nat) x,l[i]?=aa x->bL w I t x ((cur.toList.drop<|i*t.size).take t.size)):Sort.Holds enc w blk 0 l.toArray:=by
 intro j p;have b:j<l.length:=by simpa using p
 have c:=n _ _ (f j l[j]<|ft b);rw[m,Gs] at c;have q:cur[j]?=aa (enc l[j]):=by
  have:((cur.toList.drop j).take 1)[0]?=aa (enc l[j]):=by rw[c];rfl
  simpa using this
 have d:l.toArray[j]! = l[j]:=by simp[b]
 refine⟨?_,?_⟩
 .rw[d];simp only[World.cell?,k,Cx];exact q
 .have:=e j ah;simp only[World.frozen?,k];simp at this;simp;exact this
def aaO{w w' I}{t:Ty}[inst:Inhabited t.den]{enc:t.den->Value}(E:t.size=1)(J:∀b o,I b o->b<w.heap.size){l l':List t.den}{blk cap cur tid u}(F:w.heap[blk]?=aa (.cells cur tid u))(v:ThB t cur u)
  (f:cur.size=cap*t.size) (j:∀o,¬I blk o) {d:List t.den} (S:d.length=l.length) (K:l.length<=cap) (p:cap<=maxLen) (y:l'.length<=l.length) (q:∀(i:Nat) x,l'[i]?=aa x->d[i]?=aa x/\bL w' I t x [enc x]) {n os} (r:w'=grow (putRow enc (Sort.ahead w n) blk 0 d.toArray) os) : mC w I (λk=>∃c,aa (blk,cap)=aa (k,c)) w' I/\yg w' I t l' (aa (blk,cap)) (.slice (aa ⟨blk,0,af⟩) l'.length cap):=by
 have z:w'.heap.size=w.heap.size+os.size:=by rw[r];simp
 have g:∀k,k<w.heap.size->w'.heap[k]?=if k=blk then aa (.cells (putCells enc 0 d.toArray cur) tid u) else w.heap[k]?:=by intro k A;subst r;simp only[grow,putRow,mapBlock];rw[ajd<|by simpa using A,UP];by_cases e:blk=k;{subst e;simp[F,onCells]};simp[e,JR e]
 have h:=g blk ((xU.1 F).1);rw[aQ rfl] at h;have L:mC w I (λk=>∃c,aa (blk,cap)=aa _) w' I:=mC.mk' (by rw[r];rfl) (by rw[r];rfl) (by rw[r];rfl) ah (λk A hn=>by rw[g k A,aK λe=>hn ⟨cap,by rw[e]⟩]) J
 refine⟨L,.inr ⟨blk,cap,putCells enc 0 d.toArray cur,tid,u,rfl,rfl,h,v.same (by simp[putCells]),fB y K,p,by simp[putCells,f],j,λi x G=>?_⟩⟩;obtain⟨s,M⟩:=q i x G;have O:i<l'.length:=(iQ.1 G).1;have m:i<d.length:=ah;have C:i<cur.size:=by rw[f,E];omega
 have Q:(putCells enc 0 d.toArray cur)[i]?=aa (enc x):=by
  have D:d[i]=x:=by rw[ft m] at s;exact aI s
  have R:d.toArray[i]! = d[i]:=by simp[m]
  rw[show _[i]?=aa (enc d.toArray[i]!) from by simp[putCells,C,m],R,D]
 rw[E,Gs,P6 (by simpa using Q)];exact M
def vZ(l:List bb):List bb:=l.mergeSort λx y=>decide (x<=y)
def acu:vZ []=[]:=by simp[vZ]
def Ri l:(vZ l).length=l.length:=by simp[vZ]
def afz{P}{f:Nat}{fn}(W:P.funcs[f]?=aa fn)(X:(fn.name == "runtime.NumGoroutine")=false)(A:fn.body.isSome=true)
  (Y:∀blk off cap (z:List bb) w,Sort.Holds encStr w blk off z.toArray->blk<w.heap.size->z.length<4611686018427387904 ->Calls P f #[.slice (aa ⟨blk,off,af⟩) z.length cap] w λe w'=>e=.returned (.tuple #[])/\∃n K,w'=grow (putRow encStr (Sort.ahead w n) blk off (z.mergeSort λx y=>decide (x<=y)).toArray) K)
  (Z:∀p cap w,Calls P f #[.slice p 0 cap] w λe w'=>e=.returned (.tuple #[])/\w'=w) : qk P f (.own .str .unit false λl _=>bif fits (len (α:=bb) l) then aa (vZ l) else af):=by
 obtain⟨o,A⟩:=KD.1 A;refine⟨⟨fn,o,W,X,A⟩,λI w q v r l M L x O k s m b=>?_⟩;change List bb at l;obtain rfl:r=[]:=m;have d:q=#[v]:=by apply Cw.1;rw[k]
 subst d;have c:fits (len l)=true/\M=vZ l:=by change (bif fits _ then aa _ else af)=aa M at b;cases Q:fits _ with|true=>rw[Q] at b;exact⟨rfl,(aI b).symm⟩|false=>rw[Q] at b;cases b
 obtain⟨c,rfl⟩:=c;have hlen:=GR c;rcases s with ⟨rfl,rfl,rfl⟩|⟨blk,cap,C,tid,fr,rfl,rfl,D,R,S,q6,T,q8,U⟩
 .refine(Z af 0 w).mono λe w' u=>?_;obtain⟨rfl,rfl⟩:=u;exact⟨I,mC.mk' rfl rfl rfl (b0 _) (λ_ _ _=>rfl) O,rfl,Ri [],.inl ⟨rfl,acu,rfl⟩⟩
 .have E:List.length l<=cap:=S;have F:C.size=cap*1:=T;refine(Y blk 0 cap l w (Wa (t:=.str) (inst:=instInhabitedList) (enc:=encStr) rfl (λ_ _ h=>h.1) D R.th (by rw[F,Gs];exact E) U) (xU.1 D).1 ah).mono λe w' u=>?_;obtain⟨rfl,n,K,u⟩:=u;have g:(vZ l).length=l.length:=by simp[vZ]
  obtain⟨k1,G⟩:=aaO (t:=.str) (inst:=instInhabitedList) (enc:=encStr) rfl O D R T q8 (l':=vZ l) g S q6 (EO g) (λi x V=>⟨V,by have J:x∈l:=List.mem_mergeSort.1 (eG V);obtain⟨j,hj⟩:=QL.1 J;exact⟨rfl,(U j x hj).2⟩⟩) u
  change yg w' I Ty.str (vZ l) (aa (blk,cap)) (.slice (aa ⟨blk,0,af⟩) (List.length (α:=bb)<|vZ l) cap) at G;rw[g] at G;exact⟨I,k1,rfl,g,G⟩
def Y8{α}[DecidableEq α][Inhabited α](b:List α):(Lib.compact b).length<=b.length/\∀x∈Lib.compact b,x∈b:=by
 constructor
 {unfold Lib.compact Lib.compactUpTo;rw[zK];exact fB (UQ _ _) aT};intro x c;unfold Lib.compact Lib.compactUpTo at c;rw[Mo] at c;obtain⟨j,e,rfl⟩:=c;have d:j<b.length:=Mm.1 (Aj.1 e).1;simp[d]
def Hh{P}{t:Ty}[inst:Inhabited t.den][deq:DecidableEq t.den]{enc:t.den->Value}{z:t.den}{Q:t.den->Prop}(s:t.size=1)(K:∀w I x M,bL w I t x M↔M=[enc x]/\Q x){f:Nat}{fn}(Z:P.funcs[f]?=aa fn)(h2:(fn.name == "runtime.NumGoroutine")=false)(O:fn.body.isSome=true)
  (hc:∀k o g m w,Sort.Holds enc w k o m.toArray->m.length<=9223372036854775807->m.length<=g ->Calls P f #[.slice (aa ⟨k,o,af⟩) m.length g] w λe w'=>e=.returned (.slice (aa ⟨k,o,af⟩) (Lib.compact m).length g)/\∃q,w'=putRow enc (Sort.ahead w q) k o (Lib.compact m++List.replicate (m.length-(Lib.compact m).length) z).toArray)
  (hn:∀a g w,Calls P f #[.slice a 0 g] w λe w'=>e=.returned (.slice a 0 g)/\w'=w) : qk P f (.own t .unit true λl _=>aa (Lib.compact l)):=by
 have p:∀m:List t.den,(Lib.compact m).length<=m.length/\∀x∈Lib.compact m,x∈m:=Y8;obtain⟨C,O⟩:=KD.1 O;refine⟨⟨fn,C,Z,h2,O⟩,λI w D v E l l' L x T u F y A=>?_⟩;obtain rfl:E=[]:=y;have r:D=#[v]:=by apply Cw.1;rw[u]
 subst r;obtain rfl:Lib.compact l=l':=aI A;rcases F with ⟨rfl,rfl,rfl⟩|⟨k,g,cur,tid,fr,rfl,rfl,U,V,J,W,X,q8,Y⟩
 .refine(hn af 0 w).mono λe w' G=>?_;obtain⟨rfl,rfl⟩:=G;exact⟨I,mC.mk' rfl rfl rfl (b0 _) (λ_ _ _=>rfl) T,_,af,rfl,.inl ⟨rfl,(zI.1<|Nat.le_zero.1 (p []).1),rfl⟩,λ_ _ h=>by cases h⟩
 .refine(hc k 0 g l w (Wa s (λx M h=>((K _ _ _ _).1 h).1) U V.th (by rw[X,s,Gs];exact J) Y) (fB J W) J).mono λe w' G=>?_;obtain⟨rfl,n,G⟩:=G;obtain⟨k1,k2⟩:=aaO (enc:=enc) s T U V X q8 (l':=Lib.compact l) (d:=Lib.compact l++List.replicate (l.length-(Lib.compact l).length) z) (by have:=(p l).1;simp;omega) J W (p l).1 (λi x R=>⟨by
    rw[UL (iQ.1 R).1];exact R,by
   have S:x∈l:=(p l).2 x (eG R);obtain⟨j,hj⟩:=QL.1 S;exact(K _ _ _ _).2 ⟨rfl,((K _ _ _ _).1<|Y j x hj).2⟩⟩) (n:=n) (os:=#[]) (w':=w') (by rw[G];simp)
  exact⟨I,k1,_,_,rfl,k2,λb c h=>.inl ⟨c,h⟩⟩
def Wb{P}{f:Nat}{fn}(h:P.funcs[f]?=aa fn)(i:(fn.name == "runtime.NumGoroutine")=false)(j:fn.body.isSome=true)
  (k:∀c d b g w,Sort.Holds encStr w c d g.toArray->g.length<=9223372036854775807->g.length<=b ->Calls P f #[.slice (aa ⟨c,d,af⟩) g.length b] w λe w'=>e=.returned (.slice (aa ⟨c,d,af⟩) (Lib.compact g).length b)/\∃q,w'=putRow encStr (Sort.ahead w q) c d (Lib.compact g++List.replicate (g.length-(Lib.compact g).length) []).toArray)
  (m:∀a b w,Calls P f #[.slice a 0 b] w λe w'=>e=.returned (.slice a 0 b)/\w'=w) : qk P f (.own .str .unit true λl _=>aa (Lib.compact (α:=bb) l)) :=Hh (t:=.str) (inst:=instInhabitedList) (deq:=instDecidableEqList) (enc:=encStr) (z:=[]) (Q:=λx=>List.length (α:=UInt8) x<=maxLen) rfl (λw I x n=>Iff.rfl) h i j k m
def Tq{P}{f:Nat}{fn}(h:P.funcs[f]?=aa fn)(i:(fn.name == "runtime.NumGoroutine")=false)(j:fn.body.isSome=true)
  (k:∀c d b g w,Sort.Holds (Value.int .i64) w c d g.toArray->g.length<=9223372036854775807->g.length<=b ->Calls P f #[.slice (aa ⟨c,d,af⟩) g.length b] w λe w'=>e=.returned (.slice (aa ⟨c,d,af⟩) (Lib.compact g).length b)/\∃q,w'=putRow (Value.int .i64) (Sort.ahead w q) c d (Lib.compact g++List.replicate (g.length-(Lib.compact g).length) 0).toArray)
  (m:∀a b w,Calls P f #[.slice a 0 b] w λe w'=>e=.returned (.slice a 0 b)/\w'=w) : qk P f (.own (.int .i64) .unit true λl _=>aa (Lib.compact (α:=Int) l)) :=Hh (t:=.int .i64) (inst:=(inferInstance:Inhabited Int)) (deq:=Int.instDecidableEq) (enc:=Value.int .i64) (z:=(0:Int)) (Q:=λx:Int=>IntKind.i64.min<=x/\x<=IntKind.i64.max) rfl (λw I x n=>Iff.rfl) h i j k m
end Go.Ge
