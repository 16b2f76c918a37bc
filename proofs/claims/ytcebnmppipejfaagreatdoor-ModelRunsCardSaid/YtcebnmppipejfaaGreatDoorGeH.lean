import Derived.Test.YtcebnmppipejfaaGreatDoorGeG
import Derived.ProofKit
import Derived.Lib.LazyBuf
import Derived.Lib.Bytealg
import Derived.Shelf.Strings.SplitCore
import Derived.Shelf.Strings.Search3
import Derived.Shelf.Strings.Count
import Derived.Lib.SplitLaws
import Derived.Lib.Join
import Derived.Lib.IndexBytes
import Derived.Shelf.Strconv.Itoa3
import Derived.Shelf.Strconv.ErrVarParseInt
import Derived.Lib.AppendIntMem
import Derived.Lib.ItoaLen
import Derived.Lib.LaidTab
import Derived.LaidSub
import Derived.Sort.EncStr
import Derived.Sort.Grow
import Derived.Lib.SlicesCompact
set_option linter.unusedSectionVars false
set_option linter.unusedVariables false
set_option linter.unusedSimpArgs false
set_option linter.defProp false
open Option renaming some->aa,none->af
open Go.IntKind (i64)
namespace Go.Ge
variable [Lp]
open RowKit
section
variable {P:Program} {B:DW} {N:Nat} {γ:Gh} {σ:St} {a:Act} {w:World} {cx:Ctx}
def Ww{mem I loc}:∀{A x b},jq w I A x b->nH ⟨I,loc⟩ mem w (PD A x) b:=by intro A;induction A with|pair t r g d =>(intro x b h;obtain⟨j,e,rfl,k,l⟩:=h;have:=d l;refine⟨by simp[PD,this.1],λi v y c f=>?_⟩;cases i with|zero =>(obtain rfl:=aU c;obtain rfl:=aU f;exact⟨j,k,rfl⟩)|succ i=>exact this.2 i v y (by simpa [PD] using c) (by simpa using f))|unit=>intro x b h;rw[show b=[] from h];exact⟨rfl,λi v y c=>by cases c⟩|_=>intro x b h;exact h.elim
def Ze(h:bP B γ σ.mem w){I'}(i:∀b o,γ.I b o->I' b o)(f:∀b o,B.has b->b<w.heap.size->I' b o):∀{R y u vs},
  cK γ σ.mem w u .many vs->jm σ R (IJ u)=aa y->cK ⟨I',λ_=>af⟩ (λ_=>af) w (Eb R y) .many vs:=by
 intro R;induction R with|pair t r j g =>(intro y u vs d c;cases u with|mix p q =>(obtain⟨v,e,rfl,k,l⟩:=d;simp only[IJ,jm] at c;split at c;{rename_i x z m n;obtain rfl:=aU c;obtain⟨s,A,C⟩:=PZ h i f k m;exact⟨v,e,rfl,⟨s,A,by rw[C]⟩,g l n⟩};cases c)|_=>cases c)|unit =>(intro y u vs d c;cases u with|mix p q=>cases c|nl=>exact d|_=>exact d.elim)|_=>intro y u vs d c;cases u<;>cases c
def UL(i:bP B γ σ.mem w){I'}(j:∀b o,γ.I b o->I' b o)(d:∀b o,B.has b->b<w.heap.size->I' b o){R y v val}
  (k:cK γ σ.mem w v .val [val]) (c:jm σ R (IK R v)=aa y):nG w I' R y val:=by
 have many:∀{R y},(yp R y=.D0 (Eb R y))->(jm σ R (match v with|.D0 v=>IJ v|v=>[v])=aa y)->(∀t,R≠.pair t .unit)->nG w I' R y val:=by
  intro R y e c f;unfold nG;rw[e];have one:∀{v'},jm σ R [v']=aa y->False:=by intro v' h;cases R with|pair t r =>simp only[jm] at h;split at h;{rename_i l;cases r with|unit=>exact f t rfl|_=>cases l};cases h|_=>cases h
  cases v with|D0 u =>(obtain⟨g,m,n⟩:=k;exact⟨g,m,Ze i j d n c⟩)|_=>exact(one c).elim
 cases R with|pair t r =>(cases r with|unit =>simp only[IK,jm] at c;split at c;{rename_i x z p C;obtain rfl:=aU c;obtain⟨q,s,A⟩:=PZ i j d k p;exact⟨q,s,by rw[A]⟩};cases c|_=>exact many rfl (by cases v<;>exact c) Ak)|_=>exact many rfl (by cases v<;>exact c) Ak
def Jm(s:P.follows .mixedOrders=true)(K:fM P cx){G}(t:sn P G cx)(j:UJ cx){ft n f A R spec}
  {fn code} (u:find cx.fns f=aa fn) (l:fn.body=aa code) (h:∀x y,spec x=aa y->sem cx n ft f A R x=aa y):Holds P G f ⟨A,R,spec⟩ where
 body:=by have z:=j f fn u;simp only[acb,gC,Hr] at z;exact⟨fn,code,K.fns f fn u,z.1,l⟩
 calls:=by
  intro I w C x y L M m p;obtain⟨r,h1,q⟩:=bind_some (h x y p);obtain⟨v,cS⟩:=r;have O:jm (lT cS) R (IK R v)=aa y:=by split at q;{rename_i Y E;obtain rfl:=aU q;exact E};cases q
  have S:bP (pn G w.heap.size) ⟨I,λ_=>af⟩ (λ_=>af) w :=
   { dk:=λb Q g=>by
      obtain⟨o,h1,q⟩:=M b Q g;exact⟨λd=>by have:=s7.1 d;have:=(A9.1 h1).1;omega,o,h1,q⟩
     base:=b8 _
     boxes:=λb T d=>by cases d
     inj:=λb c D k Z d=>absurd rfl d
     fresh:=λb D k d=>absurd rfl d
     xd:=L
     sep:=λb T D k U d=>by cases d }
  obtain⟨_,i⟩:=Mv s K t j n 0 f _ ⟨I,λ_=>af⟩ _ cS w _ C v rfl S (Ww m) h1;refine i.mono λe w' V=>?_;obtain⟨F,bM,rfl,m1,J,W⟩:=V;refine⟨F,λb o=>bM.I b o\/(w.heap.size<=b/\b<w'.heap.size),rfl,J.below.below,λb o hi=>.inl (J.I b o hi),λb o hi=>?_,λb o hi X=>?_,UL m1 (λb o hi=>.inl hi) (λb o h1 q=>.inr ⟨s7.1 h1,q⟩) W O⟩;{rcases hi with hi|hi;{exact m1.xd b o hi};exact hi.2};rcases hi with hi|hi;{exact s7.1 ((J.s9 b o hi).resolve_left X)};exact hi.1
def Qz:List Nat->Nat->Nat->Option (Nat×Nat)|[],_,_=>af|blk::r,k,b=>if b=l5 k then aa (blk,0) else Qz r (k+1) b
def Mw{i j}(h:l5 i=l5 j):i=j:=by unfold l5 at h;omega
def Wx:∀{b k j blk},b[j]?=aa blk->Qz b k (l5<|k+j)=aa (blk,0):=by intro b;induction b with|nil=>intro k j blk h;cases h|cons x r c =>intro k j blk h;cases j with|zero=>(obtain rfl:=aU h;simp[Qz])|succ j =>simp only[Qz];rw[aK (λe=>by have:=Mw e;omega),show k+(j+1)=k+1+j by omega];exact c (by simpa using h)
def KZ:∀{c k b blk q},Qz c k b=aa (blk,q)->∃j,c[j]?=aa blk/\b=l5 (k+j):=by intro c;induction c with|nil=>intro k b blk q h;cases h|cons x r d =>intro k b blk q h;simp only[Qz] at h;split at h;{rename_i e;obtain⟨rfl,_⟩:=b9 (aU h);exact⟨0,rfl,e⟩};obtain⟨j,f,g⟩:=d h;exact⟨j+1,by simpa using f,by rw[g];congr 1;omega⟩
def alp{I}:∀{U u b k},Ax w I U u b->∀{j blk},b[j]?=aa blk ->
  ∃c,SN U u k (l5<|k+j)=aa c/\c.aY=0:=by
 intro U;induction U with|pair t U g f =>(intro u b k h j blk d;obtain⟨n,r,rfl,o,i⟩:=h;cases j with|zero=>exact⟨{ val:=.data t u.1,tid:=0,buf:=false,ro:=false,lk:=false,aY:=0 },by simp[SN],rfl⟩|succ j =>obtain⟨c,l,m⟩:=f i (by simpa using d);refine⟨c,?_,m⟩;simp only[SN];rw[kn (λe=>by have:=Mw e;omega),show k+(j+1)=k+1+j by omega];exact l)|unit=>intro u b k h j blk d;rw[show b=[] from h] at d;cases d|_=>intro u b k h;exact h.elim
def UM{I}:∀{U u e k b f},Ax w I U u e->SN U u k b=aa f ->
  ∃j c t,∃x,e[j]?=aa c/\b=l5 (k+j)/\f={ val:=.data t x,tid:=0,buf:=false,ro:=false,lk:=false,aY:=0 }/\aiv w I t x c:=by
 intro U;induction U with|pair t U l g =>(intro u e k b f h d;obtain⟨m,r,rfl,n,o⟩:=h;simp only[SN] at d;cases i:Nat.beq b _ with|true =>rw[i] at d;exact⟨0,m,t,u.1,rfl,iN i,(aU d).symm,n⟩|false =>rw[i] at d;obtain⟨j,c,p,q,s,v,y,z⟩:=g o d;exact⟨j+1,c,p,q,by simpa using s,by rw[v];congr 1;omega,y,z⟩)|unit=>intro u e k b f h d;cases d|_=>intro u e k b f h;exact h.elim
def acf{mem}:∀{ps A U x g l k},YH w γ.I ps A U x g l ->
  (∀j b,l[j]?=aa b->∃m,mem (l5<|k+j)=aa m/\m.aY=0/\γ.loc (l5<|k+j)=aa (b,0))->nH γ mem w (Me ps A U x k) g:=by
 intro ps;induction ps with|nil =>(intro A U x g l k h _;obtain⟨_,_,rfl,_⟩:=h;exact⟨rfl,λi v y c=>by cases c⟩)|cons p ps q =>intro A U x g l k h n;cases p with|false =>((cases A<;>first|(exact h.elim)|skip);obtain⟨s,d,rfl,o,t⟩:=h;have:=q t n;refine⟨by simp[Me,this.1],λi v y c e=>?_⟩;cases i with|zero =>(obtain rfl:=aU c;obtain rfl:=aU e;exact⟨s,o,rfl⟩)|succ i=>exact this.2 i v y (by simpa [Me] using c) (by simpa using e))|true =>(cases U<;>first|(exact h.elim)|skip);(obtain⟨b,d,r,rfl,rfl,o⟩:=h;have:=q o λj f u=>by have:=n (j+1) f (by simpa using u);rw[show k+_=k+1+j by omega] at this;exact this);refine⟨by simp[Me,this.1],λi v y c e=>?_⟩;cases i with|zero =>(obtain rfl:=aU c;obtain rfl:=aU e;obtain⟨m,z,C,D⟩:=n 0 b rfl;exact⟨⟨_,rfl,rfl⟩,m,z,GI C.symm,λ_=>⟨b,0,D,rfl⟩⟩)|succ i=>exact this.2 i v y (by simpa [Me] using c) (by simpa using e)
def acg{mem}:∀{u vs},cK γ mem w u .many vs->nH γ mem w (IJ u) vs:=by intro u;induction u with|mix p q e c =>(intro vs h;obtain⟨v,r,rfl,f,g⟩:=h;have:=c g;refine⟨by simp[IJ,this.1],λi j y b d=>?_⟩;cases i with|zero =>(obtain rfl:=aU b;obtain rfl:=aU d;exact f)|succ i=>exact this.2 i j y (by simpa [IJ] using b) (by simpa using d))|nl=>intro vs h;rw[show vs=[] from h];exact⟨rfl,λi v y b=>by cases b⟩|_=>intro vs h;exact h.elim
def ach{I}:∀{R y vs},jq w I R y vs->cK ⟨I,λ_=>af⟩ (λ_=>af) w (Eb R y) .many vs:=by intro R;induction R with|pair t r d c =>(intro y vs h;obtain⟨e,b,rfl,f,g⟩:=h;exact⟨_,b,rfl,⟨e,f,rfl⟩,c g⟩)|unit=>intro y vs h;exact h|_=>intro y vs h;exact h.elim
def Zf{mem v x}(h:cK γ mem w v .val [x]):nH γ mem w [v] [x]:=by refine⟨rfl,λi d y b c=>?_⟩;cases i with|zero =>(obtain rfl:=aU b;obtain rfl:=aU c;exact h)|succ i=>cases b
def aci{mem R v val}(k:cK γ mem w v .val [val]) :
  ∃c,nH γ mem w (IK R v) c/\∀I y,jq w I R y c->nG w I R y val:=by
 have other:∀{R},(∀t,R≠.pair t .unit)->(∀y,yp R y=.D0 (Eb R y))->∃c,nH γ mem w (match v with|.D0 v=>IJ v|v=>[v]) c/\∀I y,jq w I R y c->nG w I R y val:=by
  intro R l d;have one:nH γ mem w [v] [val]->∃c,nH γ mem w [v] c/\∀I y,jq w I R y c->nG w I R y val:=by intro f;refine⟨[val],f,λI y h=>?_⟩;exfalso;cases R with|pair t r =>(obtain⟨m,g,e,_,i⟩:=h;obtain⟨_,rfl⟩:=ahX e;cases r with|unit=>exact l t rfl|pair a b=>(obtain⟨_,_,n,_⟩:=i;cases n)|_=>exact i.elim)|unit=>cases h|_=>exact h.elim
  cases v with|D0 u =>(obtain⟨j,f,i⟩:=k;refine⟨j.toList,acg i,λI y h=>?_⟩;unfold nG;rw[d];exact⟨j,f,ach h⟩)|_=>exact one (Zf k)
 cases R with|pair t r =>(cases r with|unit =>(refine⟨[val],by cases v<;>exact Zf k,λI y h=>?_⟩;obtain⟨m,g,e,f,i⟩:=h;obtain⟨rfl,_⟩:=ahX e;exact⟨m,f,rfl⟩)|_ =>cases v<;>exact other (λo e=>by cases e) (λy=>rfl))|_ =>cases v<;>exact other (λo e=>by cases e) (λy=>rfl)
def acj{mem g L γ0 w0 I}(A:bP B γ mem w)(M:Ext L γ0 g w0 γ mem w):∀{U u y k i},Ax w0 I U u i ->
  (∀j c,i[j]?=aa c->(∃l,g (l5<|k+j)=aa l/\l.aY=0)/\γ0.loc (l5<|k+j)=aa (c,0))->Yw mem U k=aa y ->Ax w γ.I U y i/\∀c∈i,∀o,¬γ.I c o:=by
 intro U;induction U with|pair t U O q =>(intro u y k i h s f;obtain⟨c,r,rfl,h1,Q⟩:=h;simp only[Yw] at f;split at f;(case h_2=>cases f);rename_i l n;cases d:(Nat.beq l.aY 0&&!l.buf&&!l.ro) with|false=>rw[d] at f;cases f|true =>rw[d] at f;simp only[gC,Hr] at d;split at f;(case h_2=>cases f);(rename_i x1 u1 R S;obtain rfl:=aU f;obtain⟨⟨v,C,T⟩,D⟩:=s 0 c rfl;rw[IA] at C D;obtain⟨V,E,q2,W⟩:=M.boxes _ v C;rw[n] at E;obtain rfl:=aU E;have x:=(W<|by rw[(iN d.1.1),T]).1;rw[D] at x;obtain⟨X,Y⟩:=q Q (λj m Z=>by have:=s (j+1) m (by simpa using Z);rw[show k+_=k+1+j by omega] at this;exact this) S);have p:=A.boxes _ l n;unfold e7 at p;rw[d.1.2] at p;obtain⟨m,cap,z,tid,fr,F,a2,a3,G,J⟩:=p;rw[x] at F;obtain⟨rfl,_⟩:=b9 (aU F);rw[(YI R)] at J;refine⟨⟨c,r,rfl,⟨z,tid,fr,a2,a3,J⟩,X⟩,λb e o K=>?_⟩;rcases eK.1 e with rfl|e;{have:=(A.sep _ l b 0 o n x K).1;rw[d.2] at this;cases this};exact Y b e o K)|unit =>intro u y k i h s f;exact⟨h,λb e=>by rw[show i=[] from h] at e;cases e⟩|_=>intro u y k i h;exact h.elim
def GQ(O:P.follows .mixedOrders=true)(hc:fM P cx){G}(S:sn P G cx)(p:UJ cx){ft n f ps A U R spec}
  {fn code} (T:find cx.fns f=aa fn) (D:fn.body=aa code) (h:∀x y,spec x=aa y->aih cx n ft f ps A U R x=aa y):gd P G f ⟨ps,A,U,R,spec⟩ where
 body:=by have V:=p f fn T;simp only[acb,gC,Hr] at V;exact⟨fn,code,hc.fns f fn T,V.1,D⟩
 calls:=by
  intro I w s M x u y hI hG hGb E d hnd F J;obtain⟨r,h1,K⟩:=bind_some (h _ y J);obtain⟨v,cS⟩:=r;obtain⟨y1,y2⟩:=y;have hg:∃b4,l4 (lT cS) R (IK R v)=aa (y1,b4)/\Yw b4.mem U 0=aa y2:=by split at K;{rename_i y' b4 hy';split at K;{rename_i u' hu';obtain⟨rfl,rfl⟩:=b9 (aU K);exact⟨b4,hy',hu'⟩};cases K};cases K
  obtain⟨b4,hg1,hg2⟩:=hg;have C:∀j blk,M[j]?=aa blk->(∃L,SN U u 0 _=aa L/\L.aY=0)/\Qz M 0 _=aa (blk,0):=λj blk Z=>⟨alp d Z,Wx Z⟩;have hm:bP ⟨w.heap.size,_,G⟩ ⟨I,Qz M 0⟩ (SN U u 0) w :=
   { dk:=λb Q g=>by
      obtain⟨o,h1,K⟩:=hG b Q g;refine⟨λl=>?_,o,h1,K⟩;have:=(A9.1 h1).1;rcases l with l|l
      .exact absurd this (by have hb':w.heap.size<=b:=l;omega)
      .exact hGb b Q g l
     base:=b8 _
     boxes:=λb L l=>by obtain⟨j,blk,t,z,g1,g2,g3,g4⟩:=UM d l;subst g3;subst g2;obtain⟨cur,tid,fr,k1,k2,k3⟩:=g4;exact⟨blk,0,cur,tid,fr,Wx g1,k1,k2,.inl rfl,k3⟩
     inj:=λb c blk k k' l hc' W e2=>by
      obtain⟨i,i1,i2⟩:=KZ W;obtain⟨j,j1,j2⟩:=KZ e2;have hij:i=j:=by
       have hi:=(ga.1 i1).1;exact(List.getElem?_inj hi hnd).1 (i1.trans j1.symm)
      subst hij;rw[i2,j2]
     fresh:=λb blk k l W=>by
      cases hq:SN U u 0 b with
      | none=>exact absurd hq l
      | some L =>
        obtain⟨j,afl,t,z,g1,g2,g3,g4⟩:=UM d hq;have X:Qz M 0 b=aa (blk,k):=W;rw[g2,Wx g1] at X;obtain⟨rfl,_⟩:=b9 (aU X);obtain⟨cur,tid,fr,k1,k2,k3⟩:=g4;exact⟨.inr<|kG g1,(A9.1 k1).1⟩
     xd:=hI
     sep:=λb L blk k off l W hi=>by
      obtain⟨j,j1,_⟩:=KZ W;exact(F blk (kG j1) off hi).elim }
  have hv:nH ⟨I,Qz M 0⟩ _ w _ s.toList:=acf E λj blk Z=>by
   obtain⟨⟨L,g1,g2⟩,g3⟩:=C j blk Z;exact⟨L,g1,g2,g3⟩
  obtain⟨_,m⟩:=Mv O hc S p n 0 f ⟨w.heap.size,_,G⟩ ⟨I,Qz M 0⟩ _ cS w _ s v rfl hm hv h1;refine m.mono λe w' hw=>?_;obtain⟨val,bM,rfl,m1,x1,r1⟩:=hw;obtain⟨xs,u1,u2⟩:=aci r1;have Y:dz ⟨w.heap.size,_,G⟩ 0 bM (lT cS) { tmps:=#[],defers:=[] } w' :=
   { bw:=λt=>⟨_,rfl⟩
     size:=rfl
     defers:=rfl
     ok:=m1 }
  obtain⟨γ2,s1,s2,s3⟩:=ve Y u1 hg1;have xx:=x1.trans s2;obtain⟨k1,k2⟩:=acj s1.ok xx d C hg2;refine⟨val,γ2.I,rfl,xx.below,xx.I,s1.ok.xd,λb o hi hn=>?_,u2 _ _ s3,k1⟩;rcases(xx.s9 b o hi).resolve_left hn with q|q
  .exact q
  .exact(k2 b q o hi).elim
end
end Go.Ge
namespace Go.Ge
open RowKit ChangeShapes
def Tf{α:Type}(f:α->Nat):List α->Nat|[]=>0|x::r=>f x+Tf f r
def Ty.bulk:(t:Ty)->t.den->Nat|.int _,_=>1|.bool,_=>1|.str,s=>List.length (α:=UInt8) s+1|.slice e,l=>Tf e.bulk l+1|.arr _ e,l=>Tf e.bulk l|.pair a b,x=>a.bulk x.1+b.bulk x.2|.unit,_=>0|.alt _ _ _,_=>0|.DV,_=>0
def Ty.GR:Ty->Bool|.slice e=>e.GR|.arr _ e=>e.GR|.pair a b=>a.GR&&b.GR|.alt _ _ _=>false|.DV=>false|_=>true
structure QA {H:Type} (bulk:DataW H->Nat) (all:List (DataW H)->Nat):Prop where
 lit:∀l,1<=bulk (.lit l)
 str:∀s,bulk (.lit<|.string s)=s.length+1
 nil:1<=bulk .nil
 slice:∀e s,bulk (.slice e s)=all e+all s+1
 agg:∀p,bulk (.agg p)=all p+1
 none:all []=0
 cons:∀d r,all (d::r)=bulk d+all r
def FO{α c:Type}{f:α->Option c}:∀{l:List α} {ys},l.mapM f=aa ys->ys.length=l.length/\∀(i:Nat) x,l[i]?=aa x->f x=ys[i]?:=by intro l;induction l with|nil=>(intro ys h;obtain rfl:=aU (by simpa using h);exact⟨rfl,λi x b=>by cases b⟩)|cons a l d =>intro ys h;rw[adX] at h;obtain⟨y,e,g⟩:=Gl.1 h;obtain⟨j,k,m⟩:=Gl.1 g;obtain rfl:y::j=ys:=aU m;obtain⟨n,o⟩:=d k;refine⟨by simp[n],λi x b=>?_⟩;cases i with|zero=>(obtain rfl:=aU b;exact e)|succ i=>exact o i x (by simpa using b)
def Mx{α e:Type}{R:Nat->α->e->Prop}:∀{ys:List e} {k},(∀i y,ys[i]?=aa y->∃x,R (k+i) x y)->∃d:List α,d.length=ys.length/\∀i x y,d[i]?=aa x->ys[i]?=aa y->R (k+i) x y:=by
 intro ys;induction ys with
 | nil=>intro k _;exact⟨[],rfl,λi x y h=>by cases h⟩
 | cons y ys f =>
   intro k h;obtain⟨x,g⟩:=h 0 y rfl;obtain⟨d,j,l⟩:=f λi y m=>by
    have:=h (i+1) y (by simpa using m)
    rwa [show k+_=k+1+i by omega] at this
   refine⟨x::d,by simp[j],λi n o b c=>?_⟩;cases i with|zero=>(obtain rfl:=aU b;obtain rfl:=aU c;exact g)|succ i =>rw[show k+_=k+1+i by omega];exact l i n o (by simpa using b) (by simpa using c)
def aed{α β}{f:α->Nat}{g:β->Nat}:∀{b ys},b.length=ys.length->(∀(i:Nat) x y,b[i]?=aa x->ys[i]?=aa y->f x<=g y)->Tf f b<=Tf g ys:=by intro b;induction b with|nil=>intro ys _ _;apply qh|cons x b d =>intro ys c h;cases ys with|nil=>cases c|cons y ys =>have k:=h 0 x y rfl rfl;have l:=d (by simpa using c) λi x y e j=>h (i+1) x y (by simpa using e) (by simpa using j);simp only[Tf];omega
section
variable {H:Type} {enc:TypeId×Value->H} {P:Program} {w:World} {held:Bool} {bulk:DataW H->Nat} {all:List (DataW H)->Nat}
def aee(b:QA bulk all){β}(f:β->DataW H):∀l,all (l.map f)=Tf (λy=>bulk (f y)) l:=by intro l;induction l with|nil=>exact b.none|cons y l c=>rw[Pp,b.cons,c];rfl
def old(w:World):Nat->Nat->Prop:=λb _=>b<w.heap.size
def My{a n cs}(h:w.cells? 0 a n=aa cs):cs.length=n/\∀j,j<n->w.cell? (a.add j)=cs[j]?:=by obtain⟨b,c⟩:=FO h;refine⟨by simpa using b,λj d=>c j j ?_⟩;simp[d]
def Zg{b o v sp}(h:w.cell? ⟨b,o,sp⟩=aa v):b<w.heap.size/\sp=none:=by
 unfold World.cell? at h;split at h
 {rename_i c t f d;refine⟨(A9.1 d).1,?_⟩;split at h;{cases h};rename_i e;cases sp with|none=>rfl|some s=>exact absurd rfl e};cases h
def aiS(q:QA bulk all):∀{t:Ty},t.GR=true ->
  (∀{fuel tid:Nat} {cs:List Value} {d:DataW H} {ps:List MemPlace},Den P t tid->DataW.trod enc P w 0 (λ_=>true) held fuel tid cs=aa (d,ps)->∃x:t.den,bZ w (old w) t x cs/\t.bulk x<=bulk d) /\(∀{fuel off:Nat} {fs:List Field} {cs:List Value} {l:List (DataW H×List MemPlace)},sM P t off fs->(fs.mapM λf=>DataW.trod enc P w 0 (λ_=>true) held fuel f.type ((cs.drop f.offset).take<|P.cellsOf f.type))=aa l ->cs.length=off+t.size->∃x:t.den,bZ w (old w) t x (cs.drop off)/\t.bulk x<=all (l.map (·.1))):=by
 intro t;induction t with
 | int k =>intro c;refine⟨λ{fuel tid cs d ps} hd h=>?_,λhd=>by simp[sM,eM] at hd⟩;cases fuel with|zero=>cases h|succ fuel =>(simp only[DataW.trod,hd.int] at h;split at h<;>first|(exfalso;simp_all;done)|skip);rename_i k0 k' n X;split at h;{rename_i G;obtain⟨rfl,rfl⟩:=b9 (aU h);injection X with X;injection X with X;subst X;obtain⟨rfl,K⟩:=G;simp only[Lit.wf,gC,zn] at K;exact⟨(n:Int),⟨rfl,K.1,K.2⟩,q.lit _⟩};cases h
 | bool =>intro c;refine⟨λ{fuel tid cs d ps} hd h=>?_,λhd=>by simp[sM,eM] at hd⟩;cases fuel with|zero=>cases h|succ fuel =>(simp only[DataW.trod,hd.bool] at h;split at h<;>first|(exfalso;simp_all;done)|skip);rename_i b _;obtain⟨rfl,rfl⟩:=b9 (aU h);exact⟨b,rfl,q.lit _⟩
 | str =>intro c;refine⟨λ{fuel tid cs d ps} hd h=>?_,λhd=>by simp[sM,eM] at hd⟩;cases fuel with|zero=>cases h|succ fuel =>(simp only[DataW.trod,hd.str] at h;split at h<;>first|(exfalso;simp_all;done)|skip);rename_i s _;split at h;{rename_i hs;obtain⟨rfl,rfl⟩:=b9 (aU h);refine⟨s.data.toList,⟨?_,?_⟩,?_⟩;{rfl};{have:List.length (α:=UInt8) s.data.toList=s.size:=X8;rw[this];exact hs};rw[q.str];exact b8 _};cases h
 | slice e L =>
   intro c;have L:=L c;refine⟨λ{fuel tid cs d ps} hd h=>?_,λhd=>by simp[sM,eM] at hd⟩;obtain⟨Y,Z,M,h3,h4⟩:=hd.slice;cases fuel with
   | zero=>cases h
   | succ fuel =>
     (simp only[DataW.trod,Z] at h;split at h<;>first|(exfalso;simp_all;done)|skip);{obtain⟨rfl,rfl⟩:=b9 (aU h);exact⟨([]:List e.den),.inl ⟨⟨af,rfl⟩,rfl⟩,q.nil⟩}
     rename_i e' a O z he;injection he with he;injection he with he;subst he;split at h;(case isFalse=>cases h);rename_i G;obtain⟨hc1,hc2,hc3⟩:=G;obtain⟨m,I,Q⟩:=Gl.1 h;obtain⟨rest,g3,g4⟩:=Ho.1 Q;obtain⟨rfl,rfl⟩:=b9 g4;simp only[zx] at g3;obtain⟨U,V⟩:=FO I;obtain⟨m1,m2⟩:=FO g3;simp only[L9] at U m1;rw[M.cells] at V m2;by_cases anB:z=0;{subst anB;obtain rfl:O=0:=ai;exact⟨([]:List e.den),.inl ⟨⟨aa a,rfl⟩,rfl⟩,by rw[q.slice];simp[Ty.bulk,Tf]⟩}
     ·
      (have hat:∃y,(w.cells? 0 a e.size).bind (DataW.trod enc P w 0 (λ_=>true) held fuel Y)=aa y:=by by_cases hlen:O=0;{have:=m2 0 0 (SL ai);have o:0<rest.length:=ai;rw[gQ o] at this;rw[hlen] at this;simp only[Gq,ah1] at this;exact⟨_,by rw[<-this];simp[Addr.add]⟩};have:=V 0 0 (SL ai);have o:0<m.length:=ai;rw[gQ o] at this;simp only[ah1] at this;exact⟨_,by rw[<-this];simp[Addr.add]⟩);obtain⟨y,C⟩:=hat;obtain⟨W,hes,_⟩:=Gl.1 C;obtain⟨z1,z2⟩:=My hes;have z3:=z2 0 h4;rw[gQ ai] at z3;have p:a.spot=none:=by (have:a.add 0=a:=by simp[Addr.add]);rw[this] at z3;obtain⟨D,off,sp⟩:=a;exact(Zg z3).2
      obtain⟨D,off,sp⟩:=a;dsimp only at p;subst p;obtain⟨l,E,J⟩:=Mx (R:=λi (x:e.den) (y:DataW H×List MemPlace)=>(∃W:List Value,W.length=e.size /\
        (∀(j:Nat) v,W[j]?=aa v->w.cell? ⟨D,off+i*e.size+j,af⟩=aa v/\old w D (off+i*e.size+j))/\bZ w (old w) e x W)/\e.bulk x<=bulk y.1) (ys:=m) (k:=0) λi y hi=>by
       have o:=(ga.1 hi).1;have:=V i i (SL ai);rw[hi] at this;obtain⟨W,q1,q2⟩:=Gl.1 this;rw[addr_add] at q1;obtain⟨q3,q4⟩:=My q1;obtain⟨x,r1,r2⟩:=L.1 (d:=y.1) (ps:=y.2) M q2;refine⟨x,⟨W,q3,λj v hv=>?_,r1⟩,r2⟩;have hj:=(ga.1 hv).1;have:=q4 j ai;rw[addr_add,hv] at this;rw[Gq];exact⟨this,(Zg this).1⟩
      refine⟨l,.inr ⟨D,off,z,?_,?_,hc3,λi x S=>?_⟩,?_⟩;{show [Value.slice _ O z]=[Value.slice _ (List.length (α:=e.den) l) z];rw[E,U]};{show List.length (α:=e.den) l<=z;rw[E,U];exact hc2};{have A:l[i]?=aa x:=S;have o:=(ga.1 A).1;obtain⟨y,C⟩:∃y,m[i]?=aa y:=⟨_,gQ ai⟩;have:=(J i x y A C).1;rw[Gq] at this;exact this};rw[q.slice,aee q];have:=aed (f:=e.bulk) (g:=λy:DataW H×List MemPlace=>bulk y.1) E λi x y S C=>(J i x y S C).2;show Tf e.bulk l+1<=_;omega
 | arr n e L =>intro c;have L:=L c;refine⟨λ{fuel tid cs d ps} hd h=>?_,λhd=>by simp[sM,eM] at hd⟩;obtain⟨Y,Z,M,h4⟩:=hd.arr;cases fuel with|zero=>cases h|succ fuel =>simp only[DataW.trod,Z] at h;split at h;(case isFalse=>cases h);(rename_i G;obtain⟨ys,I,Q⟩:=Ho.1 h;obtain⟨rfl,rfl⟩:=b9 Q;obtain⟨U,V⟩:=FO I;simp only[L9] at U;rw[M.cells] at V;obtain⟨l,E,J⟩:=Mx (R:=λi (x:e.den) (y:DataW H×List MemPlace)=>bZ w (old w) e x ((cs.drop<|i*e.size).take e.size)/\e.bulk x<=bulk y.1) (ys:=ys) (k:=0) λi y hi=>by have o:=(ga.1 hi).1;have:=V i i (SL ai);rw[hi] at this;obtain⟨x,r1,r2⟩:=L.1 (d:=y.1) (ps:=y.2) M this;exact⟨x,by rw[Gq];exact r1,r2⟩);refine⟨l,⟨?_,?_,λi x S=>?_⟩,?_⟩;{show List.length (α:=e.den) l=n;rw[E,U]};{rw[G,hd.cells];rfl};{have A:l[i]?=aa x:=S;have o:=(ga.1 A).1;obtain⟨y,C⟩:∃y,ys[i]?=aa y:=⟨_,gQ ai⟩;have:=(J i x y A C).1;rw[Gq] at this;exact this};rw[q.agg,aee q];have:=aed (g:=λy=>bulk y.1) E λi x y S C=>(J i x y S C).2;show Tf e.bulk l<=_;omega
 | pair a b F T =>
   intro c;simp only[Ty.GR,gC] at c;have F:=F c.1;have T:=T c.2;have chain:∀{fuel off} {fs} {cs:List Value} {l:List _},sM P (.pair a b) off fs->(fs.mapM λf=>DataW.trod enc P w 0 (λ_=>true) held fuel f.type ((cs.drop f.offset).take<|P.cellsOf f.type))=aa l ->
     cs.length=off+(Ty.pair a b).size->∃x,bZ w (old w) _ x (cs.drop off)/\(Ty.pair a b).bulk x<=all (l.map (·.1)):=by
    intro fuel off fs cs l hd h hl;obtain⟨f,r,rfl,f1,_,f2,f3,f4⟩:=hd.cons;rw[adX] at h;obtain⟨y,I,Q⟩:=Gl.1 h;obtain⟨ys,g3,g4⟩:=Gl.1 Q;obtain rfl:y::ys=l:=aU g4;rw[f1,f2.cells] at I;obtain⟨E,p1,p2⟩:=F.1 f2 I;obtain⟨J,q1,q2⟩:=T.2 f4 g3 (by simp only[Ty.size] at hl;omega);refine⟨(E,J),⟨_,_,?_,p1,q1⟩,?_⟩
    .rw[<-Ap,Ba]
    .rw[Pp,q.cons];show a.bulk E+b.bulk J<=_
     omega
   refine⟨λ{fuel tid cs d ps} hd h=>?_,chain⟩;obtain⟨fs,Z,M,_⟩:=hd.pair;cases fuel with
   | zero=>cases h
   | succ fuel =>
     simp only[DataW.trod,Z] at h;split at h
     case isFalse=>cases h
     rename_i G;obtain⟨ys,I,Q⟩:=Ho.1 h;obtain⟨rfl,rfl⟩:=b9 Q;rw[hd.cells] at G;obtain⟨x,r1,r2⟩:=chain M I (by rw[G,Gq]);exact⟨x,by simpa using r1,by rw[q.agg];omega⟩
 | alt u a r F ihr=>intro c;cases c
 | DV=>intro c;cases c
 | unit =>
   intro c;refine⟨λhd=>by simp[Den,eM] at hd,λ{fuel off fs cs l} hd h hl=>?_⟩;exact⟨(),by show cs.drop off=[];rw[List.drop_eq_nil_iff];simp[Ty.size] at hl;omega,qh _⟩
end
end Go.Ge
namespace Go.Ge
open RowKit ChangeShapes WideShapes
def ack(P:Program):Ty->List TypeId->Prop|.pair t r,tid::ts=>Den P t tid/\ack P r ts|.unit,[]=>True|_,_=>False
section
variable {H:Type} {enc:TypeId×Value->H} {P:Program} {w:World} {held:Bool} {bulk:DataW H->Nat} {all:List (DataW H)->Nat}
def Zh{t}{f g:Nat}{v x}(h:t.GR=true)(d:Den P t f)(c:Value.okWide P w .any g f v)(p:bZ w (old w) t x v.cells.toList):v=cX t v.cells.toList:=by cases t with|int k=>(obtain⟨n,rfl⟩:=okWide_int d.int c;rfl)|bool=>(obtain⟨b,rfl⟩:=okWide_bool d.bool c;rfl)|str=>(obtain⟨s,rfl⟩:=okWide_string d.str c;rfl)|slice e=>(obtain⟨j,i,_⟩:=d.slice;obtain⟨a,l,m,rfl⟩:=okWide_slice i c;rfl)|pair a b=>(obtain⟨q,i,_⟩:=d.pair;obtain⟨o,rfl,_⟩:=okWide_struct i c;simp[cX,Ty.isAgg,Value.cells])|arr n e =>(obtain⟨j,i,_⟩:=d.arr;unfold Value.okWide at c;rw[i] at c;obtain⟨o,rfl,_⟩:=c;simp[cX,Ty.isAgg,Value.cells])|unit=>simp[Den,eM] at d|alt u a r=>cases h|DV=>cases h
def aiT(i:QA bulk all){base}:∀{A ts vs ds ps},A.GR=true->ack P A ts->DataW.TrodAll enc P w 0 (λ_=>true) held ts vs ds ps ->
  (∀(j:Nat) t v,ts[j]?=aa t->vs[j]?=aa v->Value.okWide P w .any base t v)->∃x,jq w (old w) A x vs/\A.bulk x<=all ds:=by
 intro A;induction A with|pair t r n f =>(intro ts vs ds ps b e h c;simp only[Ty.GR,gC] at b;cases ts with|nil=>exact e.elim|cons tid ts =>obtain⟨k,o⟩:=e;obtain⟨v,g,d,s,p,q,rfl,rfl,rfl,⟨l,u⟩,z⟩:=trodAll_cons h;obtain⟨x,m,F⟩:=(aiS i b.1).1 k u;obtain⟨y,C,G⟩:=f b.2 o z λj t v D E=>c (j+1) t v (by simpa using D) (by simpa using E);refine⟨(x,y),⟨v.cells.toList,g,?_,m,C⟩,?_⟩;{rw[<-Zh b.1 k (c 0 tid v rfl rfl) m]};rw[i.cons];show t.bulk x+r.bulk y<=_;omega)|unit =>(intro ts vs ds ps b e h c;cases ts with|nil =>(obtain⟨rfl,rfl,rfl⟩:=trodAll_nil h;exact⟨(),rfl,qh _⟩)|cons tid ts=>exact e.elim)|_=>intro ts vs ds ps b e;exact e.elim
def Tg(i:laidOutB P=true){W g sp}:∀{ts vs ds ps},(∀t∈ts,P.readableRec t=true/\t<P.types.size) ->
  DataW.TrodAll enc P W 0 (λ_=>true) true ts vs ds ps->(∀p∈ps,W.sameAt g p)->(∀p∈ps,sp p.block=true)->DataW.TrodAll enc P g 0 sp true ts vs ds ps:=by
 intro ts;induction ts with|nil=>(intro vs ds ps _ h _ _;obtain⟨rfl,rfl,rfl⟩:=trodAll_nil h;rfl)|cons t ts j =>intro vs ds ps f h b e;obtain⟨v,k,d,l,p,q,rfl,rfl,rfl,m,n⟩:=trodAll_cons h;refine⟨p,q,WideElems.Trod_stays i (f t<|pg ..).1 (f t<|pg ..).2 m (λx c=>b x (Gm _ c)) (λx c=>e x (Gm _ c)),?_,rfl⟩;exact j (λt o=>f t (wG _ o)) n (λx c=>b x (M8 _ c)) (λx c=>e x (M8 _ c))
def Ty.ok:(t:Ty)->t.den->Prop|.int k,n=>k.min<=(show Int from n)/\(show Int from n)<=k.max|.bool,_=>True|.str,s=>List.length (α:=UInt8) s<=maxLen|.slice e,l=>∀(i:Nat) (x:e.den),(show List e.den from l)[i]?=aa x->e.ok x|.arr n e,l=>List.length (α:=e.den) l=n/\∀(i:Nat) (x:e.den),(show List e.den from l)[i]?=aa x->e.ok x|.pair a b,x=>a.ok x.1/\b.ok x.2|.unit,_=>True|.alt _ _ _,_=>True|.DV,_=>True
def bZ.ok{I}:∀{t x cs},bZ w I t x cs->t.ok x:=by intro t;induction t with|int k=>intro x cs h;exact h.2|bool=>intro x cs h;trivial|str=>intro x cs h;exact h.2|slice e d =>(intro x cs h i y c;rcases h with ⟨_,h⟩|⟨blk,off,cap,j,l,p,m⟩;{rw[show x=[] from h] at c;cases c};obtain⟨es,_,_,o⟩:=m i y c;exact d o)|arr n e d=>intro x cs h;exact⟨h.1,λi y c=>d (h.2.2 i y c)⟩|pair a b f g=>(intro x cs h;obtain⟨q,s,_,j,l⟩:=h;exact⟨f j,g l⟩)|unit=>intro x cs h;trivial|alt u a r=>intro x cs h;trivial|DV=>intro x cs h;trivial
def jq.ok{I}:∀{A x b},jq w I A x b->A.ok x:=by intro A;induction A with|pair t r d c=>(intro x b h;obtain⟨cs,rest,_,e,f⟩:=h;exact⟨e.ok,c f⟩)|unit=>intro x b h;trivial|_=>intro x b h;exact h.elim
def afF(Q:QA bulk all)(R:laidOutB P=true){m tb:Nat}{g:Func}{s:ChangeSpec}{A spec apart fresh handsOn}
  (n:ack P A g.params.toList) (i:∀t∈g.params.toList,P.readableRec t=true/\t<P.types.size) (r:g.resultTypes=#[tb]) (C:P.underlying tb=aa .bool) (u:s.vars=[]) (S:∀c,c.length=g.params.toList.length->s.fn H c={ results:=[.lit<|.bool true],args:=c }) {G} (T:Holds P G m ⟨A,.pair .bool .unit,spec⟩) {W} (U:KI G W) {base args c gs before} (y:∀(j:Nat) t v,g.params[j]?=aa t->args[j]?=aa v->Value.okWide P W .any base t v) (D:DataW.Whole enc P g.params.toList s.vars apart W args.toList c gs before) (f:∀x,A.ok x->A.bulk x<=all (c++gs)->spec x=aa (true,())) (E:A.GR=true:=by rfl) : Calls P m args W λe K=>∃v,e=.returned v/\s.post enc P g apart fresh handsOn false W args v K:=by
 have k:=D.lt;have z:=D;obtain⟨p,q,F,L,rfl,V,X⟩:=D;rw[u] at L;obtain⟨rfl,rfl⟩:=trodVars_none L;simp at z k f;obtain⟨x,M,Y⟩:=aiT Q E n F λj t v Z I=>y j t v (by simpa using Z) (by simpa using I);have hlen:∀{ts vs c ps},DataW.TrodAll enc P W 0 (λ_=>true) true ts vs c ps->c.length=ts.length:=by intro ts;induction ts with|nil=>(intro vs c ps h;obtain⟨_,rfl,_⟩:=trodAll_nil h;rfl)|cons t ts ih=>intro vs c ps h;obtain⟨v,vs',d,ds',p,q,rfl,rfl,rfl,h1,h2⟩:=trodAll_cons h;simp[ih h2]
 have l:=S c (hlen F);refine(T.calls _ W args x _ (λb o h=>h) U M<|f x M.ok Y).mono λe K hw=>?_;obtain⟨v,I',rfl,O,_,_,_,hr⟩:=hw;obtain⟨cs,rfl,I⟩:=hr;obtain rfl:v=.bool true:=by simpa [cX,Ty.isAgg] using I
 refine⟨_,rfl,c,[],p,[],p,[],z,?_,?_,?_,O.frame _,λh=>by cases h⟩
 .rw[zo,l,r];exact trodAll_mk1 (shut_bool C true)
 .rw[zo,l];exact Tg R i F (λx J=>O.same (k x J)) (λx J=>by simpa using k x J)
 .rw[zo,l,u];rfl
end
end Go.Ge
namespace Go.Ge
variable [Lp]
open RowKit
noncomputable def anI(b:Ctx)(d:List Nat)(e:List ResultVar)(R:Ty)(c:Code)(σ:St):Option R.den :=((kE b 0 d Ee c [] σ).bind λr=>bif Nat.beq r.1 1 then((results1 b r.2 e).bind λv=>match jm (lT r.2.mem) R (IK R v) with|some y=>.ret y|none=>.fail) else .fail).run
section
variable {P:Program} {cx:Ctx} {bf:List Nat}
def Jn{G}:zG P G Ee:=λB γ σ bb w f b c v _ _ _ h=>by cases h
def Co:∀f b σ v bb,(Ee f b σ).run=aa (v,bb)->b5 σ bb:=λf b σ v bb h=>by cases h
def Ends(w:World)(I:Nat->Nat->Prop)(R:Ty)(y:R.den)(e:Ending)(d:World):Prop :=∃v c,e=.returned v/\Below w.heap.size w d/\(∀b o,I b o->c b o)/\(∀b o,c b o->b<d.heap.size)/\(∀b o,c b o->¬I b o->w.heap.size<=b)/\nG d c R y v
def UN{Q}(g:P.follows .mixedOrders=true)(q:fM P cx){G}(i:sn P G cx){fn R y c σ γ a w0 w N I}
  (z:∀t∈writes c,t<N) (A:anI cx bf fn.results.toList R c σ=aa y) (h:dz (pn G w0.heap.size) N γ σ a w) (C:Ext (pn G w0.heap.size) ⟨I,λ_=>af⟩ (λ_=>af) w0 γ σ.mem w) (D:∀a w,bodyPost P fn (Ends w0 I R y) .ret a w->Q .ret a w):c.wp P Q a w:=by
 obtain⟨r,j,k⟩:=bind_some A;obtain⟨e,bb⟩:=r;obtain⟨E,F⟩:=aD k;obtain⟨v,J,l⟩:=bind_some F;have K:jm (lT bb.mem) R (IK R v)=aa y:=by split at l;{rename_i T m;obtain rfl:=aU l;exact m};cases l
 refine vU g q i Jn Co c z j h λbM u w' s x f=>?_;obtain⟨d,L,M⟩:=AA q s J;have n:=C.trans x;have key:Ends w0 I R y (.returned d) w':=by refine⟨d,λb o=>bM.I b o\/(w0.heap.size<=b/\b<w'.heap.size),rfl,n.below.below,λb o hi=>.inl (n.I b o hi),λb o hi=>?_,λb o hi O=>?_,UL (σ:=lT bb.mem) s.ok (λb o hi=>.inl hi) (λb o j k=>.inr ⟨s7.1 j,k⟩) M K⟩;{rcases hi with hi|hi;{exact s.ok.xd b o hi};exact hi.2};rcases hi with hi|hi;{exact s7.1 ((n.s9 b o hi).resolve_left O)};exact hi.1
 have:u.defers=[]/\∃S,(results fn u.tmps).run P w'=.ok S w'/\Ends w0 I R y _ w':=⟨s.defers,d,L,key⟩;have p:e=1:=iN E;subst p;exact D _ _ this
def oG(r:P.follows .mixedOrders=true)(hc:fM P cx){G}(s:sn P G cx){f tid id1 fn e V R2 R3 o0 o1 ty2}{s0:List e.den->St}
  (hP:P.funcs[f]?=aa fn) (L:(fn.name == "runtime.NumGoroutine")=false) (z:fn.body=aa (.seq V<|.seq (.seq (.region id1 #[o0,o1] false)<|.cond (.tmp 4) (.seq R2 .ret) .skip)<|.seq R3 .ret)) (hT:find cx.T tid=aa (.slice e)) (hN:4<fn.ntmps) (hd:∀t∈writes V++(writes R2++writes R3),t<fn.ntmps) (g0:o0.guard=af) (d0:o0.dst=aa 3) (p0:o0.op=.move (.tmp 0)) (g1:o1.guard=af) (d1:o1.dst=aa 4) (p1:o1.op=.binOp .eql tid (.tmp 3) (.const<|.slice af 0 0) ty2) (h0:∀l,(kE cx 0 bf Ee V []<|qt (λ_=>af) [.data (.slice e) l]).run=aa (0,s0 l)) (hs0:∀l,(s0 l).bw 0=.data (.slice e) l) (hs3:∀l,(s0 l).bw 3=.undef) (hs4:∀l,(s0 l).bw 4=.undef) (hA:∀l,anI cx bf fn.results.toList (.pair (.slice e) .unit) (.seq R2 .ret) (s0 l)=aa (([]:List e.den),())) (hB:∀l,fits (len l)=true->anI cx bf fn.results.toList (.pair (.slice e) .unit) (.seq R3 .ret) (s0 l)=aa (l,())) : Holds P G f ⟨.pair (.slice e) .unit,.pair (.slice e) .unit,λx=>bif fits (len (α:=e.den) x.1) then aa x else af⟩ where
 body:=⟨fn,_,hP,L,z⟩
 calls:=by
  intro I w q x y hI hG M p;obtain⟨l,u⟩:=x;change List e.den at l;have A:fits (len l)=true/\y=(l,()):=by
   change (bif fits _ then aa _ else af)=aa y at p;cases U:fits _ with
   | true=>rw[U] at p;exact⟨rfl,(aU p).symm⟩
   | false=>rw[U] at p;cases p
  obtain⟨A,rfl⟩:=A;obtain⟨cs,W,X,Y,O⟩:=M;obtain rfl:W=[]:=O;obtain⟨eid,Z,_⟩:=(hc.T _ _ hT).slice;have hm:bP (pn G w.heap.size) ⟨I,λ_=>af⟩ _ w :=
   { dk:=λb Q g=>by
      obtain⟨o,h1,h2⟩:=hG b Q g;exact⟨λC=>by have:=s7.1 C;have:=(A9.1 h1).1;omega,o,h1,h2⟩
     base:=b8 _
     boxes:=λb bx C=>by cases C
     inj:=λb c R k k' C=>absurd rfl C
     fresh:=λb R k C=>absurd rfl C
     xd:=hI
     sep:=λb bx R k off C=>by cases C }
  have hv:nH ⟨I,λ_=>af⟩ (λ_=>af) w [.data (.slice e) l] q.toList:=by
   rw[X];refine⟨rfl,λi v x hv hx=>?_⟩;cases i with
   | zero=>obtain rfl:=aU hv;obtain rfl:=aU hx;exact⟨cs,Y,rfl⟩
   | succ i=>cases hv
  refine calls_of_wp hP z (wp_seq ?_);have hsz:q.size=1:=by have:=congrArg List.length X;simpa using this
  have hNN:q.size+(fn.ntmps-q.size)=fn.ntmps:=ai;have J:=KY hm hv fn.ntmps;rw[hNN] at J;refine vU r hc s Jn Co V (λt ht=>hd t (Gm _ ht)) (h0 l) J λγ1 E F s1 x1 f1=>?_;refine wp_seq (wp_seq<|wp_region_list ?_);have hr0:=s1.bw 0;rw[hs0] at hr0;obtain⟨cs1,hc1,hv1⟩:=et.1 hr0;have hsl:∃j n m,E.tmps.getD 0 Go.undef=.slice j n m/\(j=af->l=[]):=by
   rcases hc1 with ⟨⟨j,k1⟩,k2⟩|⟨R,off,m,k1,_⟩
   .exact⟨j,0,0,by rw[hv1,k1];rfl,λ_=>k2⟩
   .exact⟨_,_,_,by rw[hv1,k1];rfl,λh=>by cases h⟩
  obtain⟨j,n,m,aq4,S⟩:=hsl;have D:∀{d},(s0 l).bw d=.undef->(s0 l).put d .undef=s0 l:=by
   intro d hd0;unfold St.put
   congr 1
   funext t;cases C:Nat.beq t d with
   | true=>obtain rfl:=iN C;exact hd0.symm
   | false=>rfl
  have s2:dz (pn G w.heap.size) fn.ntmps γ1 (s0 l) (E.put (aa 3)<|.slice j n m) F:=by
   have:=s1.yu (d:=aa 3) (v:=.undef) (val:=.slice j n m) (λk hk=>by cases hk;omega) ⟨_,rfl⟩;rw[show(s0 l).bF (aa 3) .undef=s0 l from D (hs3 l)] at this;exact this
  have s3:dz (pn G w.heap.size) fn.ntmps γ1 (s0 l) ((E.put (aa 3)<|.slice j n m).put (aa 4)<|.bool j.isNone) F:=by
   have:=s2.yu (d:=aa 4) (v:=.undef) (val:=.bool j.isNone) (λk hk=>by cases hk;omega) ⟨_,rfl⟩;rw[show(s0 l).bF (aa 4) .undef=s0 l from D (hs4 l)] at this;exact this
  have e3:(E.put (aa 3)<|.slice j n m).eval (.tmp 3)=.slice j n m:=by
   simp[Act.eval,Act.put,s1.size];omega
  have e4:((E.put (aa 3)<|.slice j n m).put (aa 4)<|.bool j.isNone).eval (.tmp 4)=.bool j.isNone:=by
   have:=s2.size;simp only[Act.eval];generalize E.put _ _=a2 at this⊢;simp[Act.put,this,hN]
  unfold wpList;rw[show Region.wanted o0 _=true by unfold Region.wanted;rw[g0]];refine .inl ?_;unfold Oper.wp;have ex0:(execOp E.eval o0).run P F=.ok (.value<|.slice j n m) F:=by
   have:E.eval (.tmp 0)=.slice j n m:=aq4;simp only[execOp,p0,this];rfl
  rw[ex0];show wpList P #[o0,o1] _ [o1] _ F
  rw[d0];unfold wpList;rw[show Region.wanted o1 _=true by unfold Region.wanted;rw[g1]];refine .inl ?_;unfold Oper.wp;have ex1:(execOp (E.put (aa 3)<|.slice j n m).eval o1).run P F=.ok (.value<|.bool j.isNone) F:=by
   have aq7:(E.put (aa 3)<|.slice j n m).eval (.const _)=.slice af 0 0:=rfl;have hg:(eqGuard .eql tid (.tmp 3) (.const<|.slice af 0 0) (.slice j n m)<|.slice af 0 0).run P F=.ok () F:=by simp[eqGuard]
   simp only[execOp,p1,e3,aq7,Sem.run_bind,hg,_root_.Go.run_eql_slice_nil F tid eid j n m Z,Result.andThen_ok,Sem.run_pure]
  rw[ex1];simp only[Oper.upon];rw[d1];have K:∀{t},t∈writes R2++writes R3->t∈writes V++_:=λh=>M8 _ h;refine wp_cond_split e4 (λhn=>?_) (λhn=>(wp_skip<|UN r hc s (λt ht=>hd t (K<|M8 _<|by simpa [writes] using ht)) (hB l A) s3 x1 λa w U=>U))
  .have hl:=S (by simpa using hn);have:=hA l;rw[<-hl] at this;exact UN r hc s (λt ht=>hd t (K<|Gm _<|by simpa [writes] using ht)) this s3 x1 λa w U=>U
noncomputable def anJ(b:Ctx)(d:List Nat)(f:List ResultVar)(e:Ty)(c:Code)(g:St):Option (List e.den) :=((kE b 0 d Ee c [] g).bind λr=>bif Nat.beq r.1 1 then((results1 b r.2 f).bind λv=>match Cf e r.2 v with|some x=>.ret x.2.2.2|none=>.fail) else .fail).run
def aiU(w:World)(I:Nat->Nat->Prop)(e:Ty)(l:List e.den)(q:Ending)(d:World):Prop :=∃v f L,q=.returned v/\l8 w I (λ_=>False) d f/\zF d f e l L v/\∀b c,L=aa (b,c)->w.heap.size<=b
def QB{Q}(i:P.follows .mixedOrders=true)(u:fM P cx){G}(j:sn P G cx){fn e l c σ γ a w0 w N I}
  (F:∀t∈writes c,t<N) (J:anJ cx bf fn.results.toList e c σ=aa l) (h:dz (pn G w0.heap.size) N γ σ a w) (K:Ext (pn G w0.heap.size) ⟨I,λ_=>af⟩ (λ_=>af) w0 γ σ.mem w) (L:∀a w,bodyPost P fn (aiU w0 I e l) .ret a w->Q .ret a w):c.wp P Q a w:=by
 obtain⟨r,M,O⟩:=bind_some J;obtain⟨x,bb⟩:=r;obtain⟨R,S⟩:=aD O;obtain⟨v,T,n⟩:=bind_some S;split at n
 case h_2=>cases n
 rename_i o y;obtain⟨b,U,bx,z⟩:=o;obtain rfl:=aU n;obtain⟨V,A,C,W,X,D,_⟩:=vS y;refine vU i u j Jn Co c F M h λbM E w' s x f=>?_;obtain⟨d,Y,Z⟩:=AA u s T;have g:=K.trans x;obtain⟨m,he⟩:=UC s.ok y Z;have key:aiU w0 I e z (.returned d) w':=by refine⟨d,bM.I,bM.loc b,rfl,⟨⟨g.below.os,g.below.tape,g.below.output,g.below.size,λk hk=>g.below.block k hk⟩,g.I,s.ok.xd,λb o hi hn=>s7.1 ((g.s9 b o hi).resolve_left hn)⟩,m,λp c hl=>?_⟩;exact s7.1 (s.ok.fresh b p c (by rw[V];simp) hl).1
 have:E.defers=[]/\∃v1,(results fn E.tmps).run P w'=.ok v1 w'/\aiU w0 I e z _ w':=⟨s.defers,d,Y,key⟩;have q:_=1:=iN R;subst q;exact L _ _ this
def sr(p:P.follows .mixedOrders=true)(hc:fM P cx)(q:sn P zC cx){f tid id1 fn e K R2 R3 o0 o1 ty2}{s0:List e.den->St}
 (hP:P.funcs[f]?=aa fn) (D:(fn.name == "runtime.NumGoroutine")=false) (r:fn.body=aa (.seq K<|.seq (.seq (.region id1 #[o0,o1] false)<|.cond (.tmp 4) (.seq R2 .ret) .skip)<|.seq R3 .ret)) (hT:find cx.T tid=aa (.slice e)) (hN:4<fn.ntmps) (hd:∀t∈writes K++(writes R2++writes R3),t<fn.ntmps) (g0:o0.guard=af) (d0:o0.dst=aa 3) (p0:o0.op=.move (.tmp 0)) (g1:o1.guard=af) (d1:o1.dst=aa 4) (p1:o1.op=.binOp .eql tid (.tmp 3) (.const<|.slice af 0 0) ty2) (h0:∀l,(kE cx 0 bf Ee K []<|qt (λ_=>af) [.data (.slice e) l]).run=aa (0,s0 l)) (hs0:∀l,(s0 l).bw 0=.data (.slice e) l) (hs3:∀l,(s0 l).bw 3=.undef) (hs4:∀l,(s0 l).bw 4=.undef) (hA:∀l,anJ cx bf fn.results.toList e (.seq R2 .ret) (s0 l)=aa []) (hB:∀l,fits (len l)=true->anJ cx bf fn.results.toList e (.seq R3 .ret) (s0 l)=aa l) : e8 P f (.clone e):=by
 refine⟨⟨fn,_,hP,D,r⟩,λI w o l hI E L=>?_⟩;obtain⟨cs,M,O,R,F⟩:=E;obtain rfl:M=[]:=F;obtain⟨eid,S,_⟩:=(hc.T _ _ hT).slice;have hm:bP (pn zC w.heap.size) ⟨I,λ_=>af⟩ _ w :=
  { dk:=λb Q g=>g.elim
    base:=b8 _
    boxes:=λb bx z=>by cases z
    inj:=λb c G k k' z=>absurd rfl z
    fresh:=λb G k z=>absurd rfl z
    xd:=hI
    sep:=λb bx G k off z=>by cases z }
 have hv:nH ⟨I,λ_=>af⟩ (λ_=>af) w [.data (.slice e) l] o.toList:=by
  rw[O];refine⟨rfl,λi v x hv hx=>?_⟩;cases i with
  | zero=>obtain rfl:=aU hv;obtain rfl:=aU hx;exact⟨cs,R,rfl⟩
  | succ i=>cases hv
 refine calls_of_wp hP r (wp_seq ?_);have hsz:o.size=1:=by have:=congrArg List.length O;simpa using this
 have hNN:o.size+(fn.ntmps-o.size)=fn.ntmps:=ai;have A:=KY hm hv fn.ntmps;rw[hNN] at A;refine vU p hc q Jn Co K (λt U=>hd t (Gm _ U)) (h0 l) A λV u y s1 x1 f1=>?_;refine wp_seq (wp_seq<|wp_region_list ?_);have W:=s1.bw 0;rw[hs0] at W;obtain⟨cs1,hc1,X⟩:=et.1 W;have hsl:∃j n m,u.tmps.getD 0 Go.undef=.slice j n m/\(j=af->l=[]):=by
  rcases hc1 with ⟨⟨j,k1⟩,k2⟩|⟨G,off,m,k1,_⟩
  .exact⟨j,0,0,by rw[X,k1];rfl,λ_=>k2⟩
  .exact⟨_,_,_,by rw[X,k1];rfl,λh=>by cases h⟩
 obtain⟨j,n,m,Y,J⟩:=hsl;have s:∀{d},(s0 l).bw d=.undef->(s0 l).put d .undef=s0 l:=by
  intro d hd0;unfold St.put
  congr 1
  funext t;cases z:Nat.beq t d with
  | true=>obtain rfl:=iN z;exact hd0.symm
  | false=>rfl
 have s2:dz (pn zC w.heap.size) fn.ntmps V (s0 l) (u.put (aa 3)<|.slice j n m) y:=by
  have:=s1.yu (d:=aa 3) (v:=.undef) (val:=.slice j n m) (λk hk=>by cases hk;omega) ⟨_,rfl⟩;rw[show(s0 l).bF (aa 3) .undef=s0 l from s (hs3 l)] at this;exact this
 have s3:dz (pn zC w.heap.size) fn.ntmps V (s0 l) ((u.put (aa 3)<|.slice j n m).put (aa 4)<|.bool j.isNone) y:=by
  have:=s2.yu (d:=aa 4) (v:=.undef) (val:=.bool j.isNone) (λk hk=>by cases hk;omega) ⟨_,rfl⟩;rw[show(s0 l).bF (aa 4) .undef=s0 l from s (hs4 l)] at this;exact this
 have e3:(u.put (aa 3)<|.slice j n m).eval (.tmp 3)=.slice j n m:=by
  simp[Act.eval,Act.put,s1.size];omega
 have e4:((u.put (aa 3)<|.slice j n m).put (aa 4)<|.bool j.isNone).eval (.tmp 4)=.bool j.isNone:=by
  have:=s2.size;simp only[Act.eval];generalize u.put _ _=a2 at this⊢;simp[Act.put,this,hN]
 unfold wpList;rw[show Region.wanted o0 _=true by unfold Region.wanted;rw[g0]];refine .inl ?_;unfold Oper.wp;have ex0:(execOp u.eval o0).run P y=.ok (.value<|.slice j n m) y:=by
  have:u.eval (.tmp 0)=.slice j n m:=Y;simp only[execOp,p0,this];rfl
 rw[ex0];show wpList P #[o0,o1] _ [o1] _ y
 rw[d0];unfold wpList;rw[show Region.wanted o1 _=true by unfold Region.wanted;rw[g1]];refine .inl ?_;unfold Oper.wp;have ex1:(execOp (u.put (aa 3)<|.slice j n m).eval o1).run P y=.ok (.value<|.bool j.isNone) y:=by
  have Z:(u.put (aa 3)<|.slice j n m).eval (.const _)=.slice af 0 0:=rfl;have hg:(eqGuard .eql tid (.tmp 3) (.const<|.slice af 0 0) (.slice j n m)<|.slice af 0 0).run P y=.ok () y:=by simp[eqGuard]
  simp only[execOp,p1,e3,Z,Sem.run_bind,hg,_root_.Go.run_eql_slice_nil y tid eid j n m S,Result.andThen_ok,Sem.run_pure]
 rw[ex1];simp only[Oper.upon];rw[d1];have C:∀{t},t∈writes R2++writes R3->t∈writes K++_:=λh=>M8 _ h;refine wp_cond_split e4 (λhn=>?_) (λhn=>(wp_skip<|QB p hc q (λt U=>hd t (C<|M8 _<|by simpa [writes] using U)) (hB l L) s3 x1 λa w hq=>hq))
 .have hl:=J (by simpa using hn);have:=hA l;rw[<-hl] at this;exact QB p hc q (λt U=>hd t (C<|Gm _<|by simpa [writes] using U)) this s3 x1 λa w hq=>hq
end
end Go.Ge
namespace Go.Ge
variable [Lp]
def cp{S R}{f:S->Option (S⊕R)}{r}:∀k (st:Nat->S),(∀i,i<k->f (st i)=aa (.inl<|st<|i+1))->f (st k)=aa (.inr r)->Loop f (st 0)=aa r:=by intro k;induction k with|zero=>intro st _ h;rw[aZ,h];rfl|succ k c =>intro st b d;rw[aZ,b 0 ai];exact c _ (λi e=>b _ ai) d
def aJ{i:Nat}(h:i<4611686018427387904):aC .i64 i 1=((i+1:Nat):Int):=by unfold aC;simp[IntKind.wrap,IntKind.bits];omega
def xC{α}(l:List α)(i:Nat):idx l i=l[i]?:=by unfold idx;simp
def afG{n:Nat}(h:n<=4294967296):fits n=true:=by unfold fits;simp;omega
def aj{α}(x y:α):ao true x y=x:=rfl
def ag{α}(x y:α):ao false x y=y:=rfl
def ab{α β} x (f:α->Option β):ae (aa x) f=f x:=rfl
def yC a:bA a a=true:=by simp[bA]
def mG a:aR a a=true:=by simp[aR]
def aM:nt true=false:=rfl
def aE:nt false=true:=rfl
def aiV{P tys}(h:(tys.all λp=>eM P p.2 false p.1 0 [])=true):∀tid t,find tys tid=aa t->Den P t tid:=λtid t b=>by rw[wH] at h;exact h _ (vV b)
def UO{l t}(h:du l t=true):t∈l:=P0.1 h
def apf(P:Program)(b:TypeId):Bool:=(match P.underlying b with|some (.pointer _)=>true|some (.func ..)=>true|_=>false)&&(match P.info? b with|some i=>Nat.beq i.size 1&&(match i.zero with|some z=>z.oneCell'|none=>false)|none=>false)
def aef{P sL}(h:(sL.all λt=>apf P t)=true):∀tid,du sL tid=true->(∀w,(isAgg tid).run P w=.ok false w)/\(∀w,(Go.sizeOf tid).run P w=.ok 1 w)/\∃z,(∀w,(zeroValue tid).run P w=.ok z w)/\z.oneCell'=true:=λtid g=>by
 rw[wH] at h;have:=h tid (UO g);simp only[apf,gC] at this;obtain⟨f,b⟩:=this;refine⟨?_,?_,?_⟩
 .intro w;split at f;{rename_i c;simp[isAgg,run_underlying c]};{rename_i c;simp[isAgg,run_underlying c]};cases f
 {intro w;split at b;{rename_i i d;simp only[gC] at b;have:=iN b.1;simp[Go.sizeOf,typeInfo,d,this]};cases b};split at b;{rename_i i d;simp at b;obtain⟨_,e⟩:=b;split at e;{rename_i z j;exact⟨z,λw=>by simp[zeroValue,typeInfo,d,j],e⟩};cases e};cases b
def apg(P:Program)(b:TypeId):Bool:=match P.underlying b with|some (.pointer _)=>true|_=>false
def aeg{P Bf}(h:(Bf.all λt=>apg P t)=true):∀tid,du Bf tid=true->∃e,P.underlying tid=aa (.pointer e):=λtid b=>by
 rw[wH] at h;have:=h tid (UO b);unfold apg at this;split at this
 {rename_i e c;exact⟨e,c⟩};cases this
def aeh{P:Program}:∀p∈([]:List (Nat×Func)),P.funcs[p.1]?=aa p.2:=λp h=>by cases h
def ak{P:Program}{f:Nat}{fn l}(h:P.funcs[f]?=aa fn)(c:∀p∈l,P.funcs[p.1]?=aa p.2):∀p∈(f,fn)::l,P.funcs[p.1]?=aa p.2:=λp b=>by
 rcases eK.1 b with rfl|b
 {exact h};exact c p b
def aiW{P:Program}{l}(h:∀p∈l,P.funcs[p.1]?=aa p.2):∀f b,find l f=aa b->P.funcs[f]?=aa b:=λf b c=>h _ (vV c)
def ar{P G}:∀p∈([]:List (Nat×D1)),Holds P G p.1 p.2:=λp h=>by cases h
def ah{P G f c l}(h:Holds P G f c)(d:∀p∈l,Holds P G p.1 p.2):∀p∈(f,c)::l,Holds P G p.1 p.2:=λp b=>by
 rcases eK.1 b with rfl|b
 {exact h};exact d p b
def cW{P G}:∀p∈([]:List (Nat×D8)),gd P G p.1 p.2:=λp h=>by cases h
def gJ{P G f c l}(h:gd P G f c)(d:∀p∈l,gd P G p.1 p.2):∀p∈(f,c)::l,gd P G p.1 p.2:=λp b=>by
 rcases eK.1 b with rfl|b
 {exact h};exact d p b
def vg{P}:∀p∈([]:List (Nat×Spc)),e8 P p.1 p.2:=λp b=>by cases b
def dH{P f s l}(h:e8 P f s)(c:∀p∈l,e8 P p.1 p.2):∀p∈(f,s)::l,e8 P p.1 p.2:=λp b=>by
 rcases eK.1 b with rfl|b
 {exact h};exact c p b
def UP{α}:∀{l:List (String×α)} {k a},Yq l k=aa a->(k,a)∈l|[],_,_,h=>by cases h|(i,a)::r,k,b,h=>by unfold Yq at h;by_cases e:i=k;{rw[cT e] at h;obtain rfl:=e;obtain rfl:=aU h;exact pg ..};rw[cj e] at h;exact wG _ (UP h)
def dL{P G}:∀p∈([]:List (String×D1)),l7 P G p.1 p.2:=λp h=>by cases h
def Zi{P G f c l}(h:l7 P G f c)(d:∀p∈l,l7 P G p.1 p.2):∀p∈(f,c)::l,l7 P G p.1 p.2:=λp b=>by
 rcases eK.1 b with rfl|b
 {exact h};exact d p b
def fu{P G cx}(h:∀p∈cx.con,Holds P G p.1 p.2)(k:∀p∈cx.ah6,gd P G p.1 p.2)(s:∀p∈cx.XY,e8 P p.1 p.2)(v:∀p∈cx.inv,l7 P G p.1 p.2):sn P G cx :=⟨λf c b=>h _ (vV b),λf c b=>k _ (vV b),λf c b=>s _ (vV b),λn c b=>v _ (UP b)⟩
def aei{P uu}(h:(uu.all λp=>PG P p.1 p.2)=true):∀tid b,find uu tid=aa b->PG P tid b=true:=λtid b c=>by rw[wH] at h;exact h _ (vV c)
def elB(P:Program)(p:Nat×Nat):Bool:=match P.underlying p.1 with|some (.slice e)=>Nat.beq e p.2|_=>false
def aiX{P Yp}(h:(Yp.all λp=>elB P p)=true):∀tid e,find Yp tid=aa e->P.underlying tid=aa (.slice e):=λtid e b=>by
 rw[wH] at h;have:=h _ (vV b);unfold elB at this;split at this
 {rename_i d c;rw[c,iN this]};cases this
def vW{P t i z}(h:P.info? t=aa i)(k:i.zero=aa z) w:(zeroValue t).run P w=.ok z w:=by simp[zeroValue,typeInfo,h,k]
def aiY(I:Nat->Nat->Prop) w:KI zC w:=λb Q h=>h.elim
end Go.Ge
namespace Go.Ge
open RowKit
def Dy c:∀l,-1<=Lib.indexByte l c/\Lib.indexByte l c<l.length:=by intro l;induction l with|nil=>exact⟨by simp[Lib.indexByte],by simp[Lib.indexByte]⟩|cons b r d =>unfold Lib.indexByte;split;{exact⟨aW,by simp only[iG];omega⟩};split;{exact⟨aW,dW⟩};simp;omega
def aej{P:Program}{f:Nat}{fn}(d:P.funcs[f]?=aa fn)(c:(fn.name == "runtime.NumGoroutine")=false)(e:fn.body.isSome=true) :
  ∃fn b,P.funcs[f]?=aa fn/\(fn.name == "runtime.NumGoroutine")=false/\fn.body=aa b:=by
 obtain⟨b,g⟩:=Pb.1 e;exact⟨fn,b,d,c,g⟩
def Zj{w:World}{b p q v T c}(h:w.heap[b]?=aa (.cells #[p,v] T c)):w.setCell ⟨b,0,af⟩ q=w.setRow b #[q,v]:=by
 unfold World.setCell World.setRow;congr 1;apply Array.ext_getElem?;intro i;simp only[X5];by_cases e:b=i
 {subst e;simp[h]};simp[e]
def zp.refl b w:zp b w w:=⟨rfl,rfl,rfl,b8 _,λ_ _ _=>rfl,λ_ _ _=>rfl⟩
def zp.weaken{b w w'}(h:zp af w w'):zp b w w':=⟨h.os,h.tape,h.output,h.size,λk c _=>h.block k c aW,h.cell⟩
def zp.drew{b w w'}(h:zp b w w'):zp b w w'.drew:=⟨h.os,h.tape,h.output,h.size,h.block,h.cell⟩
def zp.alloc{d w w'}(h:zp d w w') o:zp d w (w'.alloc o) where
 os:=h.os
 tape:=h.tape
 output:=h.output
 size:=gS h.size aW
 block:=λk b e=>(cZ w' o k<|Hq b h.size).trans (h.block k b e)
 cell:=λk c b=>(dC<|cZ w' o k<|Hq b h.size).trans (h.cell k c b)
def zp.freeze{g w w'}(h:zp (aa g) w w') n:zp (aa g) w (w'.freeze ⟨g,0,af⟩ n):=by
 unfold World.freeze;split
 {exact h};refine⟨h.os,h.tape,h.output,gS h.size aW,λk d f=>?_,λk c d=>?_⟩;{have b:¬g=k:=λe=>f (by rw[e]);rw[<-h.block k d f];simp[X5,b]};rw[<-h.cell k c d];by_cases e:g=k;{subst e;simp only[World.cell?,X5];cases w'.heap[g]? with|none=>rfl|some o=>cases o<;>rfl};have b:=e;simp[World.cell?,X5,b]
def Wy{P G}{f:Nat}{fn}{spec:bj->Int->Int}(v:P.funcs[f]?=aa fn)(g:(fn.name == "runtime.NumGoroutine")=false)(z:fn.body.isSome=true)
  (A:∀s c,(-1<=spec s c/\spec s c<s.length)) (h:∀s c w,Calls P f #[.string s,.int .u8 c] w λe w'=>e=.returned (.int .i64<|spec s.data.toList c)/\w'=w) : Holds P G f ⟨.pair .str<|.pair (.int .u8) .unit,.pair (.int .i64) .unit,λx=>aa (spec x.1 x.2.1,())⟩ where
 body:=by
  obtain⟨m,C⟩:=Pb.1 z;exact⟨fn,m,v,g,C⟩
 calls:=by
  intro I w n x y D L i j;obtain⟨s,c,u⟩:=x;obtain rfl:_=y:=aU j;obtain⟨M,t,r,p,E,k,q,l,d⟩:=i;obtain rfl:k=[]:=d;obtain⟨rfl,F⟩:=p;obtain⟨rfl,_⟩:=l;obtain rfl:n=#[.string ⟨s.toArray⟩,.int .u8 c]:=by apply Iv.1;rw[r,q];rfl
  refine(h ⟨s.toArray⟩ c w).mono ?_;rintro e w' ⟨rfl,rfl⟩;refine⟨_,I,rfl,Below.refl _ _,λb o h=>h,D,λb o J K=>absurd J K,?_⟩;have O:=A s c;have Q:s.length<=maxLen:=F;refine⟨[.int .i64 _],⟨rfl,?_,?_⟩,rfl⟩;{have:(i64).min=-9223372036854775808:=aI;show(i64).min<=spec s c;omega};(have:(i64).max=9223372036854775807:=aI;have:maxLen=140737488355328\/maxLen<=9223372036854775807:=by right;decide);show spec s c<=(i64).max;omega
def Th{P G}{f:Nat}{fn}{spec:bj->Int->Option bj}(D:P.funcs[f]?=aa fn)(g:(fn.name == "runtime.NumGoroutine")=false)(E:fn.body.isSome=true)
  (F:∀s c y,spec s c=aa y->y.length<=maxLen) (h:∀s c w y,(i64).min<=c/\c<=(i64).max->s.data.toList.length<=maxLen->spec s.data.toList c=aa y ->Calls P f #[.string s,.int .i64 c] w λe w'=>e=.returned (.string ⟨y.toArray⟩)/\Below w.heap.size w w') :
  Holds P G f ⟨.pair .str<|.pair (.int .i64) .unit,.pair .str .unit,λx=>(spec x.1 x.2.1).map λy=>(y,())⟩ where
 body:=by obtain⟨m,r⟩:=Pb.1 E;exact⟨fn,m,D,g,r⟩
 calls:=by
  intro I w n x y J Q i j;obtain⟨s,c,u⟩:=x;obtain⟨z,v,rfl⟩:=Ho.1 j;obtain⟨R,A,t,p,K,k,q,l,d⟩:=i;obtain rfl:k=[]:=d;obtain⟨rfl,L⟩:=p;obtain⟨rfl,r⟩:=l;obtain rfl:n=#[.string ⟨s.toArray⟩,.int .i64 c]:=by apply Iv.1;rw[t,q];rfl
  refine(h ⟨s.toArray⟩ c w z r L v).mono ?_;rintro e w' ⟨rfl,C⟩;exact⟨_,I,rfl,C,λb o h=>h,λb o h=>Hq (J b o h) C.size,λb o M O=>absurd M O,[.string ⟨z.toArray⟩],⟨rfl,F _ _ _ v⟩,rfl⟩
end Go.Ge
namespace Go.Ge
open RowKit Go.Proofs Go.Shelf
def Any.acm s c:((Lib.countByte s.data.toList c:Nat):Int)=((Lib.countB s ⟨#[c]⟩:Nat):Int):=by show((s.data.toList.count c):Int)=((Lib.count s.data.toList [c]):Int);rw[Lib.count_one]
set_option maxHeartbeats 1000000 in
def Any.HL{P ρ}(L:Lays.n146 P ρ)(k:(P.info?<|ρ.t 9).map (λi=>(i.zero,i.size,i.bytes))=aa (aa<|.string ByteArray.empty,1,16)) s b w
  (n:s.size<4294967281) : Calls P (ρ.f 146) #[.string s,.string ⟨#[b]⟩] w λe w' =>e=.returned (.slice (aa ⟨w.heap.size,0,af⟩) (Lib.countB s ⟨#[b]⟩+1)<|Lib.countB s ⟨#[b]⟩+1)/\w'=w.alloc (.cells ((Lib.splitB ⟨#[b]⟩ 0 (Lib.countB s ⟨#[b]⟩) s).map Value.string).toArray<|ρ.t 9):=by
 have j:1<=(⟨#[b]⟩:ByteArray).size:=b8 _;generalize d:(⟨#[b]⟩:ByteArray)=sep at j;have o:=Lib.countB_le sep j s.size s (b8 _);have hlen:=Lib.splitB_all sep j 0 _ s rfl;have c:=Proofs.Any.strings_genSplit_core { L with } k s sep 0 (-1) (Lib.countB s sep+1) w n j (qh _)
  (λx c p=>by subst d;refine(Proofs.Any.strings_Index_one { L with } x b _).mono λe w' ⟨l,g⟩=>⟨?_,g⟩;rw[l];show _=Ending.returned (Value.int .i64<|Lib.index x.data.toList [b]);rw[Lib.index_one])
  (by subst d;refine(Proofs.Any.strings_Count_one { L with } s b w).mono λe w' ⟨l,g⟩=>⟨?_,g⟩;rw[l,Any.acm])
  aI aI ai
 have q:Lib.cellsOf (Lib.splitB sep 0 (Lib.countB s sep) s) (Lib.countB s sep+1)=((Lib.splitB sep 0 (Lib.countB s sep) s).map Value.string).toArray:=by rw[<-hlen];apply Lib.cellsOf_full
 have m:∀h w,(callFunc _ h).run P w=.ok _ w:=enters_of L.f221 (by kernel_rfl) rfl
 go_enter L.f146,Body.n146_ntmps ρ
 go_wp2_with (go_at_fn (ρ.f 221);refine c.mono ?_;rintro e w' ⟨rfl,g⟩;rw[g])
 go_ret
 exact⟨rfl,rfl⟩
def FP(s c:bj):Option (List bj):=match c with|[b]=>if s.length<4294967281 then aa (Lib.split s [b]) else af|_=>af
def afH sep:∀k s x,x∈Lib.splitK sep 0 k s->x.length<=s.length:=by intro k;induction k with|zero=>intro s x h;simp[Lib.splitK] at h;rw[h];apply b8|succ k b =>intro s x h;unfold Lib.splitK at h;split at h;{simp at h;rw[h];apply b8};rcases eK.1 h with h|h;{rw[h,cY];omega};have:=b _ _ h;rw[qo] at this;omega
def Zk{P G}{f r:Nat}{fn}(U:P.funcs[f]?=aa fn)(g:(fn.name == "runtime.NumGoroutine")=false)(V:fn.body.isSome=true)
  (h:∀s b w,s.size<4294967281->Calls P f #[.string s,.string ⟨#[b]⟩] w λe w' =>e=.returned (.slice (aa ⟨w.heap.size,0,af⟩) (Lib.countB s ⟨#[b]⟩+1)<|Lib.countB s ⟨#[b]⟩+1)/\w'=w.alloc (.cells ((Lib.splitB ⟨#[b]⟩ 0 (Lib.countB s ⟨#[b]⟩) s).map Value.string).toArray r)) :
  Holds P G f ⟨.pair .str<|.pair .str .unit,.pair (.slice .str) .unit,λx=>(FP x.1 x.2.1).map λy=>(y,())⟩ where
 body:=by obtain⟨t,W⟩:=Pb.1 V;exact⟨fn,t,U,g,W⟩
 calls:=by
  intro I w A x y X hG k l;obtain⟨s,m,u⟩:=x;change bj at s;change bj at m;obtain⟨z,n,rfl⟩:=Ho.1 l;change FP s m=aa z at n;have C:∃b,m=[b]/\s.length<4294967281/\z=Lib.split s [b]:=by
   unfold FP at n;split at n
   .rename_i b;split at n
    .rename_i L;exact⟨b,rfl,L,(aU n).symm⟩
    .cases n
   .cases n
  obtain⟨b,rfl,L,rfl⟩:=C;obtain⟨cs,Q,M,D,Y,p,E,q,c⟩:=k;obtain rfl:p=[]:=c;obtain⟨rfl,O⟩:=D;obtain⟨rfl,_⟩:=q;obtain rfl:A=#[.string ⟨s.toArray⟩,.string ⟨#[b]⟩]:=by
   apply Iv.1;rw[M,E];rfl
  refine(h ⟨s.toArray⟩ b w<|by show s.toArray.size<_;simpa using L).mono ?_;rintro e w' ⟨rfl,rfl⟩;have d:=Lib.splitB_data ⟨#[b]⟩ 0 (Lib.countB ⟨s.toArray⟩ ⟨#[b]⟩) ⟨s.toArray⟩;have hlen:=Lib.splitB_all ⟨#[b]⟩ (b8 _) 0 _ ⟨s.toArray⟩ rfl;generalize Z:Lib.splitB ⟨#[b]⟩ 0 _ ⟨s.toArray⟩=R at d hlen;have hd:R.map _=Lib.split s [b]:=d;have hn:(Lib.split s [b]).length=Lib.countB ⟨s.toArray⟩ ⟨#[b]⟩+1:=by rw[<-hd,qg,hlen]
  have F:Lib.countB ⟨s.toArray⟩ ⟨#[b]⟩+1<=maxLen:=by
   have:=Lib.countB_le ⟨#[b]⟩ (b8 _) s.length ⟨s.toArray⟩ (by show s.toArray.size<=_;simp);have e:(⟨s.toArray⟩:ByteArray).size=s.length:=by show s.toArray.size=_;simp
   have:4294967281<=maxLen:=aI;omega
  refine⟨_,λb o=>I b o\/b=w.heap.size,rfl,(Below.refl _ _).alloc (b8 _) _,λb o h=>.inl h,λb o h=>?_,λb o K h2=>?_,?_⟩
  .have hsz:(w.alloc<|.cells (R.map Value.string).toArray r).heap.size=w.heap.size+1:=aW;rcases h with h|h
   .have:=X b o h;omega
   .omega
  .rcases K with K|K
   .exact absurd K h2
   .omega
  .refine⟨[.slice _ _ _],?_,rfl⟩;refine .inr ⟨w.heap.size,0,Lib.countB ⟨s.toArray⟩ ⟨#[b]⟩+1,?_,?_,F,λi x S=>?_⟩
   .show _=[Value.slice _ (Lib.split s [b]).length _]
    rw[hn]
   .show(Lib.split s [b]).length<=_
    omega
   .have J:(Lib.split s [b])[i]?=aa x:=S;rw[<-hd,B7] at J;obtain⟨y,hy,rfl⟩:=Ho.1 J;refine⟨[.string y],rfl,λj v T=>?_,?_⟩
    .cases j with
     | succ j=>cases T
     | zero =>
       obtain rfl:=aU T;simp[Ty.size,hy]
    .refine⟨?_,?_⟩
     .have:=(Lib.mk_data y).symm;rw[<-this]
     .have hm:=kG S;have:=afH _ _ _ _ hm;exact gS this O
def HM(l:List bj)(b:bj):Option bj:=if l.length<=140737488355328/\(Lib.join l b).length<=140737488355328 then aa (Lib.join l b) else af
def acn{P G}{f:Nat}{fn}(hP:P.funcs[f]?=aa fn)(t:(fn.name == "runtime.NumGoroutine")=false)(hb:fn.body.isSome=true)
  (Y:∀a c d w,Calls P f #[.slice a 0 c,.string d] w λe w'=>e=.returned (.string ⟨#[]⟩)/\w'=w) (h:∀V o c (L:List ByteArray) d w,
  (∀j x,L[j]?=aa x->w.cell? ⟨V,o+j,af⟩=aa (.string x))->(V<w.heap.size)->(L.length<=140737488355328)->(L.length<=c) ->((Lib.join (L.map (·.data.toList)) d.data.toList).length<=140737488355328) ->Calls P f #[.slice (aa ⟨V,o,af⟩) L.length c,.string d] w λe w'=>e=.returned (.string ⟨(Lib.join (L.map (·.data.toList)) d.data.toList).toArray⟩)/\Below w.heap.size w w') :
  Holds P G f ⟨.pair (.slice .str)<|.pair .str .unit,.pair .str .unit,λx=>(HM x.1 x.2.1).map λy=>(y,())⟩ where
 body:=by
  obtain⟨M,W⟩:=Pb.1 hb;exact⟨fn,M,hP,t,W⟩
 calls:=by
  intro I w n x y Z hG A C;obtain⟨l,d,u⟩:=x;obtain⟨z,R,rfl⟩:=Ho.1 C;unfold HM at R;split at R;case isFalse=>cases R
  rename_i g;obtain⟨D,g⟩:=g;obtain rfl:=aU R;obtain⟨cs,rest,O,Q,cs2,E,p,F,k⟩:=A;obtain rfl:E=[]:=k;obtain⟨rfl,hsm⟩:=F;have fin:∀{v},cs=[v]->∀{w'},Below w.heap.size w w'->∀{e:Ending},e=.returned (.string ⟨(Lib.join l d).toArray⟩) ->
    ∃v S,e=.returned v/\Below w.heap.size w w'/\(∀b o,I b o->S b o)/\(∀b o,S b o->b<w'.heap.size)/\(∀b o,S b o->¬I b o->w.heap.size<=b)/\nG w' S (.pair .str .unit) (Lib.join l d,()) v:=by
   intro v _ w' T e he;exact⟨_,I,he,T,λb o h=>h,λb o h=>Hq (Z b o h) T.size,λb o h1 h2=>absurd h1 h2,[.string ⟨(Lib.join l d).toArray⟩],⟨rfl,(gS g aI)⟩,rfl⟩
  rcases Q with ⟨⟨q,rfl⟩,hl⟩|⟨J,K,m,rfl,s,alc,X⟩
  .obtain rfl:l=[]:=hl;obtain rfl:n=#[.slice q 0 0,.string ⟨d.toArray⟩]:=by
    apply Iv.1;rw[O,p];rfl
   refine(Y q 0 ⟨d.toArray⟩ w).mono ?_;rintro e w' ⟨rfl,rfl⟩;exact fin rfl (Below.refl _ _) rfl
  .change l.length<=m at s;obtain rfl:n=#[.slice _ l.length m,.string ⟨d.toArray⟩]:=by
    apply Iv.1;rw[O,p];rfl
   cases l with
   | nil =>
     refine(Y _ m ⟨d.toArray⟩ w).mono ?_;rintro e w' ⟨rfl,rfl⟩;exact fin rfl (Below.refl _ _) rfl
   | cons a r =>
     have i:∀j x,(a::r)[j]?=aa x->w.cell? ⟨J,K+j,af⟩=aa (.string ⟨x.toArray⟩)/\I J (K+j):=by
      intro j x U;obtain⟨es,he,W,hr⟩:=X j x U;obtain⟨rfl,_⟩:=hr;have:=W 0 _ rfl;simpa [Ty.size] using this
     have e1:((a::r).map λx=>(⟨x.toArray⟩:ByteArray)).map (·.data.toList)=a::r:=by
      rw[Yl];exact List.map_id'' (λx=>rfl) _
     have:=h J K m _ ⟨d.toArray⟩ w (λj x U=>by
      rw[B7] at U;obtain⟨y,hy,rfl⟩:=Ho.1 U;exact(i j y hy).1) (Z _ _ (i 0 a rfl).2) (by rw[qg];exact D) (by rw[qg];exact s) (by rw[e1];exact g)
     rw[e1,qg] at this;refine this.mono ?_;rintro e w' ⟨rfl,T⟩;exact fin rfl T rfl
end Go.Ge
namespace Go.Ge
open RowKit
def Holds.weaken{P G f A R spec b}(h:Holds P G f ⟨A,R,spec⟩)(d:∀x y,b x=aa y->spec x=aa y):Holds P G f ⟨A,R,b⟩ where
 body:=h.body
 calls:=λI w c x y e g i j=>h.calls I w c x y e g i (d x y j)
end Go.Ge
namespace Go.Ge
open RowKit Go.Sort Go.Proofs
def l8.mk'{w w' I X}(c:w'.os=w.os)(f:w'.tape=w.tape)(g:w'.output=w.output)(d:w.heap.size<=w'.heap.size)
  (i:∀k,k<w.heap.size->¬X k->w'.heap[k]?=w.heap[k]?) (j:∀b o,I b o->b<w.heap.size):l8 w I X w' I where
 below:=⟨c,f,g,d,λk e=>i k (Ye λq=>e (.inl q)) λq=>e (.inr q)⟩
 held:=λ_ _ h=>h
 xd:=λb o h=>Hq (j b o h) d
 s9:=λb o h k=>absurd h k
def Ti{b:Type}{L:List b}{i y}(h:L[i]?=aa y):(L.drop i).take 1=[y]:=by obtain⟨c,d⟩:=ga.1 h;rw[zm c];simp[d]
def Zl{w I}{l:List bj}{blk cur tid g}(h:w.heap[blk]?=aa (.cells cur tid g))(d:oA cur g)(k:l.length<=cur.size)
  (e:∀(i:Nat) x,l[i]?=aa x->bZ w I .str x ((cur.toList.drop<|i*(Ty.str).size).take (Ty.str).size)):Sort.Holds encStr w blk 0 l.toArray:=by
 intro j m;have b:j<l.length:=by simpa using m
 obtain⟨n,p⟩:=e j l[j] (gQ b);have o:cur[j]?=aa (Value.string ⟨(l[j]).toArray⟩):=by
  have:((cur.toList.drop<|j*1).take 1)[0]?=aa (Value.string ⟨(l[j]).toArray⟩):=by have f:(cur.toList.drop<|j*1).take 1=_:=n;rw[f];rfl
  simpa using this
 have c:l.toArray[j]! = l[j]:=by simp[b]
 refine⟨?_,?_⟩
 .rw[c];simp only[World.cell?,h,Gq];exact o
 .have:=d j ai;simp only[World.frozen?,h];simp at this;simp;exact this
def aek{w w' I}(E:∀b o,I b o->b<w.heap.size){l l':List bj}{blk cap cur tid t}(C:w.heap[blk]?=aa (.cells cur tid t))(u:ThB .str cur t)
  (f:cur.size=cap*(Ty.str).size) (j:∀o,¬I blk o) {d:List bj} (Q:d.length=l.length) (F:l.length<=cap) (p:cap<=maxLen) (v:l'.length<=l.length) (q:∀(i:Nat) x,l'[i]?=aa x->d[i]?=aa x/\List.length x<=maxLen) {n os} (r:w'=grow (putRow encStr (Sort.ahead w n) blk 0 d.toArray) os) : l8 w I (λk=>∃c,aa (blk,cap)=aa (k,c)) w' I/\zF w' I .str l' (aa (blk,cap)) (.slice (aa ⟨blk,0,af⟩) l'.length cap):=by
 have anf:w'.heap.size=w.heap.size+os.size:=by rw[r];simp
 have g:∀k,k<w.heap.size->w'.heap[k]?=if k=blk then aa (.cells (putCells encStr 0 d.toArray cur) tid t) else w.heap[k]?:=by intro k y;subst r;simp only[grow,putRow,mapBlock];rw[amU<|by simpa using y,X5];by_cases e:blk=k;{subst e;simp[C,onCells]};simp[e,Pr e]
 have h:=g blk ((A9.1 C).1);rw[aN rfl] at h;have G:l8 w I (λk=>∃c,aa (blk,cap)=aa _) w' I:=l8.mk' (by rw[r];rfl) (by rw[r];rfl) (by rw[r];rfl) ai (λk y J=>by rw[g k y,aK λe=>J ⟨cap,by rw[e]⟩]) E
 refine⟨G,.inr ⟨blk,cap,putCells encStr 0 d.toArray cur,tid,t,rfl,rfl,h,u.same (by simp[putCells]),gS v F,p,by simp[putCells,f],j,λi x D=>?_⟩⟩;obtain⟨s,K⟩:=q i x D;have L:i<l'.length:=(ga.1 D).1;have m:i<d.length:=ai;have z:i<cur.size:=by rw[f];show i<cap*1;omega
 have M:(putCells encStr 0 d.toArray cur)[i]?=aa (.string ⟨x.toArray⟩):=by
  have A:d[i]=x:=by rw[gQ m] at s;exact aU s
  have O:d.toArray[i]! = d[i]:=by simp[m]
  rw[show _[i]?=aa (encStr d.toArray[i]!) from by simp[putCells,z,m],O,A]
 have:((putCells encStr 0 d.toArray cur).toList.drop<|i*(Ty.str).size).take (Ty.str).size=[.string ⟨x.toArray⟩]:=by show((putCells encStr 0 d.toArray cur).toList.drop<|i*1).take 1=_;exact Ti (by simpa using M)
 exact⟨this,K⟩
def xf(l:List bj):List bj:=l.mergeSort λx y=>decide (x<=y)
def afI:xf []=[]:=by simp[xf]
def UQ l:(xf l).length=l.length:=by simp[xf]
def aiZ{P}{f:Nat}{fn}(U:P.funcs[f]?=aa fn)(V:(fn.name == "runtime.NumGoroutine")=false)(u:fn.body.isSome=true)
  (W:∀blk off cap (t:List bj) w,Sort.Holds encStr w blk off t.toArray->blk<w.heap.size->t.length<4611686018427387904 ->Calls P f #[.slice (aa ⟨blk,off,af⟩) t.length cap] w λe w'=>e=.returned (.tuple #[])/\∃n F,w'=grow (putRow encStr (Sort.ahead w n) blk off (t.mergeSort λx y=>decide (x<=y)).toArray) F)
  (X:∀p cap w,Calls P f #[.slice p 0 cap] w λe w'=>e=.returned (.tuple #[])/\w'=w) : e8 P f (.own .str .unit false λl _=>bif fits (len (α:=bj) l) then aa (xf l) else af):=by
 obtain⟨m,u⟩:=Pb.1 u;refine⟨⟨fn,m,U,V,u⟩,λI w o v q l G L x J h r k b=>?_⟩;change List bj at l;obtain rfl:q=[]:=k;have d:o=#[v]:=by apply Iv.1;rw[h]
 subst d;have c:fits (len l)=true/\G=xf l:=by change (bif fits _ then aa _ else af)=aa G at b;cases K:fits _ with|true=>rw[K] at b;exact⟨rfl,(aU b).symm⟩|false=>rw[K] at b;cases b
 obtain⟨c,rfl⟩:=c;have hlen:=I5 c;rcases r with ⟨rfl,rfl,rfl⟩|⟨blk,cap,z,tid,fr,rfl,rfl,A,M,O,Y,Q,Z,R⟩
 .refine(X af 0 w).mono λe w' s=>?_;obtain⟨rfl,rfl⟩:=s;exact⟨I,l8.mk' rfl rfl rfl (b8 _) (λ_ _ _=>rfl) J,rfl,UQ [],.inl ⟨rfl,afI,rfl⟩⟩
 .have C:List.length l<=cap:=O;have D:z.size=cap*1:=Q;refine(W blk 0 cap l w (Zl A M.th (by rw[D,Pq];exact C) R) (A9.1 A).1 ai).mono λe w' s=>?_;obtain⟨rfl,n,F,s⟩:=s;have g:(xf l).length=l.length:=by simp[xf]
  obtain⟨k1,S⟩:=aek J A M Q Z (l':=xf l) g O Y (GI g) (λi x T=>⟨T,by (have E:x∈l:=by simpa [xf] using(kG T));obtain⟨j,hj⟩:=Ur.1 E;exact(R j x hj).2⟩) s
  rw[g] at S;exact⟨I,k1,rfl,g,S⟩
def Zm{P}{f:Nat}{fn}(W:P.funcs[f]?=aa fn)(X:(fn.name == "runtime.NumGoroutine")=false)(F:fn.body.isSome=true)
  (Y:∀k o g m w,Sort.Holds encStr w k o m.toArray->m.length<=9223372036854775807->m.length<=g ->Calls P f #[.slice (aa ⟨k,o,af⟩) m.length g] w λe w'=>e=.returned (.slice (aa ⟨k,o,af⟩) (Lib.compact m).length g)/\∃q,w'=putRow encStr (Sort.ahead w q) k o (Lib.compact m++List.replicate (m.length-(Lib.compact m).length) []).toArray)
  (Z:∀a g w,Calls P f #[.slice a 0 g] w λe w'=>e=.returned (.slice a 0 g)/\w'=w) (p:∀m:List bj,(Lib.compact m).length<=m.length/\∀x∈Lib.compact m,x∈m) : e8 P f (.own .str .unit true λl _=>aa (Lib.compact (α:=bj) l)):=by
 obtain⟨y,F⟩:=Pb.1 F;refine⟨⟨fn,y,W,X,F⟩,λI w z v A l l' L x Q s C t u=>?_⟩;change List bj at l;obtain rfl:A=[]:=t;have r:z=#[v]:=by apply Iv.1;rw[s]
 subst r;obtain rfl:Lib.compact l=l':=aU u;rcases C with ⟨rfl,rfl,rfl⟩|⟨k,g,G,tid,fr,rfl,rfl,R,S,E,T,U,q8,V⟩
 .refine(Z af 0 w).mono λe w' D=>?_;obtain⟨rfl,rfl⟩:=D;exact⟨I,l8.mk' rfl rfl rfl (b8 _) (λ_ _ _=>rfl) Q,_,af,rfl,.inl ⟨rfl,(Am.1<|Nat.le_zero.1 (p []).1),rfl⟩,λ_ _ h=>by cases h⟩
 .have J:List.length l<=g:=E;have K:G.size=g*1:=U;refine(Y k 0 g l w (Zl R S.th (by rw[K,Pq];exact J) V) (gS E T) E).mono λe w' D=>?_;obtain⟨rfl,n,D⟩:=D;obtain⟨k1,k2⟩:=aek Q R S U q8 (l':=Lib.compact l) (d:=Lib.compact l++List.replicate (l.length-(Lib.compact l).length) []) (by have:=(p l).1;simp;omega) E T (p l).1 (λi x M=>⟨by
    rw[X3 (ga.1 M).1];exact M,by
   have O:x∈l:=(p l).2 x (kG M);obtain⟨j,hj⟩:=Ur.1 O;exact(V j x hj).2⟩) (n:=n) (os:=#[]) (w':=w') (by rw[D];simp)
  exact⟨I,k1,_,_,rfl,k2,λb c h=>.inl ⟨c,h⟩⟩
def aco(b:List bj):(Lib.compact b).length<=b.length/\∀x∈Lib.compact b,x∈b:=by
 constructor
 {unfold Lib.compact Lib.compactUpTo;rw[qg];exact gS (X6 _ _) aW};intro x c;unfold Lib.compact Lib.compactUpTo at c;rw[Bc] at c;obtain⟨j,e,rfl⟩:=c;have d:j<b.length:=Iz.1 (B8.1 e).1;simp[d]
end Go.Ge
