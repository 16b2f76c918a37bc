/- A ghost interpreter of the model's code, and that it tells the truth: part 10. It says of a function of plain data what a call of it comes to. -/
import Derived.Test.YtbaijbjhkmoidaaGreatDoorGeI
import Derived.ProofKit
import Derived.Lib.LazyBuf
import Derived.Lib.Bytealg
import Derived.Shelf.Strings.SplitCore
import Derived.Shelf.Strings.Search3
import Derived.Shelf.Strings.Count
import Derived.Lib.SplitLaws
import Derived.Lib.Join
import Derived.Lib.IndexBytes
import Derived.Shelf.Strconv.Itoa3
import Derived.Shelf.Strconv.ErrVarParseInt
import Derived.Lib.AppendIntMem
import Derived.Lib.ItoaLen
import Derived.Lib.LaidTab
import Derived.LaidSub
set_option linter.unusedSectionVars false
set_option linter.unusedVariables false
set_option linter.unusedSimpArgs false
open Go.IntKind (i64)
namespace Go.Ge
variable [Lp]
open RowKit
section
variable {P:Program} {B:Own} {N:Nat} {γ:Gh} {σ:St} {a:Act} {w:World} {cx:Ctx}
theorem BN{d:Nat->Option aS}{I:Nat->Nat->Prop}{e:Nat->Option (Nat×Nat)}:∀{A:Ty} {x:A.den} {b:List Value},fe w I A x b->gk ⟨I,e⟩ d w (ur A x) b:=by
 intro A;induction A with
 | pair t r k f =>
   intro x b h;obtain⟨l,g,rfl,m,n⟩:=h;have:=f n;refine⟨by simp[ur,this.1],λi v y c j=>?_⟩;cases i with
   | zero =>
     obtain rfl:=aq c;obtain rfl:=aq j;exact⟨l,m,rfl⟩
   | succ i=>exact this.2 i v y (by simpa [ur] using c) (by simpa using j)
 | unit=>intro x b h;rw[show b=[] from h];exact⟨rfl,λi v y c=>by cases c⟩
 | _=>intro x b h;exact h.elim
theorem DK(j:aO B γ σ.mem w){g:Nat->Nat->Prop}(k:∀b o,γ.I b o->g b o)(h:∀b o,B.has b->b<w.heap.size->g b o):∀{R:Ty} {y:R.den} {u:ax} {d:List Value},
  bw γ σ.mem w u .many d->ef σ R (sU u)=some y->bw ⟨g,λ_=>none⟩ (λ_=>none) w (p9 R y) .many d:=by
 intro R;induction R with
 | pair t r l i =>
   intro y u d e c;cases u with
   | mix p q =>
     obtain⟨v,f,rfl,m,n⟩:=e;simp only[sU,ef] at c;split at c
     .rename_i x z s A;obtain rfl:=aq c;obtain⟨C,D,E⟩:=ti j k h m s;exact⟨v,f,rfl,⟨C,D,by rw[E]⟩,i n A⟩
     .cases c
   | _=>cases c
 | unit =>
   intro y u d e c;cases u with
   | mix p q=>cases c
   | nl=>exact e
   | _=>exact(show False from e).elim
 | _=>intro y u d e c;cases u<;>cases c
theorem uM(l:aO B γ σ.mem w){i:Nat->Nat->Prop}(m:∀b o,γ.I b o->i b o)(f:∀b o,B.has b->b<w.heap.size->i b o){R:Ty}{y:R.den}{v:ax}{d:Value}
  (n:bw γ σ.mem w v .val [d]) (c:ef σ R (qf R v)=some y):ij w i R y d:=by
 have many:∀{R:Ty} {y:R.den},(kb R y=.pG (p9 R y))->(ef σ R (match v with|.pG v=>sU v|v=>[v])=some y)->(∀t,R≠.pair t .unit)->ij w i R y d:=by
  intro R y g c j;unfold ij;rw[g];have one:∀{p:ax},ef σ R [p]=some y->False:=by
   intro p h;cases R with
   | pair t r =>
     simp only[ef] at h;split at h
     .rename_i q;cases r with
      | unit=>exact j t rfl
      | _=>cases q
     .cases h
   | _=>cases h
  cases v with
  | pG u =>
    obtain⟨k,s,A⟩:=n;exact⟨k,s,DK l m f A c⟩
  | _=>exact(one c).elim
 cases R with
 | pair t r =>
   cases r with
   | unit =>
     simp only[qf,ef] at c;split at c
     .rename_i x z C G;obtain rfl:=aq c;obtain⟨D,E,F⟩:=ti l m f n C;exact⟨D,E,by rw[F]⟩
     .cases c
   | _=>exact many rfl (by cases v<;>exact c) (λt e=>by cases e)
 | _=>exact many rfl (by cases v<;>exact c) (λt e=>by cases e)
theorem Fm{d:Nat->Option aS}{I:Nat->Nat->Prop}{f:Nat->Option (Nat×Nat)}:∀{ps:List Bool} {A:Ty} {x:A.den} {b:List Value},GB w I ps A x b->gk ⟨I,f⟩ d w (z6 ps A x) b:=by
 intro ps;induction ps with
 | nil=>intro A x b h;cases A<;>first|(exact(show False from h).elim)|(rw[show b=[] from h];exact⟨rfl,λi v y c=>by cases c⟩)
 | cons p ps q =>
   intro A x b h;cases A<;>first|(exact(show False from h).elim)|skip
   rename_i t r;obtain⟨k,s,l,rfl,m,u,n⟩:=h;have:=q u;refine⟨by simp[z6,this.1],λi v y c o=>?_⟩;cases i with
   | zero =>
     obtain rfl:=aq c;obtain rfl:=aq o;cases p with
     | false=>exact⟨k,m,by rw[show s=_ from n]⟩
     | true =>
       obtain⟨g,j,e,z⟩:=n;exact⟨g,j,k,by rw[e],m,z⟩
   | succ i=>exact this.2 i v y (by simpa [z6] using c) (by simpa using o)
theorem DL(z:P.follows .mixedOrders=true)(S:df P cx)(C:jy P nA cx)(j:Al cx){kj:Nat->mc}{n f:Nat}{K:List Bool}{A R:Ty}{l:A.den->Option R.den}
  {D:Func} {m:Code} (E:find cx.fns f=some D) (d:D.body=some m) (p:R.flat=true) (h:∀x y,l x=some y->NJ cx n kj f K A R x=some y):ko P f (.look K A R l):=by
 refine⟨?_,p,?_⟩
 .have F:=j f D E;simp only[DI,d,cA,fO] at F;exact⟨D,m,S.fns f D E,F.1,d⟩
 .intro I w G x y T q s;have hs:=h x y s;unfold NJ at hs;obtain⟨r,L,u⟩:=bind_some hs;obtain⟨v,cm⟩:=r;have U:ef (eJ cm) R (qf R v)=some y:=by
   dsimp only at u;split at u
   .rename_i y' M;obtain rfl:=aq u;exact M
   .cases u
  have V:aO (ga nA w.heap.size) ⟨I,λ_=>none⟩ (λ_=>none) w :=
   { bD:=λb Q g=>g.elim
     base:=cU _
     boxes:=λb W t=>by cases t
     inj:=λb c J k k' t=>absurd rfl t
     fresh:=λb J k t=>absurd rfl t
     lX:=T
     sep:=λb W J k X t=>by cases t }
  obtain⟨_,i⟩:=qw z S C j n 0 f (ga nA w.heap.size) ⟨I,λ_=>none⟩ (λ_=>none) cm w (z6 K A x) G v rfl V (Fm q) L;refine i.mono λe w' Y=>?_;obtain⟨O,bc,rfl,m1,Z,r1⟩:=Y;exact⟨O,λb o=>bc.I b o\/(w.heap.size<=b/\b<w'.heap.size),rfl,Z.below.below,uM (σ:=eJ cm) m1 (λb o hi=>.inl hi) (λb o L u=>.inr ⟨jx.1 L,u⟩) r1 U⟩
theorem BO(C:P.follows .mixedOrders=true)(T:df P cx){G:eg}(D:jy P G cx)(m:Al cx){t:Nat->mc}{n f:Nat}{A R:Ty}{p:A.den->Option R.den}
  {E:Func} {q:Code} (F:find cx.fns f=some E) (i:E.body=some q) (h:∀x y,p x=some y->OI cx n t f A R x=some y):Holds P G f ⟨A,R,p⟩ where
 body:=by
  have J:=m f E F;simp only[DI,i,cA,fO] at J;exact⟨E,q,T.fns f E F,J.1,i⟩
 calls:=by
  intro I w K x y U V u z;have hs:=h x y z;unfold OI at hs;obtain⟨r,h1,s⟩:=bind_some hs;obtain⟨v,cm⟩:=r;have W:ef (eJ cm) R (qf R v)=some y:=by
   dsimp only at s;split at s
   .rename_i y' M;obtain rfl:=aq s;exact M
   .cases s
  have X:aO (ga G w.heap.size) ⟨I,λ_=>none⟩ (λ_=>none) w :=
   { bD:=λb Q g=>by
      obtain⟨o,h1,s⟩:=V b Q g;exact⟨λj=>by have:=jx.1 j;have:=(oc.1 h1).1;omega,o,h1,s⟩
     base:=cU _
     boxes:=λb Y j=>by cases j
     inj:=λb c L k k' j=>absurd rfl j
     fresh:=λb L k j=>absurd rfl j
     lX:=U
     sep:=λb Y L k Z j=>by cases j }
  obtain⟨_,l⟩:=qw C T D m n 0 f (ga G w.heap.size) ⟨I,λ_=>none⟩ (λ_=>none) cm w (ur A x) K v rfl X (BN u) h1;refine l.mono λe w' hw=>?_;obtain⟨O,bc,rfl,m1,S,r1⟩:=hw;refine⟨O,λb o=>bc.I b o\/(w.heap.size<=b/\b<w'.heap.size),rfl,S.below.below,λb o d=>.inl (S.I b o d),λb o d=>?_,λb o d hn=>?_,?_⟩
  .rcases d with d|d
   .exact m1.lX b o d
   .exact d.2
  .rcases d with d|d
   .exact jx.1 ((S.mo b o d).resolve_left hn)
   .exact d.1
  .exact uM (σ:=eJ cm) m1 (λb o d=>.inl d) (λb o h1 s=>.inr ⟨jx.1 h1,s⟩) r1 W
def ya(N M:List (Nat×Nat))(c:List Nat)(ls:List (Option<|Nat×Nat)):Nat->Option (Nat×Nat):=eT M ls (eT N (c.map λb=>some (b,0)) λ_=>none)
theorem Mi{I:Nat->Nat->Prop}{N M:List (Nat×Nat)}{d:List Nat}{b:List (Option<|Nat×Nat)}(c:(aF N M).Nodup)(e:M.length=b.length):ik ⟨I,ya N M d b⟩ M b:=by
 unfold aF at c;exact pr (wE.1 c).2.1 e
theorem Mj{I:Nat->Nat->Prop}{N M:List (Nat×Nat)}{c:List Nat}{ls:List (Option<|Nat×Nat)}(d:(aF N M).Nodup)(f:N.length=c.length):fo ⟨I,ya N M c ls⟩ N c:=by
 unfold aF at d;obtain⟨g,l,h⟩:=wE.1 d;have e:=pr (loc:=λ_=>none) g (ls:=c.map λb=>some (b,0)) (by simp[f]);unfold fo;have i:N.map (λp=>(ya N M c ls p.1).map (·.1))=(N.map λp=>eT N (c.map λb=>some (b,0)) (λ_=>none) p.1).map (Option.map (·.1)):=by
  rw[zX];refine Cv λp j=>?_;show(eT M ls _ p.1).map _=_
  rw[sf λk=>h p.1 (lY.2 ⟨p,j,rfl⟩) p.1 k rfl];rfl
 exact i.trans (by rw[e,zX];rfl)
theorem Ks{N M:List (Nat×Nat)}{z:List Nat}{t:List (Option<|Nat×Nat)}(J:fo γ N z)(K:ik γ M t)(F:(bL z t).Nodup){b c d k O:Nat}(f:b∈aF N M)(m:c∈aF N M)
  (A:γ.loc b=some (d,k)) (C:γ.loc c=some (d,O)):b=c:=by
 unfold bL at F;obtain⟨Q,R,G⟩:=wE.1 F;have Kt:∀{b k},b∈N.map (·.1)->γ.loc b=some (d,k)->∃i v:Nat,N[i]?=some (b,v)/\z[i]?=some d:=by
  intro b k f e;obtain⟨p,D,rfl⟩:=lY.1 f;obtain⟨i,u,g⟩:=Gi D;refine⟨i,p.2,by rw[nP u,g],?_⟩;have:=congrArg (λl=>l[i]?) J;simp only[sH,nP u,g,sI,e] at this;cases I:z[i]? with
  | none=>rw[I] at this;cases this
  | some x=>rw[I] at this;simp at this;rw[this]
 have mE:∀{b k},b∈M.map (·.1)->γ.loc b=some (d,k)->∃i v:Nat,M[i]?=some (b,v)/\t[i]?=some (some (d,k)):=by
  intro b k f e;obtain⟨p,D,rfl⟩:=lY.1 f;obtain⟨i,u,g⟩:=Gi D;refine⟨i,p.2,by rw[nP u,g],?_⟩;rw[<-K,sH,nP u,g,sI,e]
 have n:∀{i k:Nat},t[i]?=some (some (d,k))->d∈t.filterMap λL=>L.map (·.1):=λh=>Hh.2 ⟨_,od h,rfl⟩;unfold aF at f m;rcases lW.1 f with f|f<;>rcases lW.1 m with m|m
 .obtain⟨i,v,y,o⟩:=Kt f A;obtain⟨j,E,q,r⟩:=Kt m C;have s:i=j:=(List.getElem?_inj (sE.1 o).1 Q).1 (o.trans r.symm);subst s;rw[y] at q;exact(b8<|aq q).1
 .obtain⟨i,v,y,o⟩:=Kt f A;obtain⟨j,E,q,r⟩:=mE m C;exact absurd rfl (G d (od o) d<|n r)
 .obtain⟨i,v,y,o⟩:=mE f A;obtain⟨j,E,q,r⟩:=Kt m C;exact absurd rfl (G d (od r) d<|n o)
 .obtain⟨i,v,y,o⟩:=mE f A;obtain⟨j,E,q,r⟩:=mE m C;have s:=J5 R o r;subst s;rw[y] at q;exact(b8<|aq q).1
theorem yb{k:Nat}:∀{n:Nat},(ig k n).length=n:=by
 intro n;induction n generalizing k with
 | zero=>rfl
 | succ n b=>simp[ig,b]
theorem yc{k:Nat}:∀{n:Nat},(j8 k n).length=n:=by
 intro n;induction n generalizing k with
 | zero=>rfl
 | succ n b=>simp[j8,b]
theorem HU:∀{a k b:Nat},(ig k<|a+b).drop a=ig (k+a) b:=by
 intro a;induction a with
 | zero=>intro k b;rw[kL];rfl
 | succ a c =>
   intro k b;rw[show a+1+b=(a+b)+1 by omega];show(ig (k+1)<|a+b).drop a=_
   rw[c,show k+1+a=k+(a+1) by omega]
theorem HV:∀{a k b:Nat},(j8 k<|a+b).drop a=j8 (k+a) b:=by
 intro a;induction a with
 | zero=>intro k b;rw[kL];rfl
 | succ a c =>
   intro k b;rw[show a+1+b=(a+b)+1 by omega];show(j8 (k+1)<|a+b).drop a=_
   rw[c,show k+1+a=k+(a+1) by omega]
def BP:OT->Nat->ax
 | .pair .cB U,k=>.mix .cB (BP U k)
 | .pair o U,k=>.mix (.ptr (sV k) 0 []) (BP U<|k+o.nr)
 | _,_=>.data .unit ()
theorem Fo{j:Nat->Option aS}:∀{ps:List Bool} {A:Ty} {U:OT} {x:A.den} {u:U.den} {s iy:List Value} {k m:Nat},xv w γ.I ps A U x s iy->bw γ j w (ru U u (ig k U.nr)<|j8 m U.nb) .cells iy ->
  gk γ j w (pI ps U A x k) s/\ru U u (ig k U.nr) (j8 m U.nb)=BP U k:=by
 intro ps;induction ps with
 | nil =>
   intro A U x u s iy k m h R;obtain⟨_,rfl,rfl,_⟩:=h;exact⟨⟨rfl,λi v y d=>by cases d⟩,rfl⟩
 | cons p ps C =>
   intro A U x u s iy k m h l;cases p with
   | false =>
     cases A<;>first|(exact(show False from h).elim)|skip
     rename_i t A;obtain⟨M,f,rfl,n,O⟩:=h;obtain⟨c,q⟩:=C O l;refine⟨⟨by simp[pI,c.1],λi v y d g=>?_⟩,q⟩;cases i with
     | zero =>
       obtain rfl:=aq d;obtain rfl:=aq g;exact⟨M,n,rfl⟩
     | succ i=>exact c.2 i v y (by simpa [pI] using d) (by simpa using g)
   | true =>
     cases U<;>first|(exact(show False from h).elim)|skip
     rename_i o U;cases o<;>first|(exact(show False from h).elim)|skip
     case cB =>
      obtain⟨D,f,r,rfl,rfl,n⟩:=h;have E:ru (.pair .cB U) u (ig k (OT.pair .cB U).nr) (j8 m (OT.pair .cB U).nb)=.mix .cB (ru U u.2 (ig k U.nr)<|j8 m U.nb):=by
       show ax.mix .cB (ru U u.2 ((ig k<|0+U.nr).drop 0)<|(j8 m<|0+U.nb).drop 0)=_
       rw[kL,kL];rfl
      rw[E] at l⊢;obtain⟨F,Q,G,z,J⟩:=l;have K:F=[.pointer none]:=z;subst K;obtain⟨rfl,rfl⟩:=Gq G;obtain⟨c,q⟩:=C n J;refine⟨⟨by simp[pI,c.1],λi L y d g=>?_⟩,?_⟩
      .cases i with
       | zero =>
         obtain rfl:=aq d;obtain rfl:=aq g;exact rfl
       | succ i=>exact c.2 i L y (by simpa [pI] using d) (by simpa using g)
      .rw[q];rfl
     rename_i tid o;obtain⟨D,f,r,rfl,rfl,n⟩:=h;have E:ru (.pair (.ref tid o) U) u (ig k (OT.pair (.ref tid o) U).nr) (j8 m (OT.pair (.ref tid o) U).nb)=.mix (.ptr (sV k) 0 []) (ru U u.2 (ig (k+(OT.ref tid o).nr) U.nr)<|j8 (m+(OT.ref tid o).nb) U.nb):=by
      rw[<-HU,<-HV];show ax.mix (ru (.ref tid o) u.1 _ _) _=_
      congr 1
      show(match(ig k<|o.nr+1+U.nr).take (o.nr+1) with|(b,v)::_=>ax.ptr b v []|[]=>.undef)=_
      rw[show o.nr+1+U.nr=(o.nr+U.nr)+1 by omega];rfl
     rw[E] at l⊢;obtain⟨F,Q,G,z,J⟩:=l;obtain⟨v,rfl⟩:∃v,F=[v]:=by obtain⟨⟨v,e,_⟩,_⟩:=z;exact⟨v,e⟩
     obtain⟨rfl,rfl⟩:=Gq G;obtain⟨c,q⟩:=C n J;refine⟨⟨by simp[pI,c.1],λi L y d g=>?_⟩,?_⟩
     .cases i with
      | zero =>
        obtain rfl:=aq d;obtain rfl:=aq g;exact z
      | succ i=>exact c.2 i L y (by simpa [pI] using d) (by simpa using g)
     .rw[q];rfl
theorem Fq{b:Nat->Option aS}:∀{U:OT} {k:Nat} {u:U.den} {N M:List (Nat×Nat)},wZ b U k=some (u,N,M)->bE b U (BP U k)=some (u,N,M):=by
 intro U;induction U with
 | pair o U _ c =>
   intro k u N M h;cases o
   case cB =>
    unfold wZ at h;split at h
    .rename_i i e f d;cases h;exact oE (p:=.cB) (q:=U) (x:=()) (N:=[]) (M:=[]) rfl (c d)
    .cases h
   all_goals
    unfold wZ at h;split at h
    .rename_i x e f y j l g d;cases h;exact oE g (c d)
    .cases h
 | unit=>intro k u N M h;cases h;rfl
 | _=>intro k u N M h;cases h
theorem HW:∀{a b:List (Nat×Nat)},A1 a b=true->a=b:=by
 intro a;induction a with
 | nil=>intro b h;cases b with|nil=>rfl|cons _ _=>cases h
 | cons p r c =>
   intro b h;obtain⟨x,y⟩:=p;cases b with
   | nil=>cases h
   | cons q s =>
     obtain⟨z,v⟩:=q;simp only[A1,cA] at h;rw[cG h.1.1,cG h.1.2,c h.2]
theorem HX:∀{n k:Nat} {p:Nat×Nat},p∈ig k n->p.2=0:=by
 intro n;induction n with
 | zero=>intro k p h;cases h
 | succ n b =>
   intro k p h;rcases eR.1 h with rfl|h
   .rfl
   .exact b h
theorem BQ:∀{a b:List Nat},a.map some=b.map some->a=b:=by
 intro a;induction a with
 | nil=>intro b h;cases b with|nil=>rfl|cons _ _=>cases h
 | cons x r c =>
   intro b h;cases b with
   | nil=>cases h
   | cons y s =>
     simp only[fY,yY,j7] at h;rw[h.1,c h.2]
theorem Ft{c:Nat->Option aS}:∀{u:ax} {b:List Value},bw γ c w u .many b->gk γ c w (sU u) b:=by
 intro u;induction u with
 | mix p q g e =>
   intro b h;obtain⟨v,r,rfl,j,k⟩:=h;have:=e k;refine⟨by simp[sU,this.1],λi l y d f=>?_⟩;cases i with
   | zero =>
     obtain rfl:=aq d;obtain rfl:=aq f;exact j
   | succ i=>exact this.2 i l y (by simpa [sU] using d) (by simpa using f)
 | nl=>intro b h;rw[show b=[] from h];exact⟨rfl,λi v y d=>by cases d⟩
 | _=>intro b h;exact(show False from h).elim
theorem Fu{I:Nat->Nat->Prop}:∀{R:Ty} {y:R.den} {b:List Value},fe w I R y b->bw ⟨I,λ_=>none⟩ (λ_=>none) w (p9 R y) .many b:=by
 intro R;induction R with
 | pair t r e d =>
   intro y b h;obtain⟨f,c,rfl,g,i⟩:=h;exact⟨_,c,rfl,⟨f,g,rfl⟩,d i⟩
 | unit=>intro y b h;exact h
 | _=>intro y b h;exact h.elim
theorem DM{b:Nat->Option aS}{v:ax}{x:Value}(h:bw γ b w v .val [x]):gk γ b w [v] [x]:=by
 refine⟨rfl,λi e y c d=>?_⟩;cases i with
 | zero =>
   obtain rfl:=aq c;obtain rfl:=aq d;exact h
 | succ i=>cases c
theorem Fv{d:Nat->Option aS}{R:Ty}{v:ax}{c:Value}(m:bw γ d w v .val [c]) :
  ∃f,gk γ d w (qf R v) f/\∀(I:Nat->Nat->Prop) (y:R.den),fe w I R y f->ij w I R y c:=by
 have other:∀{R:Ty},(∀t,R≠.pair t .unit)->(∀y,kb R y=.pG (p9 R y))->∃f,gk γ d w (match v with|.pG v=>sU v|v=>[v]) f/\∀(I:Nat->Nat->Prop) (y:R.den),fe w I R y f->ij w I R y c:=by
  intro R n g;have one:gk γ d w [v] [c]->∃f,gk γ d w [v] f/\∀(I:Nat->Nat->Prop) (y:R.den),fe w I R y f->ij w I R y c:=by
   intro i;refine⟨[c],i,λI y h=>?_⟩;exfalso;cases R with
   | pair t r =>
     obtain⟨o,j,e,_,k⟩:=h;obtain⟨_,rfl⟩:=Gq e;cases r with
     | unit=>exact n t rfl
     | pair a b=>obtain⟨_,_,p,_⟩:=k;cases p
     | _=>exact k.elim
   | unit=>cases (show [c]=[] from h)
   | _=>exact h.elim
  cases v with
  | pG u =>
    obtain⟨l,i,k⟩:=m;refine⟨l.toList,Ft k,λI y h=>?_⟩;unfold ij;rw[g];exact⟨l,i,Fu h⟩
  | _=>exact one (DM m)
 cases R with
 | pair t r =>
   cases r with
   | unit =>
     refine⟨[c],by cases v<;>exact DM m,λI y h=>?_⟩;obtain⟨o,j,e,i,k⟩:=h;obtain⟨rfl,_⟩:=Gq e;exact⟨o,i,rfl⟩
   | _ =>
     cases v<;>exact other (λq e=>by cases e) (λy=>rfl)
 | _ =>
   cases v<;>exact other (λq e=>by cases e) (λy=>rfl)
theorem zz(NW:P.follows .mixedOrders=true)(hc:df P cx){G:eg}(Di:jy P G cx)(O:Al cx){X:Nat->mc}{n f:Nat}{ps:List Bool}{A:Ty}{U:OT}{R:Ty}{S:A.den×U.den->Option (R.den×U.den)}
  {fn:Func} {T:Code} (RI:find cx.fns f=some fn) (m:fn.body=some T) (h:∀x y,S x=some y->LY cx n X f ps A U R x=some y):aR P G f ⟨ps,A,U,R,S⟩ where
 body:=by
  have NY:=O f fn RI;simp only[DI,m,cA,fO] at NY;exact⟨fn,T,hc.fns f fn RI,NY.1,m⟩
 calls:=by
  intro I w args iy j l x u y hI hG Tg Y s QJ Z;have hs:=h (x,u) y Z;unfold LY at hs;obtain⟨r,h1,V⟩:=bind_some hs;obtain⟨v,cm⟩:=r;obtain⟨y1,y2⟩:=y;have hg:∃aV M,gE (eJ cm) R (qf R v)=some (y1,aV)/\wZ aV.mem U 0=some (y2,ig 0 U.nr,M)/\(aF (ig 0 U.nr) M).Nodup/\(aF (ig 0 U.nr)<|j8 0 U.nb).Nodup:=by
   dsimp only at V;split at V
   .rename_i y' aV Th;split at V
    .rename_i u' N M Ti;obtain⟨h3,h4⟩:=ak V;simp only[cA] at h3;obtain rfl:=HW h3.1.1;cases h4;exact⟨aV,M,Th,Ti,uC.1 h3.1.2,uC.1 h3.2⟩
    .cases V
   .cases V
  obtain⟨aV,M1,RB,Tj,Tk,GD⟩:=hg;have hlen:=s.len;have C:fo ⟨I,ya (ig 0 U.nr) (j8 0 U.nb) j l⟩ (ig 0 U.nr) j:=Mj GD (by rw[yb,hlen.1]);have QK:ik ⟨I,ya (ig 0 U.nr) (j8 0 U.nb) j l⟩ (j8 0 U.nb) l:=Mi GD (by rw[yc,hlen.2]);have HD:tk (dF U u (ig 0 U.nr)<|j8 0 U.nb) U u (ig 0 U.nr) (j8 0 U.nb):=C7 yb yc GD λc W D=>D;have E:∀{c W},dF U u (ig 0 U.nr) (j8 0 U.nb) c=some W->_:=λ{c W} D=>Aa (γ:=⟨I,ya (ig 0 U.nr) (j8 0 U.nb) j l⟩) s C QK HD D;have hm:aO ⟨w.heap.size,(·∈bL j l),G⟩ ⟨I,ya (ig 0 U.nr) (j8 0 U.nb) j l⟩ (dF U u (ig 0 U.nr)<|j8 0 U.nb) w :=
   { bD:=λb Q g=>by
      obtain⟨o,h1,V⟩:=hG b Q g;refine⟨λd=>?_,o,h1,V⟩;have:=(oc.1 h1).1;rcases d with d|d
      .exact absurd this (by have Rj:w.heap.size<=b:=d;omega)
      .exact Tg b Q g d
     base:=cU _
     boxes:=λb W d=>(E d).1
     inj:=λb c i k k' d D e1 e2=>by
      obtain⟨W,F⟩:=Ja.1 d;obtain⟨Rk,Tl⟩:=Ja.1 D;exact Ks C QK QJ (iI F) (iI Tl) e1 e2
     fresh:=λb i k d e1=>by
      obtain⟨W,F⟩:=Ja.1 d;obtain⟨_,_,g⟩:=E F;obtain⟨g1,⟨z,g2⟩,_⟩:=g i k e1;exact⟨.inr g1,(oc.1 g2).1⟩
     lX:=hI
     sep:=λb W i k off d e1 hi=>by
      obtain⟨_,_,g⟩:=E d;exact absurd hi ((g i k e1).2.2 off) }
  have J:=Bf (γ:=⟨I,ya (ig 0 U.nr) (j8 0 U.nb) j l⟩) s C QK HD;obtain⟨hv,K⟩:=Fo (γ:=⟨I,ya (ig 0 U.nr) (j8 0 U.nb) j l⟩) Y J;rw[K] at J;obtain⟨_,L⟩:=qw NW hc Di O n 0 f ⟨w.heap.size,(·∈bL j l),G⟩ ⟨I,ya (ig 0 U.nr) (j8 0 U.nb) j l⟩ (dF U u (ig 0 U.nr)<|j8 0 U.nb) cm w (pI ps U A x 0) args v rfl hm hv h1;refine L.mono λe w' hw=>?_;obtain⟨val,bc,rfl,m1,x1,r1⟩:=hw;obtain⟨xs,u1,u2⟩:=Fv (R:=R) r1;have QL:b6 ⟨w.heap.size,(·∈bL j l),G⟩ 0 bc (eJ cm) { tmps:=#[],defers:=[] } w' :=
   { slots:=λt=>⟨_,rfl⟩
     size:=rfl
     defers:=rfl
     ok:=m1 }
  obtain⟨PN,s1,s2,s3⟩:=lj QL u1 RB;have xx:=x1.trans s2;obtain⟨Tm,k1,k2,k3⟩:=Ab s1.ok (J.ext xx) (Fq Tj);have Tn:Tm=j:=by
   unfold fo at k1 C;have:(ig 0 U.nr).map (λp=>(PN.loc p.1).map (·.1))=(ig 0 U.nr).map (λp=>(ya (ig 0 U.nr) (j8 0 U.nb) j l p.1).map (·.1)):=by
    refine Cv λp hp=>?_;obtain⟨j9,j1,j2,_⟩:=k3 p (iw _ hp);obtain⟨Qj,F⟩:=uE (u:=u) (yb (k:=0) (n:=U.nr)) (yc (k:=0) (n:=U.nb)) (iw _<|lY.2 ⟨p,hp,rfl⟩);obtain⟨zy,q1,q2,q3⟩:=xx.boxes _ Qj F;rw[j1] at q1;obtain rfl:=aq q1;have TX:p.2=0:=HX hp;rw[(q3<|by omega).1]
   rw[this,C] at k1;exact(BQ k1).symm
  subst Tn;refine⟨val,PN.I,_,rfl,xx.below,xx.I,s1.ok.lX,λb o hi hn=>(xx.mo b o hi).resolve_left hn,u2 _ _ s3,k2,vc s1.ok k1 k3 Tk,λi d=>?_⟩;obtain⟨b,k,⟨W,j1⟩,j2⟩:=Ad k1 k3 (blk:=i) (by unfold bL at d⊢;exact pR _ (by simpa using d));rcases(s1.ok.fresh b i k (by rw[j1];simp) j2).1 with q|q
  .exact .inr q
  .exact .inl q
end
end Go.Ge
namespace Go.Ge
open RowKit ChangeShapes
def zA{α:Type}(f:α->Nat):List α->Nat
 | []=>0
 | x::r=>f x+zA f r
def Ty.bulk:(t:Ty)->t.den->Nat
 | .int _,_=>1
 | .bool,_=>1
 | .str,s=>List.length (α:=UInt8) s+1
 | .slice e,l=>zA e.bulk l+1
 | .arr _ e,l=>zA e.bulk l
 | .pair a b,x=>a.bulk x.1+b.bulk x.2
 | .unit,_=>0
 | .alt _ _ _,_=>0
 | .rr,_=>0
def Ty.rP:Ty->Bool
 | .slice e=>e.rP
 | .arr _ e=>e.rP
 | .pair a b=>a.rP&&b.rP
 | .alt _ _ _=>false
 | .rr=>false
 | _=>true
structure yd {H:Type} (bulk:DataW H->Nat) (all:List (DataW H)->Nat):Prop where
 lit:∀l,1<=bulk (.lit l)
 str:∀s,bulk (.lit<|.string s)=s.length+1
 nil:1<=bulk .nil
 slice:∀e s,bulk (.slice e s)=all e+all s+1
 agg:∀p,bulk (.agg p)=all p+1
 none:all []=0
 cons:∀d r,all (d::r)=bulk d+all r
theorem ri{α c:Type}{f:α->Option c}:∀{l:List α} {ys:List c},l.mapM f=some ys->ys.length=l.length/\∀(i:Nat) x,l[i]?=some x->f x=ys[i]?:=by
 intro l;induction l with
 | nil=>intro ys h;obtain rfl:=aq (show some []=some ys by simpa using h);exact⟨rfl,λi x b=>by cases b⟩
 | cons a l d =>
   intro ys h;rw[Gp] at h;obtain⟨y,e,g⟩:=pZ.1 h;obtain⟨j,k,m⟩:=pZ.1 g;obtain rfl:y::j=ys:=aq m;obtain⟨n,o⟩:=d k;refine⟨by simp[n],λi x b=>?_⟩;cases i with
   | zero=>obtain rfl:=aq b;exact e
   | succ i=>exact o i x (by simpa using b)
theorem vm{α e:Type}{R:Nat->α->e->Prop}:∀{ys:List e} {k:Nat},(∀i y,ys[i]?=some y->∃x,R (k+i) x y)->∃d:List α,d.length=ys.length/\∀i x y,d[i]?=some x->ys[i]?=some y->R (k+i) x y:=by
 intro ys;induction ys with
 | nil=>intro k _;exact⟨[],rfl,λi x y h=>by cases h⟩
 | cons y ys f =>
   intro k h;obtain⟨x,g⟩:=h 0 y rfl;obtain⟨d,j,l⟩:=f (k:=k+1) λi y m=>by
    have:=h (i+1) y (by simpa using m)
    rwa [show k+(i+1)=k+1+i by omega] at this
   refine⟨x::d,by simp[j],λi n o b c=>?_⟩;cases i with
   | zero=>obtain rfl:=aq b;obtain rfl:=aq c;exact g
   | succ i =>
     rw[show k+(i+1)=k+1+i by omega];exact l i n o (by simpa using b) (by simpa using c)
theorem GK{α c:Type}{f:α->Nat}{g:c->Nat}:∀{b:List α} {ys:List c},b.length=ys.length->(∀(i:Nat) x y,b[i]?=some x->ys[i]?=some y->f x<=g y)->zA f b<=zA g ys:=by
 intro b;induction b with
 | nil=>intro ys _ _;exact jO _
 | cons x b e =>
   intro ys d h;cases ys with
   | nil=>cases d
   | cons y ys =>
     have l:=h 0 x y rfl rfl;have m:=e (ys:=ys) (by simpa using d) λi x y j k=>h (i+1) x y (by simpa using j) (by simpa using k);simp only[zA];omega
section
variable {H:Type} {enc:TypeId×Value->H} {P:Program} {w:World} {held:Bool} {bulk:DataW H->Nat} {all:List (DataW H)->Nat}
theorem GL(b:yd bulk all){c:Type}(f:c->DataW H):∀l:List c,all (l.map f)=zA (λy=>bulk (f y)) l:=by
 intro l;induction l with
 | nil=>exact b.none
 | cons y l d=>rw[fY,b.cons,d];rfl
def old(w:World):Nat->Nat->Prop:=λb _=>b<w.heap.size
theorem vn{a:Addr}{n:Nat}{b:List Value}(h:w.cells? 0 a n=some b):b.length=n/\∀j,j<n->w.cell? (a.add j)=b[j]?:=by
 unfold World.cells? at h;rw[bH<|jO _] at h;obtain⟨c,d⟩:=ri h;refine⟨by simpa using c,λj e=>d j j ?_⟩;simp[e]
theorem DN{b o:Nat}{v:Value}{d:Option Nat}(h:w.cell? ⟨b,o,d⟩=some v):b<w.heap.size/\d=none:=by
 unfold World.cell? at h;split at h
 .rename_i c t f e;refine⟨(oc.1 e).1,?_⟩;split at h
  .cases h
  .rename_i g;cases d with
   | none=>rfl
   | some s=>exact absurd rfl g
 .cases h
theorem Ku(z:yd bulk all):∀{t:Ty},t.rP=true ->
  (∀{fuel tid:Nat} {cs:List Value} {d:DataW H} {ps:List MemPlace},Den P t tid->DataW.trod enc P w 0 (λ_=>true) held fuel tid cs=some (d,ps)->∃x:t.den,bg w (old w) t x cs/\t.bulk x<=bulk d) /\
  (∀{fuel off:Nat} {I:List Field} {cs:List Value} {m:List (DataW H×List MemPlace)},ka P t off I->(I.mapM λf=>DataW.trod enc P w 0 (λ_=>true) held fuel f.type ((cs.drop f.offset).take<|P.cellsOf f.type))=some m ->
   cs.length=off+t.size->∃x:t.den,bg w (old w) t x (cs.drop off)/\t.bulk x<=all (m.map (·.1))):=by
 intro t;induction t with
 | int k =>
   intro c;refine⟨λ{fuel tid cs d ps} l h=>?_,λl=>by simp[ka,ed] at l⟩;cases fuel with
   | zero=>cases h
   | succ fuel =>
     simp only[DataW.trod,l.int] at h;split at h<;>first|(exfalso;simp_all;done)|skip
     rename_i k0 k' n Z;split at h
     .rename_i J;obtain⟨rfl,rfl⟩:=b8 (aq h);injection Z with Z;injection Z with Z;subst Z
      obtain⟨rfl,M⟩:=J;simp only[Lit.wf,cA,yV] at M;exact⟨(n:Int),⟨rfl,M.1,M.2⟩,z.lit _⟩
     .cases h
 | bool =>
   intro c;refine⟨λ{fuel tid cs d ps} l h=>?_,λl=>by simp[ka,ed] at l⟩;cases fuel with
   | zero=>cases h
   | succ fuel =>
     simp only[DataW.trod,l.bool] at h;split at h<;>first|(exfalso;simp_all;done)|skip
     rename_i b _;obtain⟨rfl,rfl⟩:=b8 (aq h);exact⟨b,rfl,z.lit _⟩
 | str =>
   intro c;refine⟨λ{fuel tid cs d ps} l h=>?_,λl=>by simp[ka,ed] at l⟩;cases fuel with
   | zero=>cases h
   | succ fuel =>
     simp only[DataW.trod,l.str] at h;split at h<;>first|(exfalso;simp_all;done)|skip
     rename_i s _;split at h
     .rename_i hs;obtain⟨rfl,rfl⟩:=b8 (aq h);refine⟨s.data.toList,⟨?_,?_⟩,?_⟩
      .rfl
      .have:List.length (α:=UInt8) s.data.toList=s.size:=Cy;rw[this];exact hs
      .rw[z.str];exact cU _
     .cases h
 | slice e O =>
   intro c;have O:=O c;refine⟨λ{fuel tid cs d ps} l h=>?_,λl=>by simp[ka,ed] at l⟩;obtain⟨Cq,h1,Q,h3,h4⟩:=l.slice;cases fuel with
   | zero=>cases h
   | succ fuel =>
     simp only[DataW.trod,h1] at h;split at h<;>first|(exfalso;simp_all;done)|skip
     .obtain⟨rfl,rfl⟩:=b8 (aq h);exact⟨([]:List e.den),.inl ⟨⟨none,rfl⟩,rfl⟩,z.nil⟩
     .rename_i e' a S A he;injection he with he;injection he with he;subst he
      split at h
      case isFalse=>cases h
      rename_i J;obtain⟨PQ,To,Tp⟩:=J;obtain⟨o,K,T⟩:=pZ.1 h;obtain⟨rest,g3,g4⟩:=pS.1 T;obtain⟨rfl,rfl⟩:=b8 g4;simp only[jr] at g3;obtain⟨W,X⟩:=ri K;obtain⟨m1,m2⟩:=ri g3;simp only[Jr] at W m1;rw[Q.cells] at X m2;by_cases NO:A=0
      .subst NO;obtain rfl:S=0:=by omega
       exact⟨([]:List e.den),.inl ⟨⟨some a,rfl⟩,rfl⟩,by rw[z.slice];simp[Ty.bulk,zA]⟩
      ·
       have NM:∃y,(w.cells? 0 a e.size).bind (DataW.trod enc P w 0 (λ_=>true) held fuel Cq)=some y:=by
        by_cases hlen:S=0
        .have:=m2 0 0 (Gj<|by omega);have p:0<rest.length:=by omega
         rw[nP p] at this;rw[hlen] at this;simp only[kL,CG] at this;exact⟨_,by rw[<-this];simp[Addr.add]⟩
        .have:=X 0 0 (Gj<|by omega);have p:0<o.length:=by omega
         rw[nP p] at this;simp only[CG] at this;exact⟨_,by rw[<-this];simp[Addr.add]⟩
       obtain⟨y,D⟩:=NM;obtain⟨Y,PO,_⟩:=pZ.1 D;obtain⟨z1,z2⟩:=vn PO;have z3:=z2 0 h4;rw[nP<|by omega] at z3;have q:a.spot=none:=by
        have:a.add 0=a:=by simp[Addr.add]
        rw[this] at z3;obtain⟨E,off,sp⟩:=a;exact(DN z3).2
       obtain⟨E,off,sp⟩:=a;dsimp only at q;subst q;obtain⟨m,F,L⟩:=vm (R:=λi (x:e.den) (y:DataW H×List MemPlace)=>(∃Y:List Value,Y.length=e.size /\
         (∀(j:Nat) v,Y[j]?=some v->w.cell? ⟨E,off+i*e.size+j,none⟩=some v/\old w E (off+i*e.size+j))/\bg w (old w) e x Y)/\e.bulk x<=bulk y.1) (ys:=o) (k:=0) λi y hi=>by
        have p:=(sE.1 hi).1;have:=X i i (Gj<|by omega);rw[hi] at this;obtain⟨Y,q1,q2⟩:=pZ.1 this;rw[addr_add] at q1;obtain⟨q3,q4⟩:=vn q1;obtain⟨x,r1,r2⟩:=O.1 (d:=y.1) (ps:=y.2) Q q2;refine⟨x,⟨Y,q3,λj v hv=>?_,r1⟩,r2⟩;have hj:=(sE.1 hv).1;have:=q4 j (by omega);rw[addr_add,hv] at this;rw[kL];exact⟨this,(DN this).1⟩
       refine⟨m,.inr ⟨E,off,A,?_,?_,Tp,λi x U=>?_⟩,?_⟩
       .show [Value.slice _ S A]=[Value.slice _ (List.length (α:=e.den) m) A]
        rw[F,W]
       .show List.length (α:=e.den) m<=A
        rw[F,W];exact To
       .have C:m[i]?=some x:=U;have p:=(sE.1 C).1;obtain⟨y,D⟩:∃y,o[i]?=some y:=⟨_,nP (by omega)⟩;have:=(L i x y C D).1;rw[kL] at this;exact this
       .rw[z.slice,GL z];have:=GK (f:=e.bulk) (g:=λy:DataW H×List MemPlace=>bulk y.1) F λi x y U D=>(L i x y U D).2;show zA e.bulk m+1<=_
        omega
 | arr n e O =>
   intro c;have O:=O c;refine⟨λ{fuel tid cs d ps} l h=>?_,λl=>by simp[ka,ed] at l⟩;obtain⟨Cq,h1,Q,h4⟩:=l.arr;cases fuel with
   | zero=>cases h
   | succ fuel =>
     simp only[DataW.trod,h1] at h;split at h
     case isFalse=>cases h
     rename_i J;obtain⟨ys,K,T⟩:=pS.1 h;obtain⟨rfl,rfl⟩:=b8 T;obtain⟨W,X⟩:=ri K;simp only[Jr] at W;rw[Q.cells] at X;obtain⟨m,F,L⟩:=vm (R:=λi (x:e.den) (y:DataW H×List MemPlace)=>bg w (old w) e x ((cs.drop<|i*e.size).take e.size)/\e.bulk x<=bulk y.1) (ys:=ys) (k:=0) λi y hi=>by
      have p:=(sE.1 hi).1;have:=X i i (Gj<|by omega);rw[hi] at this;obtain⟨x,r1,r2⟩:=O.1 (d:=y.1) (ps:=y.2) Q this;exact⟨x,by rw[kL];exact r1,r2⟩
     refine⟨m,⟨?_,?_,λi x U=>?_⟩,?_⟩
     .show List.length (α:=e.den) m=n
      rw[F,W]
     .rw[J,l.cells];rfl
     .have C:m[i]?=some x:=U;have p:=(sE.1 C).1;obtain⟨y,D⟩:∃y,ys[i]?=some y:=⟨_,nP (by omega)⟩;have:=(L i x y C D).1;rw[kL] at this;exact this
     .rw[z.agg,GL z];have:=GK (f:=e.bulk) (g:=λy:DataW H×List MemPlace=>bulk y.1) F λi x y U D=>(L i x y U D).2;show zA e.bulk m<=_
      omega
 | pair a b G V =>
   intro c;simp only[Ty.rP,cA] at c;have G:=G c.1;have V:=V c.2;have chain:∀{fuel off:Nat} {I:List Field} {cs:List Value} {m:List (DataW H×List MemPlace)},ka P (.pair a b) off I->(I.mapM λf=>DataW.trod enc P w 0 (λ_=>true) held fuel f.type ((cs.drop f.offset).take<|P.cellsOf f.type))=some m ->
     cs.length=off+(Ty.pair a b).size->∃x:(Ty.pair a b).den,bg w (old w) (.pair a b) x (cs.drop off)/\(Ty.pair a b).bulk x<=all (m.map (·.1)):=by
    intro fuel off I cs m l h hl;obtain⟨f,r,rfl,f1,_,f2,f3,f4⟩:=l.cons;rw[Gp] at h;obtain⟨y,K,T⟩:=pZ.1 h;obtain⟨ys,g3,g4⟩:=pZ.1 T;obtain rfl:y::ys=m:=aq g4;rw[f1,f2.cells] at K;obtain⟨F,p1,p2⟩:=G.1 (d:=y.1) (ps:=y.2) f2 K;obtain⟨L,q1,q2⟩:=V.2 f4 g3 (by simp only[Ty.size] at hl;omega);refine⟨(F,L),⟨_,_,?_,p1,q1⟩,?_⟩
    .rw[<-oZ,vt]
    .rw[fY,z.cons];show a.bulk F+b.bulk L<=_
     omega
   refine⟨λ{fuel tid cs d ps} l h=>?_,chain⟩;obtain⟨I,h1,Q,_⟩:=l.pair;cases fuel with
   | zero=>cases h
   | succ fuel =>
     simp only[DataW.trod,h1] at h;split at h
     case isFalse=>cases h
     rename_i J;obtain⟨ys,K,T⟩:=pS.1 h;obtain⟨rfl,rfl⟩:=b8 T;rw[l.cells] at J;obtain⟨x,r1,r2⟩:=chain Q K (by rw[J,kL]);exact⟨x,by simpa using r1,by rw[z.agg];omega⟩
 | alt u a r G RT=>intro c;cases c
 | rr=>intro c;cases c
 | unit =>
   intro c;refine⟨λl=>by simp[Den,ed] at l,λ{fuel off I cs m} l h hl=>?_⟩;exact⟨(),by show cs.drop off=[];rw[List.drop_eq_nil_iff];simp[Ty.size] at hl;omega,jO _⟩
end
end Go.Ge
namespace Go.Ge
open RowKit ChangeShapes WideShapes
def Fw(P:Program):Ty->List TypeId->Prop
 | .pair t r,tid::ts=>Den P t tid/\Fw P r ts
 | .unit,[]=>True
 | _,_=>False
section
variable {H:Type} {enc:TypeId×Value->H} {P:Program} {w:World} {held:Bool} {bulk:DataW H->Nat} {all:List (DataW H)->Nat}
theorem DO{t:Ty}{f g:Nat}{v:Value}{x:t.den}(h:t.rP=true)(d:Den P t f)(c:Value.okWide P w .any g f v)(p:bg w (old w) t x v.cells.toList):v=bX t v.cells.toList:=by
 cases t with
 | int k=>obtain⟨n,rfl⟩:=okWide_int d.int c;rfl
 | bool=>obtain⟨b,rfl⟩:=okWide_bool d.bool c;rfl
 | str=>obtain⟨s,rfl⟩:=okWide_string d.str c;rfl
 | slice e=>obtain⟨j,i,_⟩:=d.slice;obtain⟨a,l,m,rfl⟩:=okWide_slice i c;rfl
 | pair a b=>obtain⟨q,i,_⟩:=d.pair;obtain⟨o,rfl,_⟩:=okWide_struct i c;simp[bX,Ty.isAgg,Value.cells]
 | arr n e =>
   obtain⟨j,i,_⟩:=d.arr;unfold Value.okWide at c;rw[i] at c;obtain⟨o,rfl,_⟩:=c;simp[bX,Ty.isAgg,Value.cells]
 | unit=>simp[Den,ed] at d
 | alt u a r=>cases h
 | rr=>cases h
theorem Kv(k:yd bulk all){base:Nat}:∀{A:Ty} {ts:List TypeId} {e:List Value} {ds:List (DataW H)} {ps:List MemPlace},A.rP=true->Fw P A ts->DataW.TrodAll enc P w 0 (λ_=>true) held ts e ds ps ->
  (∀(j:Nat) t v,ts[j]?=some t->e[j]?=some v->Value.okWide P w .any base t v)->∃x:A.den,fe w (old w) A x e/\A.bulk x<=all ds:=by
 intro A;induction A with
 | pair t r o g =>
   intro ts e ds ps b f h c;simp only[Ty.rP,cA] at b;cases ts with
   | nil=>exact f.elim
   | cons tid ts =>
     obtain⟨l,s⟩:=f;obtain⟨v,i,d,u,p,q,rfl,rfl,rfl,⟨m,z⟩,C⟩:=trodAll_cons h;obtain⟨x,n,G⟩:=(Ku k b.1).1 l z;obtain⟨y,D,I⟩:=g b.2 s C λj t v E F=>c (j+1) t v (by simpa using E) (by simpa using F);refine⟨(x,y),⟨v.cells.toList,i,?_,n,D⟩,?_⟩
     .rw[<-DO b.1 l (c 0 tid v rfl rfl) n]
     .rw[k.cons];show t.bulk x+r.bulk y<=_
      omega
 | unit =>
   intro ts e ds ps b f h c;cases ts with
   | nil =>
     obtain⟨rfl,rfl,rfl⟩:=trodAll_nil h;exact⟨(),rfl,jO _⟩
   | cons tid ts=>exact f.elim
 | _=>intro ts e ds ps b f;exact f.elim
theorem zB(k:laidOutB P=true){W i:World}{j:Nat->Bool}:∀{ts:List TypeId} {f:List Value} {ds:List (DataW H)} {ps:List MemPlace},(∀t∈ts,P.readableRec t=true/\t<P.types.size) ->
  DataW.TrodAll enc P W 0 (λ_=>true) true ts f ds ps->(∀p∈ps,W.sameAt i p)->(∀p∈ps,j p.block=true)->DataW.TrodAll enc P i 0 j true ts f ds ps:=by
 intro ts;induction ts with
 | nil=>intro f ds ps _ h _ _;obtain⟨rfl,rfl,rfl⟩:=trodAll_nil h;rfl
 | cons t ts l =>
   intro f ds ps g h b e;obtain⟨v,m,d,n,p,q,rfl,rfl,rfl,o,r⟩:=trodAll_cons h;refine⟨p,q,WideElems.Trod_stays k (g t<|kQ ..).1 (g t<|kQ ..).2 o (λx c=>b x (iw _ c)) (λx c=>e x (iw _ c)),?_,rfl⟩;exact l (λt s=>g t (kJ _ s)) r (λx c=>b x (pR _ c)) (λx c=>e x (pR _ c))
def Ty.ok:(t:Ty)->t.den->Prop
 | .int k,n=>k.min<=(show Int from n)/\(show Int from n)<=k.max
 | .bool,_=>True
 | .str,s=>List.length (α:=UInt8) s<=maxLen
 | .slice e,l=>∀(i:Nat) (x:e.den),(show List e.den from l)[i]?=some x->e.ok x
 | .arr n e,l=>List.length (α:=e.den) l=n/\∀(i:Nat) (x:e.den),(show List e.den from l)[i]?=some x->e.ok x
 | .pair a b,x=>a.ok x.1/\b.ok x.2
 | .unit,_=>True
 | .alt _ _ _,_=>True
 | .rr,_=>True
theorem bg.ok{I:Nat->Nat->Prop}:∀{t:Ty} {x:t.den} {cs:List Value},bg w I t x cs->t.ok x:=by
 intro t;induction t with
 | int k=>intro x cs h;exact h.2
 | bool=>intro x cs h;trivial
 | str=>intro x cs h;exact h.2
 | slice e d =>
   intro x cs h i y c;rcases h with ⟨_,h⟩|⟨blk,off,cap,j,l,p,m⟩
   .rw[show(show List e.den from x)=[] from h] at c;cases c
   .obtain⟨es,_,_,o⟩:=m i y c;exact d o
 | arr n e d=>intro x cs h;exact⟨h.1,λi y c=>d (h.2.2 i y c)⟩
 | pair a b f g=>intro x cs h;obtain⟨q,s,_,j,l⟩:=h;exact⟨f j,g l⟩
 | unit=>intro x cs h;trivial
 | alt u a r=>intro x cs h;trivial
 | rr=>intro x cs h;trivial
theorem fe.ok{I:Nat->Nat->Prop}:∀{A:Ty} {x:A.den} {xs:List Value},fe w I A x xs->A.ok x:=by
 intro A;induction A with
 | pair t r c b=>intro x xs h;obtain⟨cs,rest,_,d,e⟩:=h;exact⟨d.ok,b e⟩
 | unit=>intro x xs h;trivial
 | _=>intro x xs h;exact h.elim
theorem HY(Y:yd bulk all)(Z:laidOutB P=true){z tb:Nat}{m:Func}{s:ChangeSpec}{A:Ty}{spec:A.den->Option (Ty.pair .bool .unit).den}{g n i:Bool}
  (C:Fw P A m.params.toList) (r:∀t∈m.params.toList,P.readableRec t=true/\t<P.types.size) (D:m.resultTypes=#[tb]) (J:P.underlying tb=some .bool) (E:s.vars=[])
  (hs:∀f:List (DataW H),f.length=m.params.toList.length->s.fn H f={ results:=[.lit<|.bool true],args:=f }) {G:eg} (hh:Holds P G z ⟨A,.pair .bool .unit,spec⟩)
  {W:World} (hG:mO G W) {base:Nat} {c:Array Value} {f S:List (DataW H)} {l:List MemPlace} (F:∀(j:Nat) t v,m.params[j]?=some t->c[j]?=some v->Value.okWide P W .any base t v)
  (K:DataW.Whole enc P m.params.toList s.vars g W c.toList f S l) (k:∀x:A.den,A.ok x->A.bulk x<=all (f++S)->spec x=some (true,())) (L:A.rP=true:=by rfl) :
  Calls P z c W λe T=>∃v,e=.returned v/\s.post enc P m g n i false W c v T:=by
 have u:=K.lt;have I:=K;obtain⟨p,q,M,U,rfl,TY,QJ⟩:=K;rw[E] at U;obtain⟨rfl,rfl⟩:=trodVars_none U;simp only[ua] at I u k;obtain⟨x,V,x2⟩:=Kv Y (base:=base) L C M λj t v hj O=>F j t v (by simpa using hj) (by simpa using O);have hlen:∀{ts:List TypeId} {Q:List Value} {f:List (DataW H)} {ps:List MemPlace},DataW.TrodAll enc P W 0 (λ_=>true) true ts Q f ps->f.length=ts.length:=by
  intro ts;induction ts with
  | nil=>intro Q f ps h;obtain⟨_,rfl,_⟩:=trodAll_nil h;rfl
  | cons t ts ih=>intro Q f ps h;obtain⟨v,TZ,d,T0,p,q,rfl,rfl,rfl,h1,h2⟩:=trodAll_cons h;simp[ih h2]
 have y:=hs f (hlen M);refine(hh.calls (old W) W c x (true,()) (λb o h=>h) hG V<|k x V.ok x2).mono λe T hw=>?_;obtain⟨v,I',rfl,X,_,_,_,hr⟩:=hw;obtain⟨cs,rfl,O⟩:=hr;obtain rfl:v=.bool true:=by simpa [bX,Ty.isAgg] using O
 refine⟨_,rfl,f,[],p,[],p,[],I,?_,?_,?_,X.frame _,λh=>by cases h⟩
 .rw[ua,y,D];exact trodAll_mk1 (shut_bool J true)
 .rw[ua,y];exact zB Z r M (λx R=>X.same (u x R)) (λx R=>by simpa using u x R)
 .rw[ua,y,E];rfl
end
end Go.Ge
namespace Go.Ge
variable [Lp]
open RowKit
noncomputable def Mk(b:Ctx)(d:List Nat)(e:List ResultVar)(R:Ty)(c:Code)(σ:St):Option R.den :=
 ((fi b 0 d qc c [] σ).bind λr=>bif Nat.beq r.1 1 then((results1 b r.2 e).bind λv=>match ef (eJ r.2.mem) R (qf R v) with
  | some y=>.ret y
  | none=>.fail) else .fail).run
section
variable {P:Program} {cx:Ctx} {bf:List Nat}
theorem tH{G:eg}:nE P G qc:=λB γ σ aB w f b c v _ _ _ h=>by cases h
theorem pw:∀f b σ v aB,(qc f b σ).run=some (v,aB)->aM σ aB:=λf b σ v aB h=>by cases h
def Ends(w:World)(I:Nat->Nat->Prop)(R:Ty)(y:R.den)(e:Ending)(d:World):Prop :=
 ∃v c,e=.returned v/\Below w.heap.size w d/\(∀b o,I b o->c b o)/\(∀b o,c b o->b<d.heap.size)/\(∀b o,c b o->¬I b o->w.heap.size<=b)/\ij d c R y v
theorem An{Q:Exit->Act->World->Prop}(i:P.follows .mixedOrders=true)(u:df P cx){G:eg}(j:jy P G cx){fn:Func}{R:Ty}{y:R.den}{c:Code}{σ:St}{z:Gh}{a:Act}{w0 w:World}{N:Nat}{I:Nat->Nat->Prop}
  (E:∀t∈writes c,t<N) (A:Mk cx bf fn.results.toList R c σ=some y) (h:b6 (ga G w0.heap.size) N z σ a w) (F:Ext (ga G w0.heap.size) ⟨I,λ_=>none⟩ (λ_=>none) w0 z σ.mem w)
  (J:∀a w,bodyPost P fn (Ends w0 I R y) .ret a w->Q .ret a w):c.wp P Q a w:=by
 unfold Mk at A;obtain⟨r,k,l⟩:=bind_some A;obtain⟨e,aB⟩:=r;obtain⟨K,L⟩:=ak l;obtain⟨v,M,m⟩:=bind_some L;have O:ef (eJ aB.mem) R (qf R v)=some y:=by
  split at m
  .rename_i V n;obtain rfl:=aq m;exact n
  .cases m
 refine lH i u j tH pw c E k h λbc C w' s x f=>?_;obtain⟨g,S,T⟩:=nX (fn:=fn) u s M;have p:=F.trans x;have key:Ends w0 I R y (.returned g) w':=by
  refine⟨g,λb o=>bc.I b o\/(w0.heap.size<=b/\b<w'.heap.size),rfl,p.below.below,λb o d=>.inl (p.I b o d),λb o d=>?_,λb o d U=>?_,?_⟩
  .rcases d with d|d
   .exact s.ok.lX b o d
   .exact d.2
  .rcases d with d|d
   .exact jx.1 ((p.mo b o d).resolve_left U)
   .exact d.1
  .exact uM (σ:=eJ aB.mem) s.ok (λb o d=>.inl d) (λb o k l=>.inr ⟨jx.1 k,l⟩) T O
 have:C.defers=[]/\∃D,(results fn C.tmps).run P w'=.ok D w'/\Ends w0 I R y (.returned D) w':=⟨s.defers,g,S,key⟩;have q:e=1:=cG K;subst q;exact J _ _ this
theorem DP(C:P.follows .mixedOrders=true)(hc:df P cx){G:eg}(D:jy P G cx){f tid QM:Nat}{fn:Func}{e:Ty}{Z R2 R3:Code}{z A:Oper}{QN:TypeId}{s0:List e.den->St}
  (hP:P.funcs[f]?=some fn) (S:(fn.name == "runtime.NumGoroutine")=false)
  (E:fn.body=some (.seq Z<|.seq (.seq (.region QM #[z,A] false)<|.cond (.tmp 4) (.seq R2 .ret) .skip)<|.seq R3 .ret))
  (hT:find cx.T tid=some (.slice e)) (hN:4<fn.ntmps) (hd:∀t∈writes Z++(writes R2++writes R3),t<fn.ntmps)
  (g0:z.guard=none) (d0:z.dst=some 3) (p0:z.op=.move (.tmp 0)) (g1:A.guard=none) (d1:A.dst=some 4) (p1:A.op=.binOp .eql tid (.tmp 3) (.const<|.slice none 0 0) QN)
  (h0:∀l,(fi cx 0 bf qc Z []<|uX (λ_=>none) [.data (.slice e) l]).run=some (0,s0 l)) (NT:∀l,(s0 l).slots 0=.data (.slice e) l) (QO:∀l,(s0 l).slots 3=.undef) (QP:∀l,(s0 l).slots 4=.undef)
  (hA:∀l,Mk cx bf fn.results.toList (.pair (.slice e) .unit) (.seq R2 .ret) (s0 l)=some (([]:List e.den),()))
  (hB:∀l:List e.den,fits (len l)=true->Mk cx bf fn.results.toList (.pair (.slice e) .unit) (.seq R3 .ret) (s0 l)=some (l,())) :
  Holds P G f ⟨.pair (.slice e) .unit,.pair (.slice e) .unit,λx=>bif fits (len (α:=e.den) x.1) then some x else none⟩ where
 body:=⟨fn,_,hP,S,E⟩
 calls:=by
  intro I w r x y hI hG U p;obtain⟨l,u⟩:=x;change List e.den at l;have F:fits (len l)=true/\y=(l,()):=by
   change (bif fits (len l) then some ((l,u):(Ty.pair (.slice e) .unit).den) else none)=some y at p;cases Y:fits (len l) with
   | true=>rw[Y] at p;exact⟨rfl,(aq p).symm⟩
   | false=>rw[Y] at p;cases p
  obtain⟨F,rfl⟩:=F;obtain⟨cs,rest,PD,JX,V⟩:=U;obtain rfl:rest=[]:=V;obtain⟨Cq,QQ,_⟩:=(hc.T _ _ hT).slice;have hm:aO (ga G w.heap.size) ⟨I,λ_=>none⟩ (λ_=>none) w :=
   { bD:=λb Q g=>by
      obtain⟨o,h1,h2⟩:=hG b Q g;exact⟨λJ=>by have:=jx.1 J;have:=(oc.1 h1).1;omega,o,h1,h2⟩
     base:=cU _
     boxes:=λb bx J=>by cases J
     inj:=λb c W k k' J=>absurd rfl J
     fresh:=λb W k J=>absurd rfl J
     lX:=hI
     sep:=λb bx W k off J=>by cases J }
  have hv:gk ⟨I,λ_=>none⟩ (λ_=>none) w [.data (.slice e) l] r.toList:=by
   rw[PD];refine⟨rfl,λi v x hv hx=>?_⟩;cases i with
   | zero=>obtain rfl:=aq hv;obtain rfl:=aq hx;exact⟨cs,JX,rfl⟩
   | succ i=>cases hv
  show Calls P f r w (Ends w I (.pair (.slice e) .unit) (l,()))
  refine calls_of_wp hP E (wp_seq ?_);have Nl:r.size=1:=by have:=congrArg List.length PD;simpa using this
  have QR:r.size+(fn.ntmps-r.size)=fn.ntmps:=by omega
  have M:=uL hm hv fn.ntmps;rw[QR] at M;refine lH C hc D tH pw Z (λt ht=>hd t (iw _ ht)) (h0 l) M λJ6 s K s1 x1 f1=>?_;refine wp_seq (wp_seq<|wp_region_list ?_);have NU:=s1.slots 0;rw[NT] at NU;obtain⟨PE,PQ,L8⟩:=cH.1 NU;have NK:∃j n m,s.tmps.getD 0 Go.undef=.slice j n m/\(j=none->l=[]):=by
   rcases PQ with ⟨⟨j,k1⟩,k2⟩|⟨W,off,m,k1,_⟩
   .exact⟨j,0,0,by rw[L8,k1];rfl,λ_=>k2⟩
   .exact⟨_,_,_,by rw[L8,k1];rfl,λh=>by cases h⟩
  obtain⟨j,n,m,J7,X⟩:=NK;have L:∀{d:Nat},(s0 l).slots d=.undef->(s0 l).put d .undef=s0 l:=by
   intro d GD;unfold St.put;generalize s0 l=q at GD⊢;obtain⟨sl,mm⟩:=q
   congr 1
   funext t;cases J:Nat.beq t d with
   | true=>obtain rfl:=cG J;exact GD.symm
   | false=>rfl
  have s2:b6 (ga G w.heap.size) fn.ntmps J6 (s0 l) (s.put (some 3)<|.slice j n m) K:=by
   have:=s1.mP (d:=some 3) (v:=.undef) (val:=.slice j n m) (λk hk=>by cases hk;omega) ⟨_,rfl⟩;rw[show(s0 l).aA (some 3) .undef=s0 l from L (QO l)] at this;exact this
  have s3:b6 (ga G w.heap.size) fn.ntmps J6 (s0 l) ((s.put (some 3)<|.slice j n m).put (some 4)<|.bool j.isNone) K:=by
   have:=s2.mP (d:=some 4) (v:=.undef) (val:=.bool j.isNone) (λk hk=>by cases hk;omega) ⟨_,rfl⟩;rw[show(s0 l).aA (some 4) .undef=s0 l from L (QP l)] at this;exact this
  have e3:(s.put (some 3)<|.slice j n m).eval (.tmp 3)=.slice j n m:=by
   simp[Act.eval,Act.put,s1.size];omega
  have e4:((s.put (some 3)<|.slice j n m).put (some 4)<|.bool j.isNone).eval (.tmp 4)=.bool j.isNone:=by
   have:=s2.size;simp only[Act.eval];generalize s.put (some 3) (.slice j n m)=a2 at this⊢;simp[Act.put,this,hN]
  show wpList P #[z,A] _ [z,A] s K
  unfold wpList;rw[show Region.wanted z (yielded #[z,A] s.tmps)=true by unfold Region.wanted;rw[g0]];simp only[jr];refine .inl ?_;unfold Oper.wp;have QS:(execOp s.eval z).run P K=.ok (.value<|.slice j n m) K:=by
   have:s.eval (.tmp 0)=.slice j n m:=J7;simp only[execOp,p0,this];rfl
  rw[QS];show wpList P #[z,A] _ [A] (s.put z.dst<|.slice j n m) K
  rw[d0];unfold wpList;rw[show Region.wanted A (yielded #[z,A] (s.put (some 3)<|.slice j n m).tmps)=true by unfold Region.wanted;rw[g1]];simp only[jr];refine .inl ?_;unfold Oper.wp;have QT:(execOp (s.put (some 3)<|.slice j n m).eval A).run P K=.ok (.value<|.bool j.isNone) K:=by
   have NZ:(s.put (some 3)<|.slice j n m).eval (.const<|.slice none 0 0)=.slice none 0 0:=rfl;have hg:(eqGuard .eql tid (.tmp 3) (.const<|.slice none 0 0) (.slice j n m)<|.slice none 0 0).run P K=.ok () K:=by simp[eqGuard]
   simp only[execOp,p1,e3,NZ,Sem.run_bind,hg,_root_.Go.run_eql_slice_nil K tid Cq j n m QQ,Result.andThen_ok,Sem.run_pure]
  rw[QT];simp only[Oper.upon];rw[d1];refine wpList_nil ?_;have O:∀{t},t∈writes R2++writes R3->t∈writes Z++(writes R2++writes R3):=λh=>pR _ h;refine wp_cond_split (t:=j.isNone) e4 (λhn=>?_) (λhn=>?_)
  .have hl:l=[]:=X (by simpa using hn);have:=hA l;rw[<-hl] at this;exact An (w0:=w) (I:=I) (R:=.pair (.slice e) .unit) (N:=fn.ntmps) C hc D (λt ht=>hd t (O<|iw _<|by simpa [writes] using ht)) this s3 x1 λa w Y=>Y
  .exact wp_skip (An (w0:=w) (I:=I) (R:=.pair (.slice e) .unit) (N:=fn.ntmps) C hc D (λt ht=>hd t (O<|pR _<|by simpa [writes] using ht)) (hB l F) s3 x1 λa w Y=>Y)
noncomputable def Ml(b:Ctx)(d:List Nat)(f:List ResultVar)(e:Ty)(c:Code)(σ:St):Option (List e.den) :=
 ((fi b 0 d qc c [] σ).bind λr=>bif Nat.beq r.1 1 then((results1 b r.2 f).bind λv=>match pa e r.2 v with
  | some x=>.ret x.2.2.2
  | none=>.fail) else .fail).run
def GM(w:World)(I:Nat->Nat->Prop)(e:Ty)(l:List e.den)(q:Ending)(d:World):Prop :=
 ∃v f L,q=.returned v/\Be w I (λ_=>False) d f/\qn d f e l L v/\∀b c,L=some (b,c)->w.heap.size<=b
theorem ye{Q:Exit->Act->World->Prop}(i:P.follows .mixedOrders=true)(u:df P cx){G:eg}(j:jy P G cx){fn:Func}{e:Ty}{l:List e.den}{c:Code}{σ:St}{y:Gh}{a:Act}{w0 w:World}{N:Nat}{I:Nat->Nat->Prop}
  (L:∀t∈writes c,t<N) (z:Ml cx bf fn.results.toList e c σ=some l) (h:b6 (ga G w0.heap.size) N y σ a w) (M:Ext (ga G w0.heap.size) ⟨I,λ_=>none⟩ (λ_=>none) w0 y σ.mem w)
  (O:∀a w,bodyPost P fn (GM w0 I e l) .ret a w->Q .ret a w):c.wp P Q a w:=by
 unfold Ml at z;obtain⟨r,R,S⟩:=bind_some z;obtain⟨x,aB⟩:=r;obtain⟨T,U⟩:=ak S;obtain⟨v,V,p⟩:=bind_some U;split at p
 case h_2=>cases p
 rename_i o A;obtain⟨b,W,bx,C⟩:=o;obtain rfl:=aq p;obtain⟨X,D,E,Y,Z,F,_⟩:=lF A;refine lH i u j tH pw c L R h λbc J w' s x f=>?_;obtain⟨d,r1,r2⟩:=nX (fn:=fn) u s V;have g:=M.trans x;obtain⟨m,he⟩:=Ae (σ:=aB) s.ok A r2;have key:GM w0 I e C (.returned d) w':=by
  refine⟨d,bc.I,bc.loc b,rfl,⟨⟨g.below.os,g.below.tape,g.below.output,g.below.size,λk hk=>g.below.block k hk⟩,g.I,s.ok.lX,λb o hi hn=>jx.1 ((g.mo b o hi).resolve_left hn)⟩,m,λq c hl=>?_⟩;exact jx.1 (s.ok.fresh b q c (by rw[X];simp) hl).1
 have:J.defers=[]/\∃K,(results fn J.tmps).run P w'=.ok K w'/\GM w0 I e C (.returned K) w':=⟨s.defers,d,r1,key⟩;have n:_=1:=cG T;dsimp only at n;subst n;exact O _ _ this
theorem HZ(u:P.follows .mixedOrders=true)(hc:df P cx)(y:jy P nA cx){f tid QM:Nat}{fn:Func}{e:Ty}{O R S:Code}{r s:Oper}{QN:TypeId}{s0:List e.den->St}
 (hP:P.funcs[f]?=some fn) (G:(fn.name == "runtime.NumGoroutine")=false)
 (z:fn.body=some (.seq O<|.seq (.seq (.region QM #[r,s] false)<|.cond (.tmp 4) (.seq R .ret) .skip)<|.seq S .ret))
 (hT:find cx.T tid=some (.slice e)) (hN:4<fn.ntmps) (hd:∀t∈writes O++(writes R++writes S),t<fn.ntmps)
 (g0:r.guard=none) (d0:r.dst=some 3) (p0:r.op=.move (.tmp 0)) (g1:s.guard=none) (d1:s.dst=some 4) (p1:s.op=.binOp .eql tid (.tmp 3) (.const<|.slice none 0 0) QN)
 (h0:∀l,(fi cx 0 bf qc O []<|uX (λ_=>none) [.data (.slice e) l]).run=some (0,s0 l)) (NT:∀l,(s0 l).slots 0=.data (.slice e) l) (QO:∀l,(s0 l).slots 3=.undef) (QP:∀l,(s0 l).slots 4=.undef)
 (hA:∀l,Ml cx bf fn.results.toList e (.seq R .ret) (s0 l)=some [])
 (hB:∀l:List e.den,fits (len l)=true->Ml cx bf fn.results.toList e (.seq S .ret) (s0 l)=some l) :
 ko P f (.clone e):=by
 refine⟨⟨fn,_,hP,G,z⟩,λI w o l hI J U=>?_⟩;obtain⟨cs,V,W,X,K⟩:=J;obtain rfl:V=[]:=K;obtain⟨Cq,Y,_⟩:=(hc.T _ _ hT).slice;have hm:aO (ga nA w.heap.size) ⟨I,λ_=>none⟩ (λ_=>none) w :=
  { bD:=λb Q g=>g.elim
    base:=cU _
    boxes:=λb bx D=>by cases D
    inj:=λb c L k k' D=>absurd rfl D
    fresh:=λb L k D=>absurd rfl D
    lX:=hI
    sep:=λb bx L k off D=>by cases D }
 have hv:gk ⟨I,λ_=>none⟩ (λ_=>none) w [.data (.slice e) l] o.toList:=by
  rw[W];refine⟨rfl,λi v x hv hx=>?_⟩;cases i with
  | zero=>obtain rfl:=aq hv;obtain rfl:=aq hx;exact⟨cs,X,rfl⟩
  | succ i=>cases hv
 show Calls P f o w (GM w I e l)
 refine calls_of_wp hP z (wp_seq ?_);have Nl:o.size=1:=by have:=congrArg List.length W;simpa using this
 have QR:o.size+(fn.ntmps-o.size)=fn.ntmps:=by omega
 have E:=uL hm hv fn.ntmps;rw[QR] at E;refine lH u hc y tH pw O (λt Z=>hd t (iw _ Z)) (h0 l) E λJ6 p A s1 x1 f1=>?_;refine wp_seq (wp_seq<|wp_region_list ?_);have NU:=s1.slots 0;rw[NT] at NU;obtain⟨PE,PQ,L8⟩:=cH.1 NU;have NK:∃j n m,p.tmps.getD 0 Go.undef=.slice j n m/\(j=none->l=[]):=by
  rcases PQ with ⟨⟨j,k1⟩,k2⟩|⟨L,off,m,k1,_⟩
  .exact⟨j,0,0,by rw[L8,k1];rfl,λ_=>k2⟩
  .exact⟨_,_,_,by rw[L8,k1];rfl,λh=>by cases h⟩
 obtain⟨j,n,m,J7,M⟩:=NK;have C:∀{d:Nat},(s0 l).slots d=.undef->(s0 l).put d .undef=s0 l:=by
  intro d GD;unfold St.put;generalize s0 l=q at GD⊢;obtain⟨sl,mm⟩:=q
  congr 1
  funext t;cases D:Nat.beq t d with
  | true=>obtain rfl:=cG D;exact GD.symm
  | false=>rfl
 have s2:b6 (ga nA w.heap.size) fn.ntmps J6 (s0 l) (p.put (some 3)<|.slice j n m) A:=by
  have:=s1.mP (d:=some 3) (v:=.undef) (val:=.slice j n m) (λk hk=>by cases hk;omega) ⟨_,rfl⟩;rw[show(s0 l).aA (some 3) .undef=s0 l from C (QO l)] at this;exact this
 have s3:b6 (ga nA w.heap.size) fn.ntmps J6 (s0 l) ((p.put (some 3)<|.slice j n m).put (some 4)<|.bool j.isNone) A:=by
  have:=s2.mP (d:=some 4) (v:=.undef) (val:=.bool j.isNone) (λk hk=>by cases hk;omega) ⟨_,rfl⟩;rw[show(s0 l).aA (some 4) .undef=s0 l from C (QP l)] at this;exact this
 have e3:(p.put (some 3)<|.slice j n m).eval (.tmp 3)=.slice j n m:=by
  simp[Act.eval,Act.put,s1.size];omega
 have e4:((p.put (some 3)<|.slice j n m).put (some 4)<|.bool j.isNone).eval (.tmp 4)=.bool j.isNone:=by
  have:=s2.size;simp only[Act.eval];generalize p.put (some 3) (.slice j n m)=a2 at this⊢;simp[Act.put,this,hN]
 show wpList P #[r,s] _ [r,s] p A
 unfold wpList;rw[show Region.wanted r (yielded #[r,s] p.tmps)=true by unfold Region.wanted;rw[g0]];simp only[jr];refine .inl ?_;unfold Oper.wp;have QS:(execOp p.eval r).run P A=.ok (.value<|.slice j n m) A:=by
  have:p.eval (.tmp 0)=.slice j n m:=J7;simp only[execOp,p0,this];rfl
 rw[QS];show wpList P #[r,s] _ [s] (p.put r.dst<|.slice j n m) A
 rw[d0];unfold wpList;rw[show Region.wanted s (yielded #[r,s] (p.put (some 3)<|.slice j n m).tmps)=true by unfold Region.wanted;rw[g1]];simp only[jr];refine .inl ?_;unfold Oper.wp;have QT:(execOp (p.put (some 3)<|.slice j n m).eval s).run P A=.ok (.value<|.bool j.isNone) A:=by
  have NZ:(p.put (some 3)<|.slice j n m).eval (.const<|.slice none 0 0)=.slice none 0 0:=rfl;have hg:(eqGuard .eql tid (.tmp 3) (.const<|.slice none 0 0) (.slice j n m)<|.slice none 0 0).run P A=.ok () A:=by simp[eqGuard]
  simp only[execOp,p1,e3,NZ,Sem.run_bind,hg,_root_.Go.run_eql_slice_nil A tid Cq j n m Y,Result.andThen_ok,Sem.run_pure]
 rw[QT];simp only[Oper.upon];rw[d1];refine wpList_nil ?_;have F:∀{t},t∈writes R++writes S->t∈writes O++(writes R++writes S):=λh=>pR _ h;refine wp_cond_split (t:=j.isNone) e4 (λhn=>?_) (λhn=>?_)
 .have hl:l=[]:=M (by simpa using hn);have:=hA l;rw[<-hl] at this;exact ye (w0:=w) (I:=I) (N:=fn.ntmps) u hc y (λt Z=>hd t (F<|iw _<|by simpa [writes] using Z)) this s3 x1 λa w hq=>hq
 .exact wp_skip (ye (w0:=w) (I:=I) (N:=fn.ntmps) u hc y (λt Z=>hd t (F<|pR _<|by simpa [writes] using Z)) (hB l U) s3 x1 λa w hq=>hq)
end
end Go.Ge
namespace Go.Ge
variable [Lp]
theorem dn{S R:Type}{f:S->Option (S⊕R)}{r:R}:∀(k:Nat) (st:Nat->S),(∀i,i<k->f (st i)=some (.inl<|st<|i+1))->f (st k)=some (.inr r)->Loop f (st 0)=some r:=by
 intro k;induction k with
 | zero=>intro st _ h;rw[bm,h];rfl
 | succ k c =>
   intro st b d;rw[bm,b 0 (by omega)];exact c (λi=>st (i+1)) (λi e=>b (i+1) (by omega)) d
theorem bB{i:Nat}(h:i<4611686018427387904):aK .i64 (i:Int) 1=((i+1:Nat):Int):=by
 unfold aK;simp[IntKind.wrap,IntKind.min,IntKind.max,IntKind.signed,IntKind.bits];omega
theorem tI{b:Type}(l:List b)(i:Nat):idx l (i:Int)=l[i]?:=by
 unfold idx;rw[bH<|by omega];simp
theorem H2{n:Nat}(h:n<=4294967296):fits (n:Int)=true:=by
 unfold fits;simp;omega
theorem ae{b:Type}(x y:b):av true x y=x:=rfl
theorem af{b:Type}(x y:b):av false x y=y:=rfl
theorem ag{b c:Type}(x:b)(f:b->Option c):ab (some x) f=f x:=rfl
theorem Kw(a:aE):ie a a=true:=by simp[ie]
theorem Kx(a:Int):aQ a a=true:=by simp[aQ]
theorem cg:nt true=false:=rfl
theorem cM:nt false=true:=rfl
theorem Ky{P:Program}{b:List (Nat×Ty)}(h:(b.all λp=>ed P p.2 false p.1 0 [])=true):∀tid t,find b tid=some t->Den P t tid:=λtid t c=>by
 rw[tZ] at h;exact h _ (lI c)
theorem Ao{l:List Nat}{t:Nat}(h:bJ l t=true):t∈l:=tj.1 h
def Pd(P:Program)(b:TypeId):Bool:=(match P.underlying b with|some (.pointer _)=>true|some (.func ..)=>true|_=>false)&&(match P.info? b with|some i=>Nat.beq i.size 1&&(match i.zero with|some z=>z.oneCell'|none=>false)|none=>false)
theorem Mm{P:Program}{b:List Nat}(h:(b.all λt=>Pd P t)=true):∀tid,bJ b tid=true->(∀w,(isAgg tid).run P w=.ok false w)/\(∀w,(Go.sizeOf tid).run P w=.ok 1 w)/\∃z,(∀w,(zeroValue tid).run P w=.ok z w)/\z.oneCell'=true:=λtid j=>by
 rw[tZ] at h;have:=h tid (Ao j);simp only[Pd,cA] at this;obtain⟨g,c⟩:=this;refine⟨?_,?_,?_⟩
 .intro w;split at g
  .rename_i d;simp[isAgg,run_underlying d]
  .rename_i d;simp[isAgg,run_underlying d]
  .cases g
 .intro w;split at c
  .rename_i i e;simp only[cA] at c;have:=cG c.1;simp[Go.sizeOf,typeInfo,e,this]
  .cases c
 .split at c
  .rename_i i e;simp only[cA] at c;obtain⟨_,f⟩:=c;split at f
   .rename_i z k;exact⟨z,λw=>by simp[zeroValue,typeInfo,e,k],f⟩
   .cases f
  .cases c
def Pe(P:Program)(b:TypeId):Bool:=match P.underlying b with|some (.pointer _)=>true|_=>false
theorem Mn{P:Program}{b:List Nat}(h:(b.all λt=>Pe P t)=true):∀tid,bJ b tid=true->∃e,P.underlying tid=some (.pointer e):=λtid c=>by
 rw[tZ] at h;have:=h tid (Ao c);unfold Pe at this;split at this
 .rename_i e d;exact⟨e,d⟩
 .cases this
theorem Mo{P:Program}:∀p∈([]:List (Nat×Func)),P.funcs[p.1]?=some p.2:=λp h=>by cases h
theorem ao{P:Program}{f:Nat}{c:Func}{l:List (Nat×Func)}(h:P.funcs[f]?=some c)(d:∀p∈l,P.funcs[p.1]?=some p.2):∀p∈(f,c)::l,P.funcs[p.1]?=some p.2:=λp b=>by
 rcases eR.1 b with rfl|b
 .exact h
 .exact d p b
theorem N0{P:Program}{l:List (Nat×Func)}(h:∀p∈l,P.funcs[p.1]?=some p.2):∀f b,find l f=some b->P.funcs[f]?=some b:=λf b c=>h _ (lI c)
theorem ay{P:Program}{G:eg}:∀p∈([]:List (Nat×vX)),Holds P G p.1 p.2:=λp h=>by cases h
theorem ai{P:Program}{G:eg}{f:Nat}{c:vX}{l:List (Nat×vX)}(h:Holds P G f c)(d:∀p∈l,Holds P G p.1 p.2):∀p∈(f,c)::l,Holds P G p.1 p.2:=λp b=>by
 rcases eR.1 b with rfl|b
 .exact h
 .exact d p b
theorem aL{P:Program}{G:eg}:∀p∈([]:List (Nat×sK)),aR P G (p.1 / 2) p.2:=λp h=>by cases h
theorem aa{P:Program}{G:eg}{f:Nat}{c:sK}{l:List (Nat×sK)}(h:aR P G f c)(d:∀p∈l,aR P G (p.1 / 2) p.2):∀p∈(2*f,c)::l,aR P G (p.1 / 2) p.2:=λp b=>by
 rcases eR.1 b with rfl|b
 .rw[show(2*f,c).1 / 2=f by simp];exact h
 .exact d p b
theorem BR{P:Program}:∀p∈([]:List (Nat×IW)),ko P p.1 p.2:=λp b=>by cases b
theorem qx{P:Program}{f:Nat}{s:IW}{l:List (Nat×IW)}(h:ko P f s)(c:∀p∈l,ko P p.1 p.2):∀p∈(f,s)::l,ko P p.1 p.2:=λp b=>by
 rcases eR.1 b with rfl|b
 .exact h
 .exact c p b
theorem Ap{c:Type}:∀{l:List (String×c)} {k:String} {a:c},CK l k=some a->(k,a)∈l
 | [],_,_,h=>by cases h
 | (i,a)::r,k,b,h=>by
   unfold CK at h;by_cases e:i=k
   .rw[oe e] at h;obtain rfl:=e;obtain rfl:=aq h;exact kQ ..
   .rw[uc e] at h;exact kJ _ (Ap h)
theorem aY{P:Program}{G:eg}:∀p∈([]:List (String×vX)),se P G p.1 p.2:=λp h=>by cases h
theorem qy{P:Program}{G:eg}{cx:Ctx}(h:∀p∈cx.Cr,Holds P G p.1 p.2)(k:∀p∈cx.rX,aR P G (p.1 / 2) p.2)(s:∀p∈cx.yT,ko P p.1 p.2)(v:∀p∈cx.inv,se P G p.1 p.2):jy P G cx :=
 ⟨λf c b=>h _ (lI b),λf c b=>k _ (lI b),λf c b=>s _ (lI b),λn c b=>v _ (Ap b)⟩
theorem GN{P:Program}{b:List (Nat×List jl)}(h:(b.all λp=>y4 P p.1 p.2)=true):∀tid c,find b tid=some c->y4 P tid c=true:=λtid c d=>by
 rw[tZ] at h;exact h _ (lI d)
def RJ(P:Program)(p:Nat×Nat):Bool:=match P.underlying p.1 with|some (.slice e)=>Nat.beq e p.2|_=>false
theorem N3{P:Program}{b:List (Nat×Nat)}(h:(b.all λp=>RJ P p)=true):∀tid e,find b tid=some e->P.underlying tid=some (.slice e):=λtid e c=>by
 rw[tZ] at h;have:=h _ (lI c);unfold RJ at this;split at this
 .rename_i f d;rw[d,cG this]
 .cases this
end Go.Ge
namespace Go.Ge
open RowKit
theorem vQ(c:UInt8):∀l:aE,-1<=Lib.indexByte l c/\Lib.indexByte l c<l.length:=by
 intro l;induction l with
 | nil=>exact⟨by simp[Lib.indexByte],by simp[Lib.indexByte]⟩
 | cons b r d =>
   unfold Lib.indexByte;split
   .exact⟨by simp,by simp only[gA];omega⟩
   .split
    .exact⟨by simp,by simp only[gA];omega⟩
    .simp only[gA];omega
theorem BS{P:Program}{f:Nat}{c:Func}(e:P.funcs[f]?=some c)(d:(c.name == "runtime.NumGoroutine")=false)(g:c.body.isSome=true) :
  ∃c b,P.funcs[f]?=some c/\(c.name == "runtime.NumGoroutine")=false/\c.body=some b:=by
 obtain⟨b,h⟩:=Cu.1 g;exact⟨c,b,e,d,h⟩
theorem DQ{w:World}{b:Nat}{p q v:Value}{T:TypeId}{c:Nat×Nat}(h:w.heap[b]?=some (.cells #[p,v] T c)):w.setCell ⟨b,0,none⟩ q=w.setRow b #[q,v]:=by
 unfold World.setCell World.setRow
 congr 1
 apply Array.ext_getElem?;intro i;simp only[I6];by_cases e:b=i
 .subst e;simp[h]
 .simp[e]
theorem np.refl(b:Option Nat)(w:World):np b w w:=⟨rfl,rfl,rfl,cU _,λ_ _ _=>rfl,λ_ _ _=>rfl⟩
theorem np.weaken{c:Option Nat}{w b:World}(h:np none w b):np c w b:=⟨h.os,h.tape,h.output,h.size,λk d _=>h.block k d (by simp),h.cell⟩
theorem np.drew{b:Option Nat}{w w':World}(h:np b w w'):np b w w'.drew:=⟨h.os,h.tape,h.output,h.size,h.block,h.cell⟩
theorem np.alloc{d:Option Nat}{w w':World}(h:np d w w')(o:Obj):np d w (w'.alloc o) where
 os:=h.os
 tape:=h.tape
 output:=h.output
 size:=iA h.size (by simp)
 block:=λk b e=>(cr w' o k<|rp b h.size).trans (h.block k b e)
 cell:=λk c b=>(dU<|cr w' o k<|rp b h.size).trans (h.cell k c b)
theorem np.freeze{g:Nat}{w d:World}(h:np (some g) w d)(n:Nat):np (some g) w (d.freeze ⟨g,0,none⟩ n):=by
 unfold World.freeze;split
 .exact h
 .refine⟨h.os,h.tape,h.output,iA h.size (by simp),λk f i=>?_,λk c f=>?_⟩
  .have b:¬g=k:=λe=>i (by rw[e]);rw[<-h.block k f i];simp[I6,b]
  .rw[<-h.cell k c f];by_cases e:g=k
   .subst e;simp only[World.cell?,I6,jr];cases d.heap[g]? with
    | none=>rfl
    | some o=>cases o<;>rfl
   .have b:¬g=k:=e;simp[World.cell?,I6,b]
theorem BT{P:Program}{G:eg}{f:Nat}{r:Func}{spec:aE->Int->Int}(z:P.funcs[f]?=some r)(g:(r.name == "runtime.NumGoroutine")=false)(A:r.body.isSome=true)
  (C:∀s c,(-1<=spec s c/\spec s c<s.length))
  (h:∀(s:ByteArray) (c:Int) (w:World),Calls P f #[.string s,.int .u8 c] w λe w'=>e=.returned (.int .i64<|spec s.data.toList c)/\w'=w) :
  Holds P G f ⟨.pair .str<|.pair (.int .u8) .unit,.pair (.int .i64) .unit,λx=>some (spec x.1 x.2.1,())⟩ where
 body:=by
  obtain⟨m,D⟩:=Cu.1 A;exact⟨r,m,z,g,D⟩
 calls:=by
  intro I w n x y E M i j;obtain⟨s,c,u⟩:=x;change aE at s;change Int at c;obtain rfl:((spec s c:Int),())=y:=aq j;obtain⟨O,v,t,p,F,k,q,l,d⟩:=i;obtain rfl:k=[]:=d;obtain⟨rfl,J⟩:=p;obtain⟨rfl,_⟩:=l;obtain rfl:n=#[.string ⟨s.toArray⟩,.int .u8 c]:=by
   apply yX.1;rw[t,q];rfl
  refine(h ⟨s.toArray⟩ c w).mono ?_;rintro e w' ⟨rfl,rfl⟩;refine⟨_,I,rfl,Below.refl _ _,λb o h=>h,E,λb o K L=>absurd K L,?_⟩;have hs:=C s c;have Q:s.length<=maxLen:=J;refine⟨[.int .i64<|spec s c],⟨rfl,?_,?_⟩,rfl⟩
  .have:(i64).min=-9223372036854775808:=by decide
   show(i64).min<=spec s c
   omega
  .have:(i64).max=9223372036854775807:=by decide
   have:maxLen=140737488355328\/maxLen<=9223372036854775807:=by right;decide
   show spec s c<=(i64).max
   omega
end Go.Ge
namespace Go.Ge
open RowKit Go.Proofs Go.Shelf
end Go.Ge
namespace Go.Ge
open RowKit
def Fx(k:IntKind)(b:List Int):Obj->Prop:=λo=>∃t c,o=.cells (b.map λz=>Value.int k z).toArray t c
theorem DR{P:Program}{G:eg}{w:World}{g:Nat}{b:String}{k:IntKind}{c:List Int}(d:P.globalNamed b=some g)(h:G g (Fx k c))(e:mO G w):Lib.TabIs P w b k c:=by
 obtain⟨o,f,t,i,rfl⟩:=e g _ h;simp[Lib.TabIs,World.var?,d,f]
theorem DS{P:Program}{w:World}{g:Nat}{b:String}{k:IntKind}{c:List Int}(d:P.globalNamed b=some g)(h:Lib.TabIs P w b k c):∃o,w.heap[g]?=some o/\Fx k c o:=by
 simp only[Lib.TabIs,World.var?,d,AP] at h;split at h
 .rename_i f t i e;obtain rfl:=aq h;exact⟨_,e,_,_,rfl⟩
 .cases h
theorem Fy{P:Program}{G:eg}{f:Nat}{p:Func}(z:P.funcs[f]?=some p)(c:(p.name == "runtime.NumGoroutine")=false)(A:p.body.isSome=true)
  (C:∀w,mO G w->Lib.TabIs P w "internal/strconv.uint64pow10" .u64 Lib.pow10Tab)
  (h:∀(n:Int),-9223372036854775808<=n->n<=9223372036854775807->∀w,Lib.TabIs P w "internal/strconv.uint64pow10" .u64 Lib.pow10Tab ->
   Calls P f #[.int .i64 n] w λe w'=>e=.returned (.string ⟨(Lib.itoa n).toArray⟩)/\Below w.heap.size w w') :
  Holds P G f ⟨.pair (.int .i64) .unit,.pair .str .unit,λx=>some (Lib.itoa x.1,())⟩ where
 body:=by
  obtain⟨j,D⟩:=Cu.1 A;exact⟨p,j,z,c,D⟩
 calls:=by
  intro I w k x y E F d g;obtain⟨n,u⟩:=x;change Int at n;obtain rfl:=aq g;obtain⟨M,l,q,m,i⟩:=d;obtain rfl:l=[]:=i;obtain⟨rfl,J,r⟩:=m;obtain rfl:k=#[.int .i64 n]:=by
   apply yX.1;rw[q];rfl
  have s:-9223372036854775808<=n:=by
   have:(i64).min=-9223372036854775808:=by decide
   exact this▸J
  have t:n<=9223372036854775807:=by
   have:(i64).max=9223372036854775807:=by decide
   exact this▸r
  have K:=Lib.itoa_length_le n s t;refine(h n s t w<|C w F).mono ?_;rintro e w' ⟨rfl,v⟩;exact⟨_,I,rfl,v,λb o h=>h,λb o h=>rp (E b o h) v.size,λb o r L=>absurd r L,[.string ⟨(Lib.itoa n).toArray⟩],⟨rfl,iA K (by decide)⟩,rfl⟩
theorem Holds.weaken{P:Program}{G:eg}{f:Nat}{A R:Ty}{c b:A.den->Option R.den}(h:Holds P G f ⟨A,R,c⟩)(hs:∀x y,b x=some y->c x=some y):Holds P G f ⟨A,R,b⟩ where
 body:=h.body
 calls:=λI w d x y e g i j=>h.calls I w d x y e g i (hs x y j)
theorem aR.weaken{P:Program}{G:eg}{f:Nat}{g:List Bool}{A R:Ty}{U:OT}{c b:A.den×U.den->Option (R.den×U.den)}(h:aR P G f ⟨g,A,U,R,c⟩)(hs:∀x y,b x=some y->c x=some y):aR P G f ⟨g,A,U,R,b⟩ where
 body:=h.body
 calls:=λI w d e i j x u y k l m n o p q=>h.calls I w d e i j x u y k l m n o p (hs (x,u) y q)
theorem Fz{P:Program}{G:eg}{f:Nat}{d:Func}(q:P.funcs[f]?=some d)(i:(d.name == "runtime.NumGoroutine")=false)(m:d.body.isSome=true){l:List Bool}{A R:Ty}{U:OT}{F:(A.den×U.den->Option (R.den×U.den))->A.den×U.den->Option (R.den×U.den)}
  (r:∀j,aR P G f ⟨l,A,U,R,j⟩->aR P G f ⟨l,A,U,R,F j⟩) (S:Nat->A.den×U.den->Option (R.den×U.den)) (s:∀x,S 0 x=none) (t:∀k x y,S (k+1) x=some y->F (S k) x=some y)
  {e:A.den×U.den->Option (R.den×U.den)} (v:∀x y,e x=some y->∃k,S k x=some y):aR P G f ⟨l,A,U,R,e⟩:=by
 have b:∃d c,P.funcs[f]?=some d/\(d.name == "runtime.NumGoroutine")=false/\d.body=some c:=by
  obtain⟨c,z⟩:=Cu.1 m;exact⟨d,c,q,i,z⟩
 have all:∀k,aR P G f ⟨l,A,U,R,S k⟩:=by
  intro k;induction k with
  | zero=>exact⟨b,λI w g h o p x u y _ _ _ _ _ _ n=>by have:=s (x,u);rw[show S 0 (x,u)=some y from n] at this;cases this⟩
  | succ k C=>exact(r _ C).weaken (t k)
 exact⟨b,λI w g h o p x u y D E m J K L n=>by
  obtain⟨k,M⟩:=v (x,u) y n;exact(all k).calls I w g h o p x u y D E m J K L M⟩
end Go.Ge
