import Derived.Test.YtcebnmppipejfaaGreatDoorGeI
import Derived.Lib.LazyBuf
import Derived.Lib.Bytealg
import Derived.Shelf.Strings.SplitCore
import Derived.Shelf.Strings.Search3
import Derived.Shelf.Strings.Count
import Derived.Lib.SplitLaws
import Derived.Lib.Join
import Derived.Lib.IndexBytes
import Derived.Shelf.Strconv.Itoa3
import Derived.Shelf.Strconv.ErrVarParseInt
import Derived.Lib.AppendIntMem
import Derived.Lib.ItoaLen
import Derived.Lib.LaidTab
import Derived.LaidSub
import Derived.Sort.EncStr
import Derived.Sort.Grow
import Derived.Lib.SlicesCompact
import Derived.Shelf.Spec.SlicesInsertGrow
set_option linter.unusedVariables false
set_option linter.unusedSimpArgs false
set_option linter.unusedSectionVars false
open Go.IntKind (i64)
namespace Go.Ge
open RowKit ChangeShapes WideShapes
def Wq(P:Program):Ty->List TypeId->Prop
 | .pair t r,tid::ts=>Den P t tid/\Wq P r ts
 | .unit,[]=>True
 | _,_=>False
section
variable {H:Type} {enc:TypeId×Value->H} {P:Program} {w:World} {held:Bool} {bulk:DataW H->Nat} {all:List (DataW H)->Nat}
theorem TQ{t:Ty}{f g:Nat}{v:Value}{x:t.den}(h:t.Ck=true)(d:Den P t f)(c:Value.okWide P w .any g f v)(p:bB w (old w) t x v.cells.toList):v=bW t v.cells.toList:=by
 cases t with
 | int k=>obtain⟨n,rfl⟩:=okWide_int d.int c;rfl
 | bool=>obtain⟨b,rfl⟩:=okWide_bool d.bool c;rfl
 | str=>obtain⟨s,rfl⟩:=okWide_string d.str c;rfl
 | slice e=>obtain⟨j,i,_⟩:=d.slice;obtain⟨a,l,m,rfl⟩:=okWide_slice i c;rfl
 | pair a b=>obtain⟨q,i,_⟩:=d.pair;obtain⟨o,rfl,_⟩:=okWide_struct i c;simp[bW,Ty.isAgg,Value.cells]
 | arr n e =>
   obtain⟨j,i,_⟩:=d.arr;unfold Value.okWide at c;rw[i] at c;obtain⟨o,rfl,_⟩:=c;simp[bW,Ty.isAgg,Value.cells]
 | unit=>simp[Den,ew] at d
 | alt u a r=>cases h
 | zH=>cases h
theorem acu(g:LG bulk all){base:Nat}:∀{A:Ty} {ts:List TypeId} {vs:List Value} {ds:List (DataW H)} {ps:List MemPlace},A.Ck=true->Wq P A ts->DataW.TrodAll enc P w 0 (λ_=>true) held ts vs ds ps ->
  (∀(j:Nat) t v,ts[j]?=some t->vs[j]?=some v->Value.okWide P w .any base t v)->∃x:A.den,iq w (old w) A x vs/\A.bulk x<=all ds:=by
 intro A;induction A with
 | pair t r n e =>
   intro ts vs ds ps a c h b;simp only[Ty.Ck,dF] at a;cases ts with
   | nil=>exact c.elim
   | cons tid ts =>
     obtain⟨i,o⟩:=c;obtain⟨v,f,d,s,p,q,rfl,rfl,rfl,⟨l,u⟩,z⟩:=trodAll_cons h;obtain⟨x,m,E⟩:=(acs g a.1).1 i u;obtain⟨y,B,F⟩:=e a.2 o z λj t v C D=>b (j+1) t v (by simpa using C) (by simpa using D);refine⟨(x,y),⟨v.cells.toList,f,?_,m,B⟩,?_⟩
     .rw[<-TQ a.1 i (b 0 tid v rfl rfl) m]
     .rw[g.cons];show t.bulk x+r.bulk y<=_
      omega
 | unit =>
   intro ts vs ds ps a c h b;cases ts with
   | nil =>
     obtain⟨rfl,rfl,rfl⟩:=trodAll_nil h;exact⟨(),rfl,pj _⟩
   | cons tid ts=>exact c.elim
 | _=>intro ts vs ds ps a c;exact c.elim
theorem NS(i:laidOutB P=true){W f:World}{g:Nat->Bool}:∀{ts:List TypeId} {vs:List Value} {ds:List (DataW H)} {ps:List MemPlace},(∀t∈ts,P.readableRec t=true/\t<P.types.size) ->
  DataW.TrodAll enc P W 0 (λ_=>true) true ts vs ds ps->(∀p∈ps,W.sameAt f p)->(∀p∈ps,g p.block=true)->DataW.TrodAll enc P f 0 g true ts vs ds ps:=by
 intro ts;induction ts with
 | nil=>intro vs ds ps _ h _ _;obtain⟨rfl,rfl,rfl⟩:=trodAll_nil h;rfl
 | cons t ts j =>
   intro vs ds ps e h a c;obtain⟨v,l,d,m,p,q,rfl,rfl,rfl,n,o⟩:=trodAll_cons h;refine⟨p,q,WideElems.Trod_stays i (e t<|oB ..).1 (e t<|oB ..).2 n (λx b=>a x (nB _ b)) (λx b=>c x (nB _ b)),?_,rfl⟩;exact j (λt r=>e t (oA _ r)) o (λx b=>a x (mP _ b)) (λx b=>c x (mP _ b))
def Ty.ok:(t:Ty)->t.den->Prop
 | .int k,n=>k.min<=(show Int from n)/\(show Int from n)<=k.max
 | .bool,_=>True
 | .str,s=>List.length (α:=UInt8) s<=maxLen
 | .slice e,l=>∀(i:Nat) (x:e.den),(show List e.den from l)[i]?=some x->e.ok x
 | .arr n e,l=>List.length (α:=e.den) l=n/\∀(i:Nat) (x:e.den),(show List e.den from l)[i]?=some x->e.ok x
 | .pair a b,x=>a.ok x.1/\b.ok x.2
 | .unit,_=>True
 | .alt _ _ _,_=>True
 | .zH,_=>True
theorem bB.ok{I:Nat->Nat->Prop}:∀{t:Ty} {x:t.den} {cs:List Value},bB w I t x cs->t.ok x:=by
 intro t;induction t with
 | int k=>intro x cs h;exact h.2
 | bool=>intro x cs h;trivial
 | str=>intro x cs h;exact h.2
 | slice e d =>
   intro x cs h i y c;rcases h with ⟨_,h⟩|⟨blk,off,cap,j,l,p,m⟩
   .rw[show(show List e.den from x)=[] from h] at c;cases c
   .obtain⟨es,_,_,o⟩:=m i y c;exact d o
 | arr n e d=>intro x cs h;exact⟨h.1,λi y c=>d (h.2.2 i y c)⟩
 | pair a b f g=>intro x cs h;obtain⟨q,s,_,j,l⟩:=h;exact⟨f j,g l⟩
 | unit=>intro x cs h;trivial
 | alt u a r=>intro x cs h;trivial
 | zH=>intro x cs h;trivial
theorem iq.ok{I:Nat->Nat->Prop}:∀{A:Ty} {x:A.den} {xs:List Value},iq w I A x xs->A.ok x:=by
 intro A;induction A with
 | pair t r b a=>intro x xs h;obtain⟨cs,rest,_,c,d⟩:=h;exact⟨c.ok,a d⟩
 | unit=>intro x xs h;trivial
 | _=>intro x xs h;exact h.elim
theorem ZE(U:LG bulk all)(V:laidOutB P=true){z tb:Nat}{m:Func}{s:ChangeSpec}{A:Ty}{spec:A.den->Option (Ty.pair .bool .unit).den}{f n g:Bool}
  (B:Wq P A m.params.toList) (r:∀t∈m.params.toList,P.readableRec t=true/\t<P.types.size) (C:m.resultTypes=#[tb]) (I:P.underlying tb=some .bool) (D:s.vars=[])
  (X:∀c:List (DataW H),c.length=m.params.toList.length->s.fn H c={ results:=[.lit<|.bool true],args:=c }) {G:fm} (Y:Holds P G z ⟨A,.pair .bool .unit,spec⟩)
  {W:World} (Z:F2 G W) {base:Nat} {a:Array Value} {c O:List (DataW H)} {l:List MemPlace} (E:∀(j:Nat) t v,m.params[j]?=some t->a[j]?=some v->Value.okWide P W .any base t v)
  (J:DataW.Whole enc P m.params.toList s.vars f W a.toList c O l) (i:∀x:A.den,A.ok x->A.bulk x<=all (c++O)->spec x=some (true,())) (K:A.Ck=true:=by rfl) :
  Calls P z a W λe Q=>∃v,e=.returned v/\s.post enc P m f n g false W a v Q:=by
 have u:=J.lt;have F:=J;obtain⟨p,q,L,R,rfl,hfz,hnd⟩:=J;rw[D] at R;obtain⟨rfl,rfl⟩:=trodVars_none R;simp only[wX] at F u i;obtain⟨x,S,x2⟩:=acu U (base:=base) K B L λj t v hj M=>E j t v (by simpa using hj) (by simpa using M);have hlen:∀{ts:List TypeId} {vs:List Value} {c:List (DataW H)} {ps:List MemPlace},DataW.TrodAll enc P W 0 (λ_=>true) true ts vs c ps->c.length=ts.length:=by
  intro ts;induction ts with
  | nil=>intro vs c ps h;obtain⟨_,rfl,_⟩:=trodAll_nil h;rfl
  | cons t ts ih=>intro vs c ps h;obtain⟨v,vs',d,ds',p,q,rfl,rfl,rfl,h1,h2⟩:=trodAll_cons h;simp[ih h2]
 have y:=X c (hlen L);refine(Y.calls (old W) W a x (true,()) (λb o h=>h) Z S<|i x S.ok x2).mono λe Q hw=>?_;obtain⟨v,I',rfl,T,_,_,_,hr⟩:=hw;obtain⟨cs,rfl,M⟩:=hr;obtain rfl:v=.bool true:=by simpa [bW,Ty.isAgg] using M
 refine⟨_,rfl,c,[],p,[],p,[],F,?_,?_,?_,T.frame _,λh=>by cases h⟩
 .rw[wX,y,C];exact trodAll_mk1 (shut_bool I true)
 .rw[wX,y];exact NS V r L (λx N=>T.same (u x N)) (λx N=>by simpa using u x N)
 .rw[wX,y,D];rfl
end
end Go.Ge
namespace Go.Ge
variable [Lp]
open RowKit
noncomputable def aez(a:Ctx)(b:List Nat)(d:List ResultVar)(R:Ty)(c:Code)(σ:St):Option R.den :=
 ((iC a 0 b zV c [] σ).bind λr=>bif Nat.beq r.1 1 then((results1 a r.2 d).bind λv=>match ig (iQ r.2.mem) R (Ee R v) with
  | some y=>.ret y
  | none=>.fail) else .fail).run
section
variable {P:Program} {cx:Ctx} {bf:List Nat}
theorem EN{G:fm}:vq P G zV:=λB γ σ aV w f a b v _ _ _ h=>by cases h
theorem yo:∀f a σ v aV,(zV f a σ).run=some (v,aV)->bj σ aV:=λf a σ v aV h=>by cases h
def Ends(w:World)(I:Nat->Nat->Prop)(R:Ty)(y:R.den)(e:Ending)(c:World):Prop :=
 ∃v a,e=.returned v/\Below w.heap.size w c/\(∀b o,I b o->a b o)/\(∀b o,a b o->b<c.heap.size)/\(∀b o,a b o->¬I b o->w.heap.size<=b)/\lV c a R y v
theorem Py{Q:Exit->Act->World->Prop}(i:P.follows .mixedOrders=true)(z:eS P cx){G:fm}(j:oT P G cx){fn:Func}{R:Ty}{y:R.den}{c:Code}{σ:St}{A:Gh}{a:Act}{w0 w:World}{N:Nat}{I:Nat->Nat->Prop}
  (E:∀t∈writes c,t<N) (B:aez cx bf fn.results.toList R c σ=some y) (h:cQ (lZ G w0.heap.size) N A σ a w) (F:Ext (lZ G w0.heap.size) ⟨I,λ_=>none⟩ (λ_=>none) w0 A σ.mem w)
  (J:∀a w,bodyPost P fn (Ends w0 I R y) .ret a w->Q .ret a w):c.wp P Q a w:=by
 unfold aez at B;obtain⟨r,l,m⟩:=bind_some B;obtain⟨e,aV⟩:=r;obtain⟨K,L⟩:=aw m;obtain⟨v,M,n⟩:=bind_some L;have O:ig (iQ aV.mem) R (Ee R v)=some y:=by
  split at n
  .rename_i V p;obtain rfl:=aE n;exact p
  .cases n
 refine rU i z j EN yo c E l h λbG C w' s x f=>?_;obtain⟨g,S,T⟩:=wm (fn:=fn) z s M;have q:=F.trans x;have key:Ends w0 I R y (.returned g) w':=by
  refine⟨g,λb o=>bG.I b o\/(w0.heap.size<=b/\b<w'.heap.size),rfl,q.below.below,λb o d=>.inl (q.I b o d),λb o d=>?_,λb o d U=>?_,?_⟩
  .rcases d with d|d
   .exact s.ok.sV b o d
   .exact d.2
  .rcases d with d|d
   .exact pB.1 ((q.pC b o d).resolve_left U)
   .exact d.1
  .exact Px (σ:=iQ aV.mem) s.ok (λb o d=>.inl d) (λb o l m=>.inr ⟨pB.1 l,m⟩) T O
 have:C.defers=[]/\∃D,(results fn C.tmps).run P w'=.ok D w'/\Ends w0 I R y (.returned D) w':=⟨s.defers,g,S,key⟩;have u:e=1:=eT K;subst u;exact J _ _ this
theorem mv(B:P.follows .mixedOrders=true)(hc:eS P cx){G:fm}(C:oT P G cx){f tid id1:Nat}{fn:Func}{e:Ty}{Y Z R3:Code}{z A:Oper}{ty2:TypeId}{s0:List e.den->St}
  (hP:P.funcs[f]?=some fn) (O:(fn.name == "runtime.NumGoroutine")=false)
  (D:fn.body=some (.seq Y<|.seq (.seq (.region id1 #[z,A] false)<|.cond (.tmp 4) (.seq Z .ret) .skip)<|.seq R3 .ret))
  (hT:find cx.T tid=some (.slice e)) (hN:4<fn.ntmps) (hd:∀t∈writes Y++(writes Z++writes R3),t<fn.ntmps)
  (g0:z.guard=none) (d0:z.dst=some 3) (p0:z.op=.move (.tmp 0)) (g1:A.guard=none) (d1:A.dst=some 4) (p1:A.op=.binOp .eql tid (.tmp 3) (.const<|.slice none 0 0) ty2)
  (h0:∀l,(iC cx 0 bf zV Y []<|nM (λ_=>none) [.data (.slice e) l]).run=some (0,s0 l)) (hs0:∀l,(s0 l).slots 0=.data (.slice e) l) (hs3:∀l,(s0 l).slots 3=.undef) (hs4:∀l,(s0 l).slots 4=.undef)
  (hA:∀l,aez cx bf fn.results.toList (.pair (.slice e) .unit) (.seq Z .ret) (s0 l)=some (([]:List e.den),()))
  (hB:∀l:List e.den,fits (len l)=true->aez cx bf fn.results.toList (.pair (.slice e) .unit) (.seq R3 .ret) (s0 l)=some (l,())) :
  Holds P G f ⟨.pair (.slice e) .unit,.pair (.slice e) .unit,λx=>bif fits (len (α:=e.den) x.1) then some x else none⟩ where
 body:=⟨fn,_,hP,O,D⟩
 calls:=by
  intro I w r x y hI hG S p;obtain⟨l,u⟩:=x;change List e.den at l;have E:fits (len l)=true/\y=(l,()):=by
   change (bif fits (len l) then some ((l,u):(Ty.pair (.slice e) .unit).den) else none)=some y at p;cases X:fits (len l) with
   | true=>rw[X] at p;exact⟨rfl,(aE p).symm⟩
   | false=>rw[X] at p;cases p
  obtain⟨E,rfl⟩:=E;obtain⟨cs,rest,hal,af3,U⟩:=S;obtain rfl:rest=[]:=U;obtain⟨Y1,ajw,_⟩:=(hc.T _ _ hT).slice;have hm:bu (lZ G w.heap.size) ⟨I,λ_=>none⟩ (λ_=>none) w :=
   { cP:=λb Q g=>by
      obtain⟨o,h1,h2⟩:=hG b Q g;exact⟨λF=>by have:=pB.1 F;have:=(u9.1 h1).1;omega,o,h1,h2⟩
     base:=cD _
     boxes:=λb bx F=>by cases F
     inj:=λb c V k k' F=>absurd rfl F
     fresh:=λb V k F=>absurd rfl F
     sV:=hI
     sep:=λb bx V k off F=>by cases F }
  have hv:kV ⟨I,λ_=>none⟩ (λ_=>none) w [.data (.slice e) l] r.toList:=by
   rw[hal];refine⟨rfl,λi v x hv hx=>?_⟩;cases i with
   | zero=>obtain rfl:=aE hv;obtain rfl:=aE hx;exact⟨cs,af3,rfl⟩
   | succ i=>cases hv
  show Calls P f r w (Ends w I (.pair (.slice e) .unit) (l,()))
  refine calls_of_wp hP D (wp_seq ?_);have VE:r.size=1:=by have:=congrArg List.length hal;simpa using this
  have hNN:r.size+(fn.ntmps-r.size)=fn.ntmps:=by omega
  have L:=Gp hm hv fn.ntmps;rw[hNN] at L;refine rU B hc C EN yo Y (λt ht=>hd t (nB _ ht)) (h0 l) L λγ1 s J s1 x1 f1=>?_;refine wp_seq (wp_seq<|wp_region_list ?_);have hr0:=s1.slots 0;rw[hs0] at hr0;obtain⟨cs1,hc1,hv1⟩:=dY.1 hr0;have hsl:∃j n m,s.tmps.getD 0 Go.undef=.slice j n m/\(j=none->l=[]):=by
   rcases hc1 with ⟨⟨j,k1⟩,k2⟩|⟨V,off,m,k1,_⟩
   .exact⟨j,0,0,by rw[hv1,k1];rfl,λ_=>k2⟩
   .exact⟨_,_,_,by rw[hv1,k1];rfl,λh=>by cases h⟩
  obtain⟨j,n,m,ab2,W⟩:=hsl;have K:∀{d:Nat},(s0 l).slots d=.undef->(s0 l).put d .undef=s0 l:=by
   intro d X4;unfold St.put;generalize s0 l=q at X4⊢;obtain⟨sl,mm⟩:=q
   congr 1
   funext t;cases F:Nat.beq t d with
   | true=>obtain rfl:=eT F;exact X4.symm
   | false=>rfl
  have s2:cQ (lZ G w.heap.size) fn.ntmps γ1 (s0 l) (s.put (some 3)<|.slice j n m) J:=by
   have:=s1.uo (d:=some 3) (v:=.undef) (val:=.slice j n m) (λk hk=>by cases hk;omega) ⟨_,rfl⟩;rw[show(s0 l).aS (some 3) .undef=s0 l from K (hs3 l)] at this;exact this
  have s3:cQ (lZ G w.heap.size) fn.ntmps γ1 (s0 l) ((s.put (some 3)<|.slice j n m).put (some 4)<|.bool j.isNone) J:=by
   have:=s2.uo (d:=some 4) (v:=.undef) (val:=.bool j.isNone) (λk hk=>by cases hk;omega) ⟨_,rfl⟩;rw[show(s0 l).aS (some 4) .undef=s0 l from K (hs4 l)] at this;exact this
  have e3:(s.put (some 3)<|.slice j n m).eval (.tmp 3)=.slice j n m:=by
   simp[Act.eval,Act.put,s1.size];omega
  have e4:((s.put (some 3)<|.slice j n m).put (some 4)<|.bool j.isNone).eval (.tmp 4)=.bool j.isNone:=by
   have:=s2.size;simp only[Act.eval];generalize s.put (some 3) (.slice j n m)=a2 at this⊢;simp[Act.put,this,hN]
  show wpList P #[z,A] _ [z,A] s J
  unfold wpList;rw[show Region.wanted z (yielded #[z,A] s.tmps)=true by unfold Region.wanted;rw[g0]];simp only[mh];refine .inl ?_;unfold Oper.wp;have ex0:(execOp s.eval z).run P J=.ok (.value<|.slice j n m) J:=by
   have:s.eval (.tmp 0)=.slice j n m:=ab2;simp only[execOp,p0,this];rfl
  rw[ex0];show wpList P #[z,A] _ [A] (s.put z.dst<|.slice j n m) J
  rw[d0];unfold wpList;rw[show Region.wanted A (yielded #[z,A] (s.put (some 3)<|.slice j n m).tmps)=true by unfold Region.wanted;rw[g1]];simp only[mh];refine .inl ?_;unfold Oper.wp;have ex1:(execOp (s.put (some 3)<|.slice j n m).eval A).run P J=.ok (.value<|.bool j.isNone) J:=by
   have agj:(s.put (some 3)<|.slice j n m).eval (.const<|.slice none 0 0)=.slice none 0 0:=rfl;have hg:(eqGuard .eql tid (.tmp 3) (.const<|.slice none 0 0) (.slice j n m)<|.slice none 0 0).run P J=.ok () J:=by simp[eqGuard]
   simp only[execOp,p1,e3,agj,Sem.run_bind,hg,_root_.Go.run_eql_slice_nil J tid Y1 j n m ajw,Result.andThen_ok,Sem.run_pure]
  rw[ex1];simp only[Oper.upon];rw[d1];refine wpList_nil ?_;have M:∀{t},t∈writes Z++writes R3->t∈writes Y++(writes Z++writes R3):=λh=>mP _ h;refine wp_cond_split (t:=j.isNone) e4 (λhn=>?_) (λhn=>?_)
  .have hl:l=[]:=W (by simpa using hn);have:=hA l;rw[<-hl] at this;exact Py (w0:=w) (I:=I) (R:=.pair (.slice e) .unit) (N:=fn.ntmps) B hc C (λt ht=>hd t (M<|nB _<|by simpa [writes] using ht)) this s3 x1 λa w X=>X
  .exact wp_skip (Py (w0:=w) (I:=I) (R:=.pair (.slice e) .unit) (N:=fn.ntmps) B hc C (λt ht=>hd t (M<|mP _<|by simpa [writes] using ht)) (hB l E) s3 x1 λa w X=>X)
noncomputable def aeA(a:Ctx)(b:List Nat)(d:List ResultVar)(e:Ty)(c:Code)(σ:St):Option (List e.den) :=
 ((iC a 0 b zV c [] σ).bind λr=>bif Nat.beq r.1 1 then((results1 a r.2 d).bind λv=>match yd e r.2 v with
  | some x=>.ret x.2.2.2
  | none=>.fail) else .fail).run
def Yc(w:World)(I:Nat->Nat->Prop)(e:Ty)(l:List e.den)(q:Ending)(b:World):Prop :=
 ∃v d L,q=.returned v/\kH w I (λ_=>False) b d/\vp b d e l L v/\∀a c,L=some (a,c)->w.heap.size<=a
theorem LH{Q:Exit->Act->World->Prop}(i:P.follows .mixedOrders=true)(u:eS P cx){G:fm}(j:oT P G cx){fn:Func}{e:Ty}{l:List e.den}{c:Code}{σ:St}{y:Gh}{a:Act}{w0 w:World}{N:Nat}{I:Nat->Nat->Prop}
  (K:∀t∈writes c,t<N) (z:aeA cx bf fn.results.toList e c σ=some l) (h:cQ (lZ G w0.heap.size) N y σ a w) (L:Ext (lZ G w0.heap.size) ⟨I,λ_=>none⟩ (λ_=>none) w0 y σ.mem w)
  (M:∀a w,bodyPost P fn (Yc w0 I e l) .ret a w->Q .ret a w):c.wp P Q a w:=by
 unfold aeA at z;obtain⟨r,O,R⟩:=bind_some z;obtain⟨x,aV⟩:=r;obtain⟨S,T⟩:=aw R;obtain⟨v,U,p⟩:=bind_some T;split at p
 case h_2=>cases p
 rename_i o A;obtain⟨b,V,bx,B⟩:=o;obtain rfl:=aE p;obtain⟨W,C,D,X,Y,E,_⟩:=rR A;refine rU i u j EN yo c K O h λbG F w' s x f=>?_;obtain⟨d,Z,r2⟩:=wm (fn:=fn) u s U;have g:=L.trans x;obtain⟨m,he⟩:=Pm (σ:=aV) s.ok A r2;have key:Yc w0 I e B (.returned d) w':=by
  refine⟨d,bG.I,bG.loc b,rfl,⟨⟨g.below.os,g.below.tape,g.below.output,g.below.size,λk hk=>g.below.block k hk⟩,g.I,s.ok.sV,λb o hi hn=>pB.1 ((g.pC b o hi).resolve_left hn)⟩,m,λq c hl=>?_⟩;exact pB.1 (s.ok.fresh b q c (by rw[W];simp) hl).1
 have:F.defers=[]/\∃J,(results fn F.tmps).run P w'=.ok J w'/\Yc w0 I e B (.returned J) w':=⟨s.defers,d,Z,key⟩;have n:_=1:=eT S;dsimp only at n;subst n;exact M _ _ this
theorem oW(u:P.follows .mixedOrders=true)(hc:eS P cx)(y:oT P vl cx){f tid id1:Nat}{fn:Func}{e:Ty}{M O R:Code}{r s:Oper}{ty2:TypeId}{s0:List e.den->St}
 (hP:P.funcs[f]?=some fn) (F:(fn.name == "runtime.NumGoroutine")=false)
 (z:fn.body=some (.seq M<|.seq (.seq (.region id1 #[r,s] false)<|.cond (.tmp 4) (.seq O .ret) .skip)<|.seq R .ret))
 (hT:find cx.T tid=some (.slice e)) (hN:4<fn.ntmps) (hd:∀t∈writes M++(writes O++writes R),t<fn.ntmps)
 (g0:r.guard=none) (d0:r.dst=some 3) (p0:r.op=.move (.tmp 0)) (g1:s.guard=none) (d1:s.dst=some 4) (p1:s.op=.binOp .eql tid (.tmp 3) (.const<|.slice none 0 0) ty2)
 (h0:∀l,(iC cx 0 bf zV M []<|nM (λ_=>none) [.data (.slice e) l]).run=some (0,s0 l)) (hs0:∀l,(s0 l).slots 0=.data (.slice e) l) (hs3:∀l,(s0 l).slots 3=.undef) (hs4:∀l,(s0 l).slots 4=.undef)
 (hA:∀l,aeA cx bf fn.results.toList e (.seq O .ret) (s0 l)=some [])
 (hB:∀l:List e.den,fits (len l)=true->aeA cx bf fn.results.toList e (.seq R .ret) (s0 l)=some l) :
 eF P f (.clone e):=by
 refine⟨⟨fn,_,hP,F,z⟩,λI w o l hI G S=>?_⟩;obtain⟨cs,U,V,W,J⟩:=G;obtain rfl:U=[]:=J;obtain⟨Y1,X,_⟩:=(hc.T _ _ hT).slice;have hm:bu (lZ vl w.heap.size) ⟨I,λ_=>none⟩ (λ_=>none) w :=
  { cP:=λb Q g=>g.elim
    base:=cD _
    boxes:=λb bx C=>by cases C
    inj:=λb c K k k' C=>absurd rfl C
    fresh:=λb K k C=>absurd rfl C
    sV:=hI
    sep:=λb bx K k off C=>by cases C }
 have hv:kV ⟨I,λ_=>none⟩ (λ_=>none) w [.data (.slice e) l] o.toList:=by
  rw[V];refine⟨rfl,λi v x hv hx=>?_⟩;cases i with
  | zero=>obtain rfl:=aE hv;obtain rfl:=aE hx;exact⟨cs,W,rfl⟩
  | succ i=>cases hv
 show Calls P f o w (Yc w I e l)
 refine calls_of_wp hP z (wp_seq ?_);have VE:o.size=1:=by have:=congrArg List.length V;simpa using this
 have hNN:o.size+(fn.ntmps-o.size)=fn.ntmps:=by omega
 have D:=Gp hm hv fn.ntmps;rw[hNN] at D;refine rU u hc y EN yo M (λt Y=>hd t (nB _ Y)) (h0 l) D λZ p A s1 x1 f1=>?_;refine wp_seq (wp_seq<|wp_region_list ?_);have hr0:=s1.slots 0;rw[hs0] at hr0;obtain⟨cs1,hc1,hv1⟩:=dY.1 hr0;have hsl:∃j n m,p.tmps.getD 0 Go.undef=.slice j n m/\(j=none->l=[]):=by
  rcases hc1 with ⟨⟨j,k1⟩,k2⟩|⟨K,off,m,k1,_⟩
  .exact⟨j,0,0,by rw[hv1,k1];rfl,λ_=>k2⟩
  .exact⟨_,_,_,by rw[hv1,k1];rfl,λh=>by cases h⟩
 obtain⟨j,n,m,ab2,L⟩:=hsl;have B:∀{d:Nat},(s0 l).slots d=.undef->(s0 l).put d .undef=s0 l:=by
  intro d X4;unfold St.put;generalize s0 l=q at X4⊢;obtain⟨sl,mm⟩:=q
  congr 1
  funext t;cases C:Nat.beq t d with
  | true=>obtain rfl:=eT C;exact X4.symm
  | false=>rfl
 have s2:cQ (lZ vl w.heap.size) fn.ntmps Z (s0 l) (p.put (some 3)<|.slice j n m) A:=by
  have:=s1.uo (d:=some 3) (v:=.undef) (val:=.slice j n m) (λk hk=>by cases hk;omega) ⟨_,rfl⟩;rw[show(s0 l).aS (some 3) .undef=s0 l from B (hs3 l)] at this;exact this
 have s3:cQ (lZ vl w.heap.size) fn.ntmps Z (s0 l) ((p.put (some 3)<|.slice j n m).put (some 4)<|.bool j.isNone) A:=by
  have:=s2.uo (d:=some 4) (v:=.undef) (val:=.bool j.isNone) (λk hk=>by cases hk;omega) ⟨_,rfl⟩;rw[show(s0 l).aS (some 4) .undef=s0 l from B (hs4 l)] at this;exact this
 have e3:(p.put (some 3)<|.slice j n m).eval (.tmp 3)=.slice j n m:=by
  simp[Act.eval,Act.put,s1.size];omega
 have e4:((p.put (some 3)<|.slice j n m).put (some 4)<|.bool j.isNone).eval (.tmp 4)=.bool j.isNone:=by
  have:=s2.size;simp only[Act.eval];generalize p.put (some 3) (.slice j n m)=a2 at this⊢;simp[Act.put,this,hN]
 show wpList P #[r,s] _ [r,s] p A
 unfold wpList;rw[show Region.wanted r (yielded #[r,s] p.tmps)=true by unfold Region.wanted;rw[g0]];simp only[mh];refine .inl ?_;unfold Oper.wp;have ex0:(execOp p.eval r).run P A=.ok (.value<|.slice j n m) A:=by
  have:p.eval (.tmp 0)=.slice j n m:=ab2;simp only[execOp,p0,this];rfl
 rw[ex0];show wpList P #[r,s] _ [s] (p.put r.dst<|.slice j n m) A
 rw[d0];unfold wpList;rw[show Region.wanted s (yielded #[r,s] (p.put (some 3)<|.slice j n m).tmps)=true by unfold Region.wanted;rw[g1]];simp only[mh];refine .inl ?_;unfold Oper.wp;have ex1:(execOp (p.put (some 3)<|.slice j n m).eval s).run P A=.ok (.value<|.bool j.isNone) A:=by
  have agj:(p.put (some 3)<|.slice j n m).eval (.const<|.slice none 0 0)=.slice none 0 0:=rfl;have hg:(eqGuard .eql tid (.tmp 3) (.const<|.slice none 0 0) (.slice j n m)<|.slice none 0 0).run P A=.ok () A:=by simp[eqGuard]
  simp only[execOp,p1,e3,agj,Sem.run_bind,hg,_root_.Go.run_eql_slice_nil A tid Y1 j n m X,Result.andThen_ok,Sem.run_pure]
 rw[ex1];simp only[Oper.upon];rw[d1];refine wpList_nil ?_;have E:∀{t},t∈writes O++writes R->t∈writes M++(writes O++writes R):=λh=>mP _ h;refine wp_cond_split (t:=j.isNone) e4 (λhn=>?_) (λhn=>?_)
 .have hl:l=[]:=L (by simpa using hn);have:=hA l;rw[<-hl] at this;exact LH (w0:=w) (I:=I) (N:=fn.ntmps) u hc y (λt Y=>hd t (E<|nB _<|by simpa [writes] using Y)) this s3 x1 λa w hq=>hq
 .exact wp_skip (LH (w0:=w) (I:=I) (N:=fn.ntmps) u hc y (λt Y=>hd t (E<|mP _<|by simpa [writes] using Y)) (hB l S) s3 x1 λa w hq=>hq)
end
end Go.Ge
namespace Go.Ge
variable [Lp]
theorem cq{S R:Type}{f:S->Option (S⊕R)}{r:R}:∀(k:Nat) (st:Nat->S),(∀i,i<k->f (st i)=some (.inl<|st<|i+1))->f (st k)=some (.inr r)->Loop f (st 0)=some r:=by
 intro k;induction k with
 | zero=>intro st _ h;rw[aR,h];rfl
 | succ k b =>
   intro st a c;rw[aR,a 0 (by omega)];exact b (λi=>st (i+1)) (λi d=>a (i+1) (by omega)) c
theorem aT{i:Nat}(h:i<4611686018427387904):ax .i64 (i:Int) 1=((i+1:Nat):Int):=by
 unfold ax;simp[IntKind.wrap,IntKind.min,IntKind.max,IntKind.signed,IntKind.bits];omega
theorem vw{a:Type}(l:List a)(i:Nat):idx l (i:Int)=l[i]?:=by
 unfold idx;rw[bd<|by omega];simp
theorem ZF{n:Nat}(h:n<=4294967296):fits (n:Int)=true:=by
 unfold fits;simp;omega
theorem ae{a:Type}(x y:a):aj true x y=x:=rfl
theorem af{a:Type}(x y:a):aj false x y=y:=rfl
theorem aa{a b:Type}(x:a)(f:a->Option b):ab (some x) f=f x:=rfl
theorem rW(a:aq):bz a a=true:=by simp[bz]
theorem nO(a:Int):aL a a=true:=by simp[aL]
theorem aH:nt true=false:=rfl
theorem aA:nt false=true:=rfl
theorem acv{P:Program}{a:List (Nat×Ty)}(h:(a.all λp=>ew P p.2 false p.1 0 [])=true):∀tid t,find a tid=some t->Den P t tid:=λtid t b=>by
 rw[va] at h;exact h _ (rV b)
theorem Pz{l:List Nat}{t:Nat}(h:cK l t=true):t∈l:=Ex.1 h
def ahH(P:Program)(a:TypeId):Bool:=(match P.underlying a with|some (.pointer _)=>true|some (.func ..)=>true|_=>false)&&(match P.info? a with|some i=>Nat.beq i.size 1&&(match i.zero with|some z=>z.oneCell'|none=>false)|none=>false)
theorem Yd{P:Program}{a:List Nat}(h:(a.all λt=>ahH P t)=true):∀tid,cK a tid=true->(∀w,(isAgg tid).run P w=.ok false w)/\(∀w,(Go.sizeOf tid).run P w=.ok 1 w)/\∃z,(∀w,(zeroValue tid).run P w=.ok z w)/\z.oneCell'=true:=λtid g=>by
 rw[va] at h;have:=h tid (Pz g);simp only[ahH,dF] at this;obtain⟨f,b⟩:=this;refine⟨?_,?_,?_⟩
 .intro w;split at f
  .rename_i c;simp[isAgg,run_underlying c]
  .rename_i c;simp[isAgg,run_underlying c]
  .cases f
 .intro w;split at b
  .rename_i i d;simp only[dF] at b;have:=eT b.1;simp[Go.sizeOf,typeInfo,d,this]
  .cases b
 .split at b
  .rename_i i d;simp only[dF] at b;obtain⟨_,e⟩:=b;split at e
   .rename_i z j;exact⟨z,λw=>by simp[zeroValue,typeInfo,d,j],e⟩
   .cases e
  .cases b
def ahI(P:Program)(a:TypeId):Bool:=match P.underlying a with|some (.pointer _)=>true|_=>false
theorem Ye{P:Program}{a:List Nat}(h:(a.all λt=>ahI P t)=true):∀tid,cK a tid=true->∃e,P.underlying tid=some (.pointer e):=λtid b=>by
 rw[va] at h;have:=h tid (Pz b);unfold ahI at this;split at this
 .rename_i e c;exact⟨e,c⟩
 .cases this
theorem Yf{P:Program}:∀p∈([]:List (Nat×Func)),P.funcs[p.1]?=some p.2:=λp h=>by cases h
theorem ah{P:Program}{f:Nat}{b:Func}{l:List (Nat×Func)}(h:P.funcs[f]?=some b)(c:∀p∈l,P.funcs[p.1]?=some p.2):∀p∈(f,b)::l,P.funcs[p.1]?=some p.2:=λp a=>by
 rcases fY.1 a with rfl|a
 .exact h
 .exact c p a
theorem acw{P:Program}{l:List (Nat×Func)}(h:∀p∈l,P.funcs[p.1]?=some p.2):∀f a,find l f=some a->P.funcs[f]?=some a:=λf a b=>h _ (rV b)
theorem ak{P:Program}{G:fm}:∀p∈([]:List (Nat×x4)),Holds P G p.1 p.2:=λp h=>by cases h
theorem ag{P:Program}{G:fm}{f:Nat}{c:x4}{l:List (Nat×x4)}(h:Holds P G f c)(b:∀p∈l,Holds P G p.1 p.2):∀p∈(f,c)::l,Holds P G p.1 p.2:=λp a=>by
 rcases fY.1 a with rfl|a
 .exact h
 .exact b p a
theorem cF{P:Program}{G:fm}:∀p∈([]:List (Nat×xd)),eP P G (p.1 / 2) p.2:=λp h=>by cases h
theorem fQ{P:Program}{G:fm}{f:Nat}{c:xd}{l:List (Nat×xd)}(h:eP P G f c)(b:∀p∈l,eP P G (p.1 / 2) p.2):∀p∈(2*f,c)::l,eP P G (p.1 / 2) p.2:=λp a=>by
 rcases fY.1 a with rfl|a
 .rw[show(2*f,c).1 / 2=f by simp];exact h
 .exact b p a
theorem ra{P:Program}:∀p∈([]:List (Nat×Y2)),eF P p.1 p.2:=λp a=>by cases a
theorem dv{P:Program}{f:Nat}{s:Y2}{l:List (Nat×Y2)}(h:eF P f s)(b:∀p∈l,eF P p.1 p.2):∀p∈(f,s)::l,eF P p.1 p.2:=λp a=>by
 rcases fY.1 a with rfl|a
 .exact h
 .exact b p a
theorem PA{c:Type}:∀{l:List (String×c)} {k:String} {a:c},SR l k=some a->(k,a)∈l
 | [],_,_,h=>by cases h
 | (i,a)::r,k,b,h=>by
   unfold SR at h;by_cases e:i=k
   .rw[cd e] at h;obtain rfl:=e;obtain rfl:=aE h;exact oB ..
   .rw[dL e] at h;exact oA _ (PA h)
theorem dy{P:Program}{G:fm}:∀p∈([]:List (String×x4)),kG P G p.1 p.2:=λp h=>by cases h
theorem TR{P:Program}{G:fm}{f:String}{c:x4}{l:List (String×x4)}(h:kG P G f c)(b:∀p∈l,kG P G p.1 p.2):∀p∈(f,c)::l,kG P G p.1 p.2:=λp a=>by
 rcases fY.1 a with rfl|a
 .exact h
 .exact b p a
theorem eZ{P:Program}{G:fm}{b:Ctx}(h:∀p∈b.con,Holds P G p.1 p.2)(k:∀p∈b.Ql,eP P G (p.1 / 2) p.2)(s:∀p∈b.Nn,eF P p.1 p.2)(v:∀p∈b.inv,kG P G p.1 p.2):oT P G b :=
 ⟨λf c a=>h _ (rV a),λf c a=>k _ (rV a),λf c a=>s _ (rV a),λn c a=>v _ (PA a)⟩
theorem Yg{P:Program}{a:List (Nat×List mR)}(h:(a.all λp=>KH P p.1 p.2)=true):∀tid b,find a tid=some b->KH P tid b=true:=λtid b c=>by
 rw[va] at h;exact h _ (rV c)
def elB(P:Program)(p:Nat×Nat):Bool:=match P.underlying p.1 with|some (.slice e)=>Nat.beq e p.2|_=>false
theorem acx{P:Program}{a:List (Nat×Nat)}(h:(a.all λp=>elB P p)=true):∀tid e,find a tid=some e->P.underlying tid=some (.slice e):=λtid e b=>by
 rw[va] at h;have:=h _ (rV b);unfold elB at this;split at this
 .rename_i d c;rw[c,eT this]
 .cases this
theorem rX{P:Program}{t:TypeId}{i:TypeInfo}{z:Value}(h:P.info? t=some i)(k:i.zero=some z)(w:World):(zeroValue t).run P w=.ok z w:=by simp[zeroValue,typeInfo,h,k]
theorem acy(I:Nat->Nat->Prop)(w:World):F2 vl w:=λb Q h=>h.elim
end Go.Ge
namespace Go.Ge
open RowKit
theorem zh(c:UInt8):∀l:aq,-1<=Lib.indexByte l c/\Lib.indexByte l c<l.length:=by
 intro l;induction l with
 | nil=>exact⟨by simp[Lib.indexByte],by simp[Lib.indexByte]⟩
 | cons b r a =>
   unfold Lib.indexByte;split
   .exact⟨by simp,by simp only[dW];omega⟩
   .split
    .exact⟨by simp,by simp only[dW];omega⟩
    .simp only[dW];omega
theorem Yh{P:Program}{f:Nat}{b:Func}(d:P.funcs[f]?=some b)(c:(b.name == "runtime.NumGoroutine")=false)(e:b.body.isSome=true) :
  ∃b a,P.funcs[f]?=some b/\(b.name == "runtime.NumGoroutine")=false/\b.body=some a:=by
 obtain⟨a,g⟩:=Kg.1 e;exact⟨b,a,d,c,g⟩
theorem TS{w:World}{b:Nat}{p q v:Value}{T:TypeId}{a:Nat×Nat}(h:w.heap[b]?=some (.cells #[p,v] T a)):w.setCell ⟨b,0,none⟩ q=w.setRow b #[q,v]:=by
 unfold World.setCell World.setRow
 congr 1
 apply Array.ext_getElem?;intro i;simp only[SC];by_cases e:b=i
 .subst e;simp[h]
 .simp[e]
theorem vd.refl(a:Option Nat)(w:World):vd a w w:=⟨rfl,rfl,rfl,cD _,λ_ _ _=>rfl,λ_ _ _=>rfl⟩
theorem vd.weaken{b:Option Nat}{w a:World}(h:vd none w a):vd b w a:=⟨h.os,h.tape,h.output,h.size,λk c _=>h.block k c (by simp),h.cell⟩
theorem vd.drew{a:Option Nat}{w w':World}(h:vd a w w'):vd a w w'.drew:=⟨h.os,h.tape,h.output,h.size,h.block,h.cell⟩
theorem vd.alloc{b:Option Nat}{w w':World}(h:vd b w w')(o:Obj):vd b w (w'.alloc o) where
 os:=h.os
 tape:=h.tape
 output:=h.output
 size:=iz h.size (by simp)
 block:=λk a d=>(cG w' o k<|CP a h.size).trans (h.block k a d)
 cell:=λk c a=>(de<|cG w' o k<|CP a h.size).trans (h.cell k c a)
theorem vd.freeze{g:Nat}{w b:World}(h:vd (some g) w b)(n:Nat):vd (some g) w (b.freeze ⟨g,0,none⟩ n):=by
 unfold World.freeze;split
 .exact h
 .refine⟨h.os,h.tape,h.output,iz h.size (by simp),λk d f=>?_,λk c d=>?_⟩
  .have a:¬g=k:=λe=>f (by rw[e]);rw[<-h.block k d f];simp[SC,a]
  .rw[<-h.cell k c d];by_cases e:g=k
   .subst e;simp only[World.cell?,SC,mh];cases b.heap[g]? with
    | none=>rfl
    | some o=>cases o<;>rfl
   .have a:¬g=k:=e;simp[World.cell?,SC,a]
theorem Rb{P:Program}{G:fm}{f:Nat}{r:Func}{spec:aq->Int->Int}(z:P.funcs[f]?=some r)(d:(r.name == "runtime.NumGoroutine")=false)(A:r.body.isSome=true)
  (B:∀s c,(-1<=spec s c/\spec s c<s.length))
  (h:∀(s:ByteArray) (c:Int) (w:World),Calls P f #[.string s,.int .u8 c] w λe w'=>e=.returned (.int .i64<|spec s.data.toList c)/\w'=w) :
  Holds P G f ⟨.pair .str<|.pair (.int .u8) .unit,.pair (.int .i64) .unit,λx=>some (spec x.1 x.2.1,())⟩ where
 body:=by
  obtain⟨m,C⟩:=Kg.1 A;exact⟨r,m,z,d,C⟩
 calls:=by
  intro I w n x y D L g i;obtain⟨s,c,u⟩:=x;change aq at s;change Int at c;obtain rfl:((spec s c:Int),())=y:=aE i;obtain⟨M,v,t,p,E,j,q,l,a⟩:=g;obtain rfl:j=[]:=a;obtain⟨rfl,F⟩:=p;obtain⟨rfl,_⟩:=l;obtain rfl:n=#[.string ⟨s.toArray⟩,.int .u8 c]:=by
   apply CQ.1;rw[t,q];rfl
  refine(h ⟨s.toArray⟩ c w).mono ?_;rintro e w' ⟨rfl,rfl⟩;refine⟨_,I,rfl,Below.refl _ _,λb o h=>h,D,λb o J K=>absurd J K,?_⟩;have N:=B s c;have O:s.length<=maxLen:=F;refine⟨[.int .i64<|spec s c],⟨rfl,?_,?_⟩,rfl⟩
  .have:(i64).min=-9223372036854775808:=by decide
   show(i64).min<=spec s c
   omega
  .have:(i64).max=9223372036854775807:=by decide
   have:maxLen=140737488355328\/maxLen<=9223372036854775807:=by right;decide
   show spec s c<=(i64).max
   omega
theorem NT{P:Program}{G:fm}{f:Nat}{r:Func}{spec:aq->Int->Option aq}(D:P.funcs[f]?=some r)(d:(r.name == "runtime.NumGoroutine")=false)(E:r.body.isSome=true)
  (F:∀s c y,spec s c=some y->y.length<=maxLen)
  (h:∀(s:ByteArray) (c:Int) (w:World) (y:aq),(i64).min<=c/\c<=(i64).max->s.data.toList.length<=maxLen->spec s.data.toList c=some y ->
   Calls P f #[.string s,.int .i64 c] w λe w'=>e=.returned (.string ⟨y.toArray⟩)/\Below w.heap.size w w') :
  Holds P G f ⟨.pair .str<|.pair (.int .i64) .unit,.pair .str .unit,λx=>(spec x.1 x.2.1).map λy=>(y,())⟩ where
 body:=by
  obtain⟨m,t⟩:=Kg.1 E;exact⟨r,m,D,d,t⟩
 calls:=by
  intro I w n x y J O g i;obtain⟨s,c,u⟩:=x;change aq at s;change Int at c;obtain⟨z,v,rfl⟩:=uc.1 i;change spec s c=some z at v;obtain⟨Q,B,A,p,K,j,q,l,a⟩:=g;obtain rfl:j=[]:=a;obtain⟨rfl,L⟩:=p;obtain⟨rfl,t⟩:=l;obtain rfl:n=#[.string ⟨s.toArray⟩,.int .i64 c]:=by
   apply CQ.1;rw[A,q];rfl
  refine(h ⟨s.toArray⟩ c w z t L v).mono ?_;rintro e w' ⟨rfl,C⟩;exact⟨_,I,rfl,C,λb o h=>h,λb o h=>CP (J b o h) C.size,λb o M N=>absurd M N,[.string ⟨z.toArray⟩],⟨rfl,F _ _ _ v⟩,rfl⟩
end Go.Ge
namespace Go.Ge
open RowKit Go.Proofs Go.Shelf
theorem Any.Wr(s:ByteArray)(c:UInt8):((Lib.countByte s.data.toList c:Nat):Int)=((Lib.countB s ⟨#[c]⟩:Nat):Int):=by
 show((s.data.toList.count c:Nat):Int)=((Lib.count s.data.toList [c]:Nat):Int)
 rw[Lib.count_one]
set_option maxHeartbeats 1000000 in
theorem Any.Df{P:Program}{a:Ren}(L:Lays.n146 P a)(l:(P.info?<|a.t 9).map (λi=>(i.zero,i.size,i.bytes))=some (some<|.string ByteArray.empty,1,16))(s:ByteArray)(b:UInt8)(w:World)
  (o:s.size<4294967281) :
  Calls P (a.f 146) #[.string s,.string ⟨#[b]⟩] w λe w' =>
   e=.returned (.slice (some ⟨w.heap.size,0,none⟩) (Lib.countB s ⟨#[b]⟩+1)<|Lib.countB s ⟨#[b]⟩+1)/\w'=w.alloc (.cells ((Lib.splitB ⟨#[b]⟩ 0 (Lib.countB s ⟨#[b]⟩) s).map Value.string).toArray<|a.t 9):=by
 have j:1<=(⟨#[b]⟩:ByteArray).size:=cD _;generalize d:(⟨#[b]⟩:ByteArray)=sep at j;have p:=Lib.countB_le sep j s.size s (cD _);have hlen:=Lib.splitB_all sep j 0 _ s rfl;have c:=Proofs.Any.strings_genSplit_core { L with } l s sep 0 (-1) (Lib.countB s sep+1) w o j (pj _)
  (λx c r=>by
   subst d;refine(Proofs.Any.strings_Index_one { L with } x b _).mono λe w' ⟨m,h⟩=>⟨?_,h⟩;rw[m];show _=Ending.returned (Value.int .i64<|Lib.index x.data.toList [b])
   rw[Lib.index_one])
  (by
   subst d;refine(Proofs.Any.strings_Count_one { L with } s b w).mono λe w' ⟨m,h⟩=>⟨?_,h⟩;rw[m,Any.Wr])
  (by decide) (by decide) (by rw[bd<|by decide];omega)
 rw[Nat.add_sub_cancel,hlen] at c;have q:Lib.cellsOf (Lib.splitB sep 0 (Lib.countB s sep) s) (Lib.countB s sep+1)=((Lib.splitB sep 0 (Lib.countB s sep) s).map Value.string).toArray:=by rw[<-hlen];exact Lib.cellsOf_full _
 rw[q] at c;have t3:=L.t3;have u:=L.t9;have t31:=L.t31;have v:=L.a3;have y:=L.a9;have a31:=L.a31;have z:=L.z3;have A:=L.v3;have z9:=L.z9;have v9:=L.v9;have z31:=L.z31;have v31:=L.v31;have n:∀g w,(callFunc (a.f 221) g).run P w=.ok (.enter (a.f 221) g) w:=enters_of L.f221 (by kernel_rfl) rfl
 go_enter L.f146,Body.n146_ntmps a
 go_wp2_with (go_at_fn (a.f 221);refine c.mono ?_;rintro e w' ⟨rfl,h⟩;rw[h])
 go_ret
 exact⟨rfl,rfl⟩
def JW(s a:aq):Option (List aq):=match a with
 | [b]=>if s.length<4294967281 then some (Lib.split s [b]) else none
 | _=>none
theorem ZG(a:aq):∀(k:Nat) (s x:aq),x∈Lib.splitK a 0 k s->x.length<=s.length:=by
 intro k;induction k with
 | zero=>intro s x h;simp[Lib.splitK] at h;rw[h];exact cD _
 | succ k b =>
   intro s x h;unfold Lib.splitK at h;split at h
   .simp at h;rw[h];exact cD _
   .rcases fY.1 h with h|h
    .rw[h,gM];omega
    .have:=b _ _ h;rw[ma] at this;omega
theorem TT{P:Program}{G:fm}{f r:Nat}{J:Func}(V:P.funcs[f]?=some J)(d:(J.name == "runtime.NumGoroutine")=false)(W:J.body.isSome=true)
  (h:∀(s:ByteArray) (b:UInt8) (w:World),s.size<4294967281->Calls P f #[.string s,.string ⟨#[b]⟩] w λe w' =>
   e=.returned (.slice (some ⟨w.heap.size,0,none⟩) (Lib.countB s ⟨#[b]⟩+1)<|Lib.countB s ⟨#[b]⟩+1)/\w'=w.alloc (.cells ((Lib.splitB ⟨#[b]⟩ 0 (Lib.countB s ⟨#[b]⟩) s).map Value.string).toArray r)) :
  Holds P G f ⟨.pair .str<|.pair .str .unit,.pair (.slice .str) .unit,λx=>(JW x.1 x.2.1).map λy=>(y,())⟩ where
 body:=by
  obtain⟨t,X⟩:=Kg.1 W;exact⟨J,t,V,d,X⟩
 calls:=by
  intro I w A x y Y hG g l;obtain⟨s,m,u⟩:=x;change aq at s;change aq at m;obtain⟨z,n,rfl⟩:=uc.1 l;change JW s m=some z at n;have B:∃b,m=[b]/\s.length<4294967281/\z=Lib.split s [b]:=by
   unfold JW at n;split at n
   .rename_i b;split at n
    .rename_i L;exact⟨b,rfl,L,(aE n).symm⟩
    .cases n
   .cases n
  obtain⟨b,rfl,L,rfl⟩:=B;obtain⟨cs,Q,M,C,Z,p,D,q,a⟩:=g;obtain rfl:p=[]:=a;obtain⟨rfl,N⟩:=C;obtain⟨rfl,_⟩:=q;obtain rfl:A=#[.string ⟨s.toArray⟩,.string ⟨#[b]⟩]:=by
   apply CQ.1;rw[M,D];rfl
  refine(h ⟨s.toArray⟩ b w<|by show s.toArray.size<_;simpa using L).mono ?_;rintro e w' ⟨rfl,rfl⟩;have c:=Lib.splitB_data ⟨#[b]⟩ 0 (Lib.countB ⟨s.toArray⟩ ⟨#[b]⟩) ⟨s.toArray⟩;have hlen:=Lib.splitB_all ⟨#[b]⟩ (cD _) 0 _ ⟨s.toArray⟩ rfl;generalize hsb:Lib.splitB ⟨#[b]⟩ 0 (Lib.countB ⟨s.toArray⟩ ⟨#[b]⟩) ⟨s.toArray⟩=R at c hlen;have hd:R.map (·.data.toList)=Lib.split s [b]:=c;have hn:(Lib.split s [b]).length=Lib.countB ⟨s.toArray⟩ ⟨#[b]⟩+1:=by rw[<-hd,CS,hlen]
  have E:Lib.countB ⟨s.toArray⟩ ⟨#[b]⟩+1<=maxLen:=by
   have:=Lib.countB_le ⟨#[b]⟩ (cD _) s.length ⟨s.toArray⟩ (by show s.toArray.size<=_;simp);have e:(⟨s.toArray⟩:ByteArray).size=s.length:=by show s.toArray.size=_;simp
   rw[e] at this;have:4294967281<=maxLen:=by decide
   omega
  refine⟨_,λb o=>I b o\/b=w.heap.size,rfl,(Below.refl _ _).alloc (cD _) _,λb o h=>.inl h,λb o h=>?_,λb o K h2=>?_,?_⟩
  .have O:(w.alloc<|.cells (R.map Value.string).toArray r).heap.size=w.heap.size+1:=by simp
   rw[O];rcases h with h|h
   .have:=Y b o h;omega
   .omega
  .rcases K with K|K
   .exact absurd K h2
   .omega
  .refine⟨[.slice (some ⟨w.heap.size,0,none⟩) (Lib.countB ⟨s.toArray⟩ ⟨#[b]⟩+1)<|Lib.countB ⟨s.toArray⟩ ⟨#[b]⟩+1],?_,rfl⟩;refine .inr ⟨w.heap.size,0,Lib.countB ⟨s.toArray⟩ ⟨#[b]⟩+1,?_,?_,E,λi x S=>?_⟩
   .show _=[Value.slice _ (Lib.split s [b]).length _]
    rw[hn]
   .show(Lib.split s [b]).length<=_
    omega
   .have F:(Lib.split s [b])[i]?=some x:=S;rw[<-hd,Kj] at F;obtain⟨y,T,rfl⟩:=uc.1 F;refine⟨[.string y],rfl,λj v U=>?_,?_⟩
    .cases j with
     | succ j=>cases U
     | zero =>
       obtain rfl:=aE U;refine⟨?_,.inr rfl⟩;have hlt:=(ix.1 T).1;simp only[World.cell?,World.alloc,pv,v7];simp[Ty.size,T]
    .refine⟨?_,?_⟩
     .have:y=⟨y.data.toList.toArray⟩:=(Lib.mk_data y).symm;rw[<-this]
     .have hm:y.data.toList∈Lib.split s [b]:=iy S;have:=ZG _ _ _ _ hm;exact iz this N
def Rc(l:List aq)(a:aq):Option aq:=if l.length<=140737488355328/\(Lib.join l a).length<=140737488355328 then some (Lib.join l a) else none
theorem Ws{P:Program}{G:fm}{f:Nat}{Q:Func}(hP:P.funcs[f]?=some Q)(B:(Q.name == "runtime.NumGoroutine")=false)(hb:Q.body.isSome=true)
  (Z:∀(a:Option Addr) (c:Nat) (sep:ByteArray) (w:World),Calls P f #[.slice a 0 c,.string sep] w λe w'=>e=.returned (.string ⟨#[]⟩)/\w'=w)
  (h:∀(U o c:Nat) (K:List ByteArray) (sep:ByteArray) (w:World),
  (∀(j:Nat) x,K[j]?=some x->w.cell? ⟨U,o+j,none⟩=some (.string x))->(U<w.heap.size)->(K.length<=140737488355328)->(K.length<=c) ->
  ((Lib.join (K.map (·.data.toList)) sep.data.toList).length<=140737488355328) ->
  Calls P f #[.slice (some ⟨U,o,none⟩) K.length c,.string sep] w λe w'=>e=.returned (.string ⟨(Lib.join (K.map (·.data.toList)) sep.data.toList).toArray⟩)/\Below w.heap.size w w') :
  Holds P G f ⟨.pair (.slice .str)<|.pair .str .unit,.pair .str .unit,λx=>(Rc x.1 x.2.1).map λy=>(y,())⟩ where
 body:=by
  obtain⟨L,V⟩:=Kg.1 hb;exact⟨Q,L,hP,B,V⟩
 calls:=by
  intro I w q x y hI hG C D;obtain⟨l,sep,u⟩:=x;change List aq at l;change aq at sep;obtain⟨z,M,rfl⟩:=uc.1 D;change Rc l sep=some z at M;unfold Rc at M;split at M
  case isFalse=>cases M
  rename_i d;obtain⟨E,d⟩:=d;have W:(Lib.join l sep).length<=maxLen:=iz d (by decide);obtain rfl:=aE M;obtain⟨cs,rest,N,O,cs2,F,s,J,n⟩:=C;obtain rfl:F=[]:=n;obtain⟨rfl,hsm⟩:=J;have fin:∀{v:Value},cs=[v]->∀{w'},Below w.heap.size w w'->∀{e:Ending},e=.returned (.string ⟨(Lib.join l sep).toArray⟩) ->
    ∃v R,e=.returned v/\Below w.heap.size w w'/\(∀b o,I b o->R b o)/\(∀b o,R b o->b<w'.heap.size)/\(∀b o,R b o->¬I b o->w.heap.size<=b)/\lV w' R (.pair .str .unit) (Lib.join l sep,()) v:=by
   intro v _ w' S e he;exact⟨_,I,he,S,λb o h=>h,λb o h=>CP (hI b o h) S.size,λb o h1 h2=>absurd h1 h2,[.string ⟨(Lib.join l sep).toArray⟩],⟨rfl,W⟩,rfl⟩
  rcases O with ⟨⟨t,rfl⟩,hl⟩|⟨g,i,p,rfl,A,abX,X⟩
  .obtain rfl:l=[]:=hl;obtain rfl:q=#[.slice t 0 0,.string ⟨sep.toArray⟩]:=by
    apply CQ.1;rw[N,s];rfl
   refine(Z t 0 ⟨sep.toArray⟩ w).mono ?_;rintro e w' ⟨rfl,rfl⟩;exact fin rfl (Below.refl _ _) rfl
  .change l.length<=p at A;obtain rfl:q=#[.slice (some ⟨g,i,none⟩) l.length p,.string ⟨sep.toArray⟩]:=by
    apply CQ.1;rw[N,s];rfl
   cases l with
   | nil =>
     refine(Z (some ⟨g,i,none⟩) p ⟨sep.toArray⟩ w).mono ?_;rintro e w' ⟨rfl,rfl⟩;exact fin rfl (Below.refl _ _) rfl
   | cons a r =>
     have m:∀(j:Nat) x,(a::r)[j]?=some x->w.cell? ⟨g,i+j,none⟩=some (.string ⟨x.toArray⟩)/\I g (i+j):=by
      intro j x T;obtain⟨es,he,V,hr⟩:=X j x T;obtain⟨rfl,_⟩:=hr;have:=V 0 _ rfl;simpa [Ty.size] using this
     have Y:g<w.heap.size:=hI _ _ (m 0 a rfl).2;have e1:((a::r).map λx:aq=>(⟨x.toArray⟩:ByteArray)).map (·.data.toList)=a::r:=by
      rw[Pb];exact List.map_id'' (λx=>rfl) _
     have:=h g i p ((a::r).map λx=>⟨x.toArray⟩) ⟨sep.toArray⟩ w (λj x T=>by
      rw[Kj] at T;obtain⟨y,hy,rfl⟩:=uc.1 T;exact(m j y hy).1) Y (by rw[CS];exact E) (by rw[CS];exact A) (by rw[e1];exact d)
     rw[e1,CS] at this;refine this.mono ?_;rintro e w' ⟨rfl,S⟩;exact fin rfl S rfl
end Go.Ge
namespace Go.Ge
open RowKit
theorem Holds.weaken{P:Program}{G:fm}{f:Nat}{A R:Ty}{b a:A.den->Option R.den}(h:Holds P G f ⟨A,R,b⟩)(d:∀x y,a x=some y->b x=some y):Holds P G f ⟨A,R,a⟩ where
 body:=h.body
 calls:=λI w c x y e g i j=>h.calls I w c x y e g i (d x y j)
theorem eP.weaken{P:Program}{G:fm}{f:Nat}{e:List Bool}{A R:Ty}{U:OT}{b a:A.den×U.den->Option (R.den×U.den)}(h:eP P G f ⟨e,A,U,R,b⟩)(g:∀x y,a x=some y->b x=some y):eP P G f ⟨e,A,U,R,a⟩ where
 body:=h.body
 calls:=λI w c d i j x u y l m n o p q r=>h.calls I w c d i j x u y l m n o p q (g (x,u) y r)
end Go.Ge
namespace Go.Ge
open RowKit Go.Sort Go.Proofs
theorem kH.mk'{w w':World}{I:Nat->Nat->Prop}{X:Nat->Prop}(a:w'.os=w.os)(e:w'.tape=w.tape)(f:w'.output=w.output)(c:w.heap.size<=w'.heap.size)
  (g:∀k,k<w.heap.size->¬X k->w'.heap[k]?=w.heap[k]?) (i:∀b o,I b o->b<w.heap.size):kH w I X w' I where
 below:=⟨a,e,f,c,λk d=>g k (XJ λq=>d (.inl q)) λq=>d (.inr q)⟩
 held:=λ_ _ h=>h
 sV:=λb o h=>CP (i b o h) c
 pC:=λb o h k=>absurd h k
theorem NU{a:Type}{L:List a}{i:Nat}{y:a}(h:L[i]?=some y):(L.drop i).take 1=[y]:=by
 obtain⟨b,c⟩:=ix.1 h;rw[BJ b];simp[c]
theorem TU{w:World}{I:Nat->Nat->Prop}{l:List aq}{b:Nat}{a:Array Value}{e:TypeId}{m:Nat×Nat}(n:w.heap[b]?=some (.cells a e m))(f:lU a m)(o:l.length<=a.size)
  (g:∀(i:Nat) (x:aq),l[i]?=some x->bB w I .str x ((a.toList.drop<|i*(Ty.str).size).take (Ty.str).size)):Sort.Holds encStr w b 0 l.toArray:=by
 intro j p;have c:j<l.length:=by simpa using p
 obtain⟨q,s⟩:=g j l[j] (jE c);have r:a[j]?=some (Value.string ⟨(l[j]).toArray⟩):=by
  have:((a.toList.drop<|j*1).take 1)[0]?=some (Value.string ⟨(l[j]).toArray⟩):=by
   have h:(a.toList.drop<|j*1).take 1=_:=q;rw[h];rfl
  simpa [gm,l9] using this
 have d:l.toArray[j]! = l[j]:=by simp[c]
 refine⟨?_,?_⟩
 .rw[d];simp only[World.cell?,n,pv];exact r
 .have:=f j (by omega);simp only[World.frozen?,n,pv];simp only[not_and,Nat.not_lt] at this;simp;exact this
theorem Yi{w w':World}{I:Nat->Nat->Prop}(J:∀b o,I b o->b<w.heap.size){l l':List aq}{a f:Nat}{g:Array Value}{p:TypeId}{y:Nat×Nat}(F:w.heap[a]?=some (.cells g p y))(z:ThB .str g y)
  (h:g.size=f*(Ty.str).size) (q:∀o,¬I a o) {d:List aq} (S:d.length=l.length) (K:l.length<=f) (s:f<=maxLen) (A:l'.length<=l.length) (t:∀(i:Nat) (x:aq),l'[i]?=some x->d[i]?=some x/\List.length x<=maxLen) {n:Nat} {os:Array Obj}
  (u:w'=grow (putRow encStr (Sort.ahead w n) a 0 d.toArray) os) :
  kH w I (λk=>∃c,some (a,f)=some (k,c)) w' I/\vp w' I .str l' (some (a,f)) (.slice (some ⟨a,0,none⟩) l'.length f):=by
 have B:a<w.heap.size:=(u9.1 F).1;have afL:w'.heap.size=w.heap.size+os.size:=by rw[u];simp
 have j:∀k,k<w.heap.size->w'.heap[k]?=if k=a then some (.cells (putCells encStr 0 d.toArray g) p y) else w.heap[k]?:=by
  intro k C;subst u;simp only[grow,putRow,mapBlock];rw[afq<|by simpa using C,SC];by_cases e:a=k
  .subst e;simp[F,onCells]
  .simp[e,Kt e]
 have m:=j a B;rw[bd rfl] at m;have L:kH w I (λk=>∃c,some (a,f)=some (k,c)) w' I:=kH.mk' (by rw[u];rfl) (by rw[u];rfl) (by rw[u];rfl) (by omega) (λk C M=>by
  rw[j k C,bb λe=>M ⟨f,by rw[e]⟩]) J
 refine⟨L,.inr ⟨a,f,putCells encStr 0 d.toArray g,p,y,rfl,rfl,m,z.same (by simp[putCells]),iz A K,s,by simp[putCells,h],q,λi x G=>?_⟩⟩;obtain⟨v,N⟩:=t i x G;have O:i<l'.length:=(ix.1 G).1;have r:i<d.length:=by omega
 have D:i<g.size:=by rw[h];show i<f*1;omega
 have Q:(putCells encStr 0 d.toArray g)[i]?=some (.string ⟨x.toArray⟩):=by
  have E:d[i]=x:=by rw[jE r] at v;exact aE v
  have R:d.toArray[i]! = d[i]:=by simp[r]
  rw[show(putCells encStr 0 d.toArray g)[i]?=some (encStr d.toArray[i]!) from by simp[putCells,D,r],R,E]
 have:((putCells encStr 0 d.toArray g).toList.drop<|i*(Ty.str).size).take (Ty.str).size=[.string ⟨x.toArray⟩]:=by
  show((putCells encStr 0 d.toArray g).toList.drop<|i*1).take 1=_
  rw[B7];exact NU (by simpa using Q)
 exact⟨this,N⟩
def mw(l:List aq):List aq:=l.mergeSort λx y=>decide (x<=y)
theorem ZH:mw []=[]:=by simp[mw]
theorem PB(l:List aq):(mw l).length=l.length:=by simp[mw]
theorem acz{P:Program}{f:Nat}{u:Func}(U:P.funcs[f]?=some u)(V:(u.name == "runtime.NumGoroutine")=false)(A:u.body.isSome=true)
  (W:∀(blk off cap:Nat) (z:List aq) (w:World),Sort.Holds encStr w blk off z.toArray->blk<w.heap.size->z.length<4611686018427387904 ->
   Calls P f #[.slice (some ⟨blk,off,none⟩) z.length cap] w λe w'=>e=.returned (.tuple #[])/\∃n J,w'=grow (putRow encStr (Sort.ahead w n) blk off (z.mergeSort λx y=>decide (x<=y)).toArray) J)
  (X:∀(p:Option Addr) (cap:Nat) (w:World),Calls P f #[.slice p 0 cap] w λe w'=>e=.returned (.tuple #[])/\w'=w) :
  eF P f (.own .str .unit false λl _=>bif fits (len (α:=aq) l) then some (mw l) else none):=by
 obtain⟨o,A⟩:=Kg.1 A;refine⟨⟨u,o,U,V,A⟩,λI w q v r l B L x K h s m a=>?_⟩;change List aq at l;change List aq at B;obtain rfl:r=[]:=m;have c:q=#[v]:=by apply CQ.1;rw[h]
 subst c;have b:fits (len l)=true/\B=mw l:=by
  change (bif fits (len l) then some (mw l) else none)=some B at a;cases M:fits (len l) with
  | true=>rw[M] at a;exact⟨rfl,(aE a).symm⟩
  | false=>rw[M] at a;cases a
 obtain⟨b,rfl⟩:=b;have hlen:=Eu b;rcases s with ⟨rfl,rfl,rfl⟩|⟨blk,cap,C,tid,fr,rfl,rfl,D,N,O,Y,Q,Z,R⟩
 .refine(X none 0 w).mono λe w' t=>?_;obtain⟨rfl,rfl⟩:=t;exact⟨I,kH.mk' rfl rfl rfl (cD _) (λ_ _ _=>rfl) K,rfl,PB [],.inl ⟨rfl,ZH,rfl⟩⟩
 .have E:List.length (α:=aq) l<=cap:=O;have F:C.size=cap*1:=Q;refine(W blk 0 cap l w (TU D N.th (by rw[F,B7];exact E) R) (u9.1 D).1<|by omega).mono λe w' t=>?_;obtain⟨rfl,n,J,t⟩:=t;have g:(mw l).length=l.length:=by simp[mw]
  obtain⟨k1,S⟩:=Yi K D N Q Z (l:=l) (l':=mw l) (d:=mw l) g O Y (zR g) (λi x T=>⟨T,by
   have hm:x∈mw l:=iy T;have G:x∈l:=by simpa [mw] using hm
   obtain⟨j,hj⟩:=OZ.1 G;exact(R j x hj).2⟩) t
  rw[g] at S;exact⟨I,k1,rfl,g,S⟩
theorem TV{P:Program}{f:Nat}{A:Func}(T:P.funcs[f]?=some A)(U:(A.name == "runtime.NumGoroutine")=false)(C:A.body.isSome=true)
  (V:∀(blk off cap:Nat) (zs:List aq) (w:World),Sort.Holds encStr w blk off zs.toArray->zs.length<=9223372036854775807->zs.length<=cap ->
   Calls P f #[.slice (some ⟨blk,off,none⟩) zs.length cap] w λe w'=>e=.returned (.slice (some ⟨blk,off,none⟩) (Lib.compact zs).length cap)/\∃q,w'=putRow encStr (Sort.ahead w q) blk off (Lib.compact zs++List.replicate (zs.length-(Lib.compact zs).length) []).toArray)
  (W:∀(a:Option Addr) (cap:Nat) (w:World),Calls P f #[.slice a 0 cap] w λe w'=>e=.returned (.slice a 0 cap)/\w'=w) (g:∀zs:List aq,(Lib.compact zs).length<=zs.length/\∀x∈Lib.compact zs,x∈zs) :
  eF P f (.own .str .unit true λl _=>some (Lib.compact (α:=aq) l)):=by
 obtain⟨s,C⟩:=Kg.1 C;refine⟨⟨A,s,T,U,C⟩,λI w t v u l K L x M o y p r=>?_⟩;change List aq at l;change List aq at K;obtain rfl:u=[]:=p;have m:t=#[v]:=by apply CQ.1;rw[o]
 subst m;obtain rfl:Lib.compact l=K:=aE r;rcases y with ⟨rfl,rfl,rfl⟩|⟨blk,cap,D,tid,fr,rfl,rfl,N,O,B,Q,R,X,S⟩
 .refine(W none 0 w).mono λe w' z=>?_;obtain⟨rfl,rfl⟩:=z;have Y:Lib.compact ([]:List aq)=[]:=vY.1 (Nat.le_zero.1 (g []).1);exact⟨I,kH.mk' rfl rfl rfl (cD _) (λ_ _ _=>rfl) M,_,none,rfl,.inl ⟨rfl,Y,rfl⟩,λ_ _ h=>by cases h⟩
 .have E:List.length (α:=aq) l<=cap:=B;have F:D.size=cap*1:=R;refine(V blk 0 cap l w (TU N O.th (by rw[F,B7];exact E) S) (iz B Q) B).mono λe w' z=>?_;obtain⟨rfl,n,z⟩:=z;obtain⟨Z,k2⟩:=Yi M N O R X (l:=l) (l':=Lib.compact l) (d:=Lib.compact l++List.replicate (l.length-(Lib.compact l).length) []) (by have:=(g l).1;simp;omega) B Q (g l).1 (λi x G=>⟨by
    rw[Qh (ix.1 G).1];exact G,by
   have J:x∈l:=(g l).2 x (iy G);obtain⟨j,hj⟩:=OZ.1 J;exact(S j x hj).2⟩) (n:=n) (os:=#[]) (w':=w') (by rw[z];simp)
  exact⟨I,Z,_,_,rfl,k2,λb c h=>.inl ⟨c,h⟩⟩
theorem Wt(a:List aq):(Lib.compact a).length<=a.length/\∀x∈Lib.compact a,x∈a:=by
 constructor
 .unfold Lib.compact Lib.compactUpTo;rw[CS];exact iz (O0 _ _) (by simp)
 .intro x b;unfold Lib.compact Lib.compactUpTo at b;rw[vb] at b;obtain⟨j,d,rfl⟩:=b;have c:j<a.length:=B5.1 (wZ.1 d).1;simp[c]
end Go.Ge
namespace Go.Ge
variable [Lp]
open RowKit Go.Shelf Go.Lib Go.Proofs
theorem yp{P:Program}(w:World)(t y z c:TypeId)(b o d h:Nat)(a:Addr)(e l k:Nat)(g:List Value){f:Array Value}{u:TypeId}{p:Nat×Nat}
  (A:P.underlying t=some (.slice c)) (x:(P.info? c).map (·.size)=some k) (B:g.length=Nat.min e d*k)
  (m:∀j v,g[j]?=some v->w.cell? (a.add j)=some v) (C:w.heap[b]?=some (.cells f u p)) (q:lU f p) (r:o+g.length<=f.size) (D:∀v∈g,v.oneCell'=true) :
  (Builtin.copy_ #[t,y] z #[.slice (some ⟨b,o,none⟩) d h,.slice (some a) e l]).run P w=.ok (goInt<|Nat.min e d) (w.setRow b (aQ f.toList o g).toArray):=by
 have E:=run_loadCells_list (P:=P) w a g m;have n:=cS (P:=P) b o u p g 0 f w C q (by simpa using r) D;rw[v7] at n;cases s:P.info? c with
 | none=>simp[s] at x
 | some i =>
   have hi:i.size=k:=by simpa [s] using x
   simp[Builtin.copy_,run_underlying A,Builtin.lenOf,Builtin.firstCells,sizeOf,typeInfo,s,hi,<-B,E,n]
structure TW (P:Program) (ρ:Ren) (nm:String) (k:Nat):Prop where
 mixed:P.follows .mixedOrders=true
 f22:P.funcs[ρ.f 22]?=some { Body2.n22 ρ with name:=nm }
 ov:∀(xs:Array Value) (w:World),(callFunc (ρ.f 29) xs).run P w=((Extern.SlicesOverlaps.overlaps #[(ρ.t 24),(ρ.t 24)] #[(ρ.t 4)] xs).run P w).andThen λv w'=>.ok (.value v) w'
 t3:P.underlying (ρ.t 3)=some (TypeDesc.int i64)
 t4:P.underlying (ρ.t 4)=some TypeDesc.bool
 t24:P.underlying (ρ.t 24)=some (TypeDesc.slice<|ρ.t 9)
 z9:∀w,(Go.sizeOf<|ρ.t 9).run P w=.ok k w
 i9:(P.info?<|ρ.t 9).map (·.size)=some k
variable {P:Program} {ρ:Ren} {nm:String} {k:Nat}
set_option maxHeartbeats 4000000 in
set_option maxRecDepth 100000 in
theorem ZI(L:TW P ρ nm k)(b n c i h g m E:Nat)(_cs y:List Value)(w:World){d:Array Value}{T:TypeId}{F:Nat×Nat}(hi:i<n)(hm:0<m)(U:n+m<=c)(amp:c<=9223372036854775807)(V:h≠b)
  (hg:w.heap[b]?=some (.cells d T F)) (G:lU d F) (z:d.size=c*k) (W:∀v∈(d.toList.take<|n*k),v.oneCell'=true)
  (I:y.length=m*k) (X:∀j v,y[j]?=some v->w.cell? ⟨h,g+j,none⟩=some v) (Y:∀v∈y,v.oneCell'=true)
  (J:∀K M,(Extern.SlicesOverlaps.overlaps #[(ρ.t 24),(ρ.t 24)] #[(ρ.t 4)] #[.slice (some ⟨h,g,none⟩) m E,.slice (some ⟨b,(i+m)*k,none⟩) K M]).run P w=.ok (.bool false) w) :
  Calls P (ρ.f 22) #[.slice (some ⟨b,0,none⟩) n c,.int .i64 i,.slice (some ⟨h,g,none⟩) m E] w λe w' =>
   e=.returned (.slice (some ⟨b,0,none⟩) (n+m) c) /\
   w'=(w.drew.setRow b (aQ d.toList ((i+m)*k)<|(d.toList.take<|n*k).drop<|i*k).toArray).setRow b (aQ (aQ d.toList ((i+m)*k)<|(d.toList.take<|n*k).drop<|i*k) (i*k) y).toArray:=by
 have t3:=L.t3;have t4:=L.t4;have t24:=L.t24;have z9:=L.z9;have u3:=run_underlying L.t3;have u4:=run_underlying L.t4;have u24:=run_underlying L.t24;have mixed:=L.mixed;have hz1:¬((m:Int)=0):=by omega
 have hz2:¬((i:Int)=(n:Int)):=by omega
 have N:∀K M,(callFunc (ρ.f 29) #[.slice (some ⟨h,g,none⟩) m E,.slice (some ⟨b,(i+m)*k,none⟩) K M]).run P w=.ok (.value<|.bool false) w:=λK M=>by
  rw[L.ov,J K M];rfl
 have hw1:IntKind.i64.wrap ((i:Int)+(m:Int))=(i:Int)+(m:Int):=by rw[IntKind.wrap_i64];omega
 have hb1:(0:Int)<=(i:Int)+(m:Int):=by omega
 have QF:i<=n:=by omega
 have htn:((i:Int)+(m:Int)).toNat=i+m:=by omega
 have hb2:¬(c=i+m):=by omega
 have hb3:(i:Int)<=(n:Int)+(m:Int):=by omega
 have hb4:¬(c=i):=by omega
 have l:d.toList.length=c*k:=by simpa using z
 have Z:n*k<=c*k:=fN _ (by omega);have hik:i*k<=n*k:=fN _ (by omega);have o:(i+m)*k+(n-i)*k<=c*k:=by
  rw[<-gn];exact fN _ (by omega)
 have q:((d.toList.take<|n*k).drop<|i*k).length=(n-i)*k:=by
  rw[ma,gM,sw (by omega),SP]
 have r:(aQ d.toList ((i+m)*k)<|(d.toList.take<|n*k).drop<|i*k).length=c*k:=by rw[bH<|by rw[q,l];exact o];exact l
 have s:w.drew.heap[b]?=some (.cells d T F):=hg;have p:∀A B sc,(Builtin.copy_ #[(ρ.t 24),(ρ.t 24)] A #[.slice (some ⟨b,(i+m)*k,none⟩) (n+m-(i+m)) B,.slice (some ⟨b,i*k,none⟩) (n+m-i) sc]).run P w.drew =
   .ok (goInt<|Nat.min (n+m-i)<|n+m-(i+m)) (w.drew.setRow b (aQ d.toList ((i+m)*k)<|(d.toList.take<|n*k).drop<|i*k).toArray):=λA B sc =>
  yp w.drew _ _ A (ρ.t 9) b ((i+m)*k) (n+m-(i+m)) B ⟨b,i*k,none⟩ (n+m-i) sc k ((d.toList.take<|n*k).drop<|i*k) L.t24 L.i9 (by
    rw[q];congr 1;show n-i=min (n+m-i) (n+m-(i+m));omega)
   (λj v x=>by
    rw[Addr.add_lit,cell_of_heap s];rw[l9,gm] at x;split at x
    .simpa using x
    .cases x) s G (by rw[q,z];exact o) (λv hv=>W v (Kk hv))
 obtain⟨D,O⟩:∃D,D=aQ d.toList ((i+m)*k) ((d.toList.take<|n*k).drop<|i*k):=⟨_,rfl⟩;rw[<-O] at p r⊢;obtain⟨C,u⟩:∃C,C=w.drew.setRow b D.toArray:=⟨_,rfl⟩;have Q:C.heap[b]?=some (.cells D.toArray T F):=by rw[u];exact setRow_heap w.drew b d _ T F s
 have R:∀j v,y[j]?=some v->C.cell? ⟨h,g+j,none⟩=some v:=λj v x=>by
  rw[u];have h0:(w.drew.setRow b D.toArray).heap[h]?=w.drew.heap[h]?:=setRow_other w.drew b h _ (λe=>V e);rw[de (a:=⟨h,g+j,none⟩) h0];exact X j v x
 have S:∀A B,(Builtin.copy_ #[(ρ.t 24),(ρ.t 24)] A #[.slice (some ⟨b,i*k,none⟩) (n+m-i) B,.slice (some ⟨h,g,none⟩) m E]).run P C=.ok (goInt<|Nat.min m<|n+m-i) (C.setRow b (aQ D (i*k) y).toArray):=λA B=>by
  have:=yp (P:=P) C (ρ.t 24) (ρ.t 24) A (ρ.t 9) b (i*k) (n+m-i) B ⟨h,g,none⟩ m E k y L.t24 L.i9 (by rw[I];congr 1;show m=min m (n+m-i);omega)
   (λj v x=>by rw[Addr.add_lit];exact R j v x) Q (G.same<|by rw[Iv,r,z]) (by rw[I,Iv,r,<-gn];exact fN _ (by omega)) Y
  simpa using this
 rw[<-u] at p⊢;clear O u Q R s r q o hik Z l J
 go_enter L.f22,Body2.n22_ntmps ρ
 go_wp2_with (simp only[N])
 go_region_law_o (refine step_copy_runI rfl _ _ (ρ.t 24) (ρ.t 24) rfl _ _ (by simp[Act.eval,Act.put]) (by simp[Act.eval,Act.put]) (p _ _ _) ?_)
 go_wp2_with (at_builtin;refine wpList_copy_runI _ rfl _ _ (ρ.t 24) (ρ.t 24) rfl _ _ rfl rfl (S _ _) ?_)
 go_ret
 exact⟨rfl,rfl⟩
set_option maxHeartbeats 4000000 in
set_option maxRecDepth 100000 in
theorem H6(L:TW P ρ nm k)(a b:Option Addr)(n c i d:Nat)(w:World)(j:i<=n)(_hnc:n<=c) :
  Calls P (ρ.f 22) #[.slice a n c,.int .i64 i,.slice b 0 d] w λe w'=>e=.returned (.slice a n c)/\w'=w:=by
 have t3:=L.t3;have t4:=L.t4;have t24:=L.t24;have z9:=L.z9;have l:=run_underlying L.t3;have m:=run_underlying L.t4;have g:=run_underlying L.t24;have mixed:=L.mixed;have h:(i:Int)<=(n:Int):=by omega
 go_enter L.f22,Body2.n22_ntmps ρ
 go_wp2
 all_goals (go_ret;exact⟨rfl,rfl⟩)
set_option maxHeartbeats 4000000 in
set_option maxRecDepth 100000 in
theorem Re(L:TW P ρ nm k)(b:Option Addr)(n c m g:Nat)(a:Option Addr)(w h:World)(i:Value)(p:0<m)(_hnc:n<=c)
  (d:(Builtin.append_ #[(ρ.t 24),(ρ.t 24)] (ρ.t 24) #[.slice b n c,.slice a m g]).run P w=.ok i h) :
  Calls P (ρ.f 22) #[.slice b n c,.int .i64 n,.slice a m g] w λe w'=>e=.returned i/\w'=h:=by
 have t3:=L.t3;have t4:=L.t4;have t24:=L.t24;have z9:=L.z9;have q:=run_underlying L.t3;have r:=run_underlying L.t4;have j:=run_underlying L.t24;have mixed:=L.mixed;have l:¬((m:Int)=0):=by omega
 have o:¬(m=0):=by omega
 go_enter L.f22,Body2.n22_ntmps ρ
 go_wp2_with (at_builtin;refine Lib.wpList_append_run _ rfl _ _ _ _ rfl _ _ rfl rfl _ _ d ?_)
 all_goals (go_ret;exact⟨rfl,rfl⟩)
set_option maxHeartbeats 4000000 in
set_option maxRecDepth 100000 in
theorem acA(L:TW P ρ nm k)(b n c i M l m vc:Nat)(_cs r:List Value)(w:World){d:Array Value}{tt:TypeId}{fr:Nat×Nat}{D:TypeInfo}{B:Value}(hie:P.info? (ρ.t 9)=some D)(X:D.size=k)(hze:D.zero=some B)(hzc:B.cells.size=k)(hk0:0<k)(hby:D.bytes<=32768)
  (hi:i<n) (hm:0<m) (_hnc:n<=c) (O:c<n+m) (Y:n+m<=4294967296)
  (hg:w.heap[b]?=some (.cells d tt fr)) (VE:d.size=c*k) (h1c:∀v∈(d.toList.take<|n*k),v.oneCell'=true)
  (Q:r.length=m*k) (hvs:∀j v,r[j]?=some v->w.cell? ⟨M,l+j,none⟩=some v) (hvb:M<w.heap.size) (h1v:∀v∈r,v.oneCell'=true) :
  Calls P (ρ.f 22) #[.slice (some ⟨b,0,none⟩) n c,.int .i64 i,.slice (some ⟨M,l,none⟩) m vc] w λe w' =>
   ∃(G:Nat) (Z:List Value),n+m<=G/\G<=maxLen/\(d.toList.take (i*k)++Z).length=G*k/\e=.returned (.slice (some ⟨w.heap.size,0,none⟩) (n+m) G) /\
   w'=(((w.drew.alloc<|.cells (d.toList.take (i*k)++Z).toArray<|ρ.t 9).setRow w.heap.size (aQ (d.toList.take (i*k)++Z) (i*k) r).toArray).drew).setRow w.heap.size (aQ (aQ (d.toList.take (i*k)++Z) (i*k) r) ((i+m)*k)<|(d.toList.take<|n*k).drop<|i*k).toArray:=by
 have t3:=L.t3;have t4:=L.t4;have t24:=L.t24;have z9:=L.z9;have u3:=run_underlying L.t3;have u4:=run_underlying L.t4;have u24:=run_underlying L.t24;have mixed:=L.mixed;have hz1:¬((m:Int)=0):=by omega
 have hz2:¬((i:Int)=(n:Int)):=by omega
 have hz3:(c:Int)<(n:Int)+(m:Int):=by omega
 have ajC:d.toList.length=c*k:=by simpa using VE
 have hnk:n*k<=c*k:=fN _ (by omega);have hik:i*k<=n*k:=fN _ (by omega);have hkk:(n:Int)+(m:Int)-(i:Int)=((n+m-i:Nat):Int):=by omega
 have R:i+(n+m-i)=n+m:=by omega
 have hbw:b<w.heap.size:=(u9.1 hg).1;have hold:(Builtin.firstCells D.size i<|.slice (some ⟨b,0,none⟩) i c).run P w.drew=.ok (d.toList.take<|i*k).toArray w.drew:=by
  rw[X];exact run_firstCells_some w.drew k i ⟨b,0,none⟩ i c (d.toList.take<|i*k) (by rw[gM,sw (by omega)]) (λj v u=>by
   rw[Addr.add_lit];show w.cell? ⟨b,0+j,none⟩=some v
   rw[cell_of_heap hg];rw[gm] at u;split at u
   .simpa using u
   .cases u)
 have hbn:(n+m)*D.bytes<=140737488355328:=iz (Nat.mul_le_mul Y hby) (by decide);have s:∀x,(Builtin.append_ #[(ρ.t 24),(ρ.t 3)] x #[.slice (some ⟨b,0,none⟩) i c,.int .i64 ((n:Int)+(m:Int)-(i:Int))]).run P w =
   .ok (.slice (some ⟨w.heap.size,0,none⟩) (n+m)<|grownCap w (n+m) c<|ρ.t 9) (w.drew.alloc<|.cells ((d.toList.take<|i*k).toArray++Builtin.zeroCells B.cells (n+m-i)++Builtin.zeroCells B.cells (grownCap w (n+m) c (ρ.t 9)-(n+m)))<|ρ.t 9):=λx=>by
  have h:=Lib.run_append_grow_zeros (P:=P) w (ρ.t 24) (ρ.t 3) x (ρ.t 9) D B .i64 .i64 L.t24 L.t3 hie hze (some ⟨b,0,none⟩) i c (d.toList.take<|i*k) hold (n+m-i) (by omega) (by omega) (by omega) (by omega) (by
   have:(n+m-i)*D.bytes<=(n+m)*D.bytes:=fN _ (by omega);omega) (by rw[R];exact growslice_fits O hbn)
  rw[R] at h;rw[hkk];exact h
 have E:=grownCap_ge w (n+m) c (ρ.t 9);have F:=grownCap_le_maxLen w (n+m) c (ρ.t 9) (by have:=C3;omega);obtain⟨G,hG⟩:∃G,G=grownCap w (n+m) c (ρ.t 9):=⟨_,rfl⟩;rw[<-hG] at s E F;obtain⟨Z,hZ⟩:∃Z:List Value,Z=(Builtin.zeroCells B.cells<|n+m-i).toList++(Builtin.zeroCells B.cells<|G-(n+m)).toList:=⟨_,rfl⟩;have J:(d.toList.take<|i*k).toArray++Builtin.zeroCells B.cells (n+m-i)++Builtin.zeroCells B.cells (G-(n+m))=(d.toList.take (i*k)++Z).toArray:=by
  rw[hZ];apply CQ.1;simp
 rw[J] at s;have S:∀q,(Builtin.zeroCells B.cells q).size=q*k:=λq=>by simp[Builtin.zeroCells,hzc]
 have hZl:Z.length=(n+m-i)*k+(G-(n+m))*k:=by
  rw[hZ,iP,Kl,Kl,S,S]
 obtain⟨g,o⟩:∃g,g=d.toList.take (i*k)++Z:=⟨_,rfl⟩;have y:g.length=G*k:=by
  rw[o,iP,gM,sw (by omega),hZl,<-x8,<-gn,<-gn]
  congr 1;omega
 rw[<-o] at s;have hGk:(n+m)*k<=G*k:=fN _ E;have agk:i*k+m*k<=(n+m)*k:=by rw[<-gn];exact fN _ (by omega)
 have T:(i+m)*k+(n-i)*k<=(n+m)*k:=by rw[<-gn];exact fN _ (by omega)
 have U:((d.toList.take<|n*k).drop<|i*k).length=(n-i)*k:=by
  rw[ma,gM,sw (by omega),SP]
 have hs2:(aQ g (i*k) r).length=G*k:=by rw[bH<|by rw[Q,y];omega];exact y
 obtain⟨N,hN⟩:∃N,N=w.heap.size:=⟨_,rfl⟩;rw[<-hN] at s;obtain⟨C,z⟩:∃C,C=w.drew.alloc (.cells g.toArray<|ρ.t 9):=⟨_,rfl⟩;have V:C.heap[N]?=some (.cells g.toArray (ρ.t 9) (0,0)):=by rw[z,hN];exact heap_alloc_new w.drew _
 have p:∀q,q<w.heap.size->C.heap[q]?=w.heap[q]?:=λq hq=>by rw[z];exact cG w.drew _ q hq
 have K:∀x W,(Builtin.copy_ #[(ρ.t 24),(ρ.t 24)] x #[.slice (some ⟨N,i*k,none⟩) (n+m-i) W,.slice (some ⟨M,l,none⟩) m vc]).run P C=.ok (goInt<|Nat.min m<|n+m-i) (C.setRow N (aQ g (i*k) r).toArray):=λx W=>by
  have:=yp (P:=P) C (ρ.t 24) (ρ.t 24) x (ρ.t 9) N (i*k) (n+m-i) W ⟨M,l,none⟩ m vc k r L.t24 L.i9 (by rw[Q];congr 1;show m=min m (n+m-i);omega)
   (λj v u=>by rw[Addr.add_lit,de (a:=⟨M,l+j,none⟩) (p M hvb)];exact hvs j v u) V (rP _) (by rw[Q,Iv,y];omega) h1v
  simpa using this
 obtain⟨I,A⟩:∃I,I=C.setRow N (aQ g (i*k) r).toArray:=⟨_,rfl⟩;have hg2:I.drew.heap[N]?=some (.cells (aQ g (i*k) r).toArray (ρ.t 9) (0,0)):=by rw[A];exact setRow_heap C N g.toArray _ _ _ V
 have hgb:I.drew.heap[b]?=some (.cells d tt fr):=by
  show I.heap[b]?=_
  rw[A,setRow_other C N b _ (by omega),p b hbw];exact hg
 have ajD:∀x W sc,(Builtin.copy_ #[(ρ.t 24),(ρ.t 24)] x #[.slice (some ⟨N,(i+m)*k,none⟩) (n+m-(i+m)) W,.slice (some ⟨b,i*k,none⟩) (n-i) sc]).run P I.drew =
   .ok (goInt<|Nat.min (n-i)<|n+m-(i+m)) (I.drew.setRow N (aQ (aQ g (i*k) r) ((i+m)*k)<|(d.toList.take<|n*k).drop<|i*k).toArray):=λx W sc=>by
  have:=yp (P:=P) I.drew (ρ.t 24) (ρ.t 24) x (ρ.t 9) N ((i+m)*k) (n+m-(i+m)) W ⟨b,i*k,none⟩ (n-i) sc k ((d.toList.take<|n*k).drop<|i*k) L.t24 L.i9 (by
    rw[U];congr 1;show n-i=min (n-i) (n+m-(i+m));omega)
   (λj v u=>by
    rw[Addr.add_lit,cell_of_heap hgb];rw[l9,gm] at u;split at u
    .simpa using u
    .cases u) hg2 (rP _) (by rw[U,Iv,hs2];omega) (λv hv=>h1c v (Kk hv))
  simpa using this
 have amD:G<=9223372036854775807:=by have:=F;unfold maxLen at this;omega
 have hGi:¬(G=i):=by omega
 have amE:¬(G=i+m):=by omega
 have hci:¬(c=i):=by omega
 have hw1:IntKind.i64.wrap ((i:Int)+(m:Int))=(i:Int)+(m:Int):=by rw[IntKind.wrap_i64];omega
 have hb1:(0:Int)<=(i:Int)+(m:Int):=by omega
 have QF:i<=n:=by omega
 have htn:((i:Int)+(m:Int)).toNat=i+m:=by omega
 have hb3:(i:Int)<=(n:Int):=by omega
 have fin:∀(e:Ending) (w':World),(e=.returned (.slice (some ⟨N,0,none⟩) (n+m) G)/\w'=I.drew.setRow N (aQ (aQ g (i*k) r) ((i+m)*k)<|(d.toList.take<|n*k).drop<|i*k).toArray) ->
   ∃(G:Nat) (Z:List Value),n+m<=G/\G<=maxLen/\(d.toList.take (i*k)++Z).length=G*k/\e=.returned (.slice (some ⟨w.heap.size,0,none⟩) (n+m) G) /\
   w'=(((w.drew.alloc<|.cells (d.toList.take (i*k)++Z).toArray<|ρ.t 9).setRow w.heap.size (aQ (d.toList.take (i*k)++Z) (i*k) r).toArray).drew).setRow w.heap.size (aQ (aQ (d.toList.take (i*k)++Z) (i*k) r) ((i+m)*k)<|(d.toList.take<|n*k).drop<|i*k).toArray:=by
  rintro e w' ⟨rfl,rfl⟩;refine⟨G,Z,E,F,by rw[<-o];exact y,by rw[hN],?_⟩;rw[<-o,<-hN,A,z]
 refine Calls.mono ?_ fin;rw[<-z] at s;rw[<-A] at K;clear V p hg2 hgb z A hs2 U agk T hGk y o hZl S J hZ hG E F hbn hold hkk R hik hnk ajC fin hN hbw
 go_enter L.f22,Body2.n22_ntmps ρ
 go_wp2_with (first
  | (at_builtin;refine Lib.wpList_append_run _ rfl _ _ _ _ rfl _ _ rfl rfl _ _ (s _) ?_)
  | (at_builtin;refine wpList_copy_runI _ rfl _ _ (ρ.t 24) (ρ.t 24) rfl _ _ rfl rfl (K _ _) ?_))
 go_region_law_o (refine step_copy_runI rfl _ _ (ρ.t 24) (ρ.t 24) rfl _ _ (by simp[Act.eval,Act.put]) (by simp[Act.eval,Act.put]) (ajD _ _ _) ?_)
 go_wp2
 go_ret
 exact⟨rfl,rfl⟩
end Go.Ge
