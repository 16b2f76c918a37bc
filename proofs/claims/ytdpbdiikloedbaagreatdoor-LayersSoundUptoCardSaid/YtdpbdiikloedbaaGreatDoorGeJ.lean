/- A ghost interpreter of the model's code, and that it tells the truth: part 10. It says of a function of plain data what a call of it comes to. -/
import Derived.Test.YtdpbdiikloedbaaGreatDoorGeI
import Derived.Lib.LazyBuf
import Derived.Lib.Bytealg
import Derived.Shelf.Strings.SplitCore
import Derived.Shelf.Strings.Search3
import Derived.Shelf.Strings.Count
import Derived.Lib.SplitLaws
import Derived.Lib.Join
import Derived.Lib.IndexBytes
import Derived.Shelf.Strconv.Itoa3
import Derived.Shelf.Strconv.ErrVarParseInt
import Derived.Lib.AppendIntMem
import Derived.Lib.ItoaLen
import Derived.Lib.LaidTab
import Derived.LaidSub
import Derived.Sort.EncStr
import Derived.Sort.Grow
import Derived.Lib.SlicesCompact
import Derived.Shelf.Spec.SlicesInsertGrow
set_option linter.unusedSectionVars false
open Go.IntKind (i64)
namespace Go.Ge
variable [Lp]
open RowKit
noncomputable def acU(a:Ctx)(b:List Nat)(d:List ResultVar)(R:Ty)(c:Code)(σ:St):Option R.den :=
 ((iF a 0 b zr c [] σ).bind λr=>bif Nat.beq r.1 1 then((results1 a r.2 d).bind λv=>match iv (iV r.2.mem) R (C0 R v) with
  | some y=>.ret y
  | none=>.fail) else .fail).run
section
variable {P:Program} {cx:Ctx} {bf:List Nat}
theorem Dz{G:fm}:vz P G zr:=λB γ σ bb w f a b v _ _ _ h=>by cases h
theorem x9:∀f a σ v bb,(zr f a σ).run=some (v,bb)->bo σ bb:=λf a σ v bb h=>by cases h
def Ends(w:World)(I:Nat->Nat->Prop)(R:Ty)(y:R.den)(e:Ending)(c:World):Prop :=
 ∃v a,e=.returned v/\Below w.heap.size w c/\(∀b o,I b o->a b o)/\(∀b o,a b o->b<c.heap.size)/\(∀b o,a b o->¬I b o->w.heap.size<=b)/\lU c a R y v
theorem Nu{Q:Exit->Act->World->Prop}(i:P.follows .mixedOrders=true)(z:fo P cx){G:fm}(j:pA P G cx){fn:Func}{R:Ty}{y:R.den}{c:Code}{σ:St}{A:Gh}{a:Act}{w0 w:World}{N:Nat}{I:Nat->Nat->Prop}
  (E:∀t∈writes c,t<N) (B:acU cx bf fn.results.toList R c σ=some y) (h:cW (l5 G w0.heap.size) N A σ a w) (F:Ext (l5 G w0.heap.size) ⟨I,λ_=>none⟩ (λ_=>none) w0 A σ.mem w)
  (H:∀a w,bodyPost P fn (Ends w0 I R y) .ret a w->Q .ret a w):c.wp P Q a w:=by
 unfold acU at B;obtain⟨r,l,m⟩:=bind_some B;obtain⟨e,bb⟩:=r;obtain⟨J,K⟩:=aC m;obtain⟨v,L,n⟩:=bind_some K;have M:iv (iV bb.mem) R (C0 R v)=some y:=by
  split at n
  .rename_i U p;obtain rfl:=aI n;exact p
  .cases n
 refine sB i z j Dz x9 c E l h λbQ C w' s x f=>?_;obtain⟨g,O,S⟩:=wu (fn:=fn) z s L;have q:=F.trans x;have key:Ends w0 I R y (.returned g) w':=by
  refine⟨g,λb o=>bQ.I b o\/(w0.heap.size<=b/\b<w'.heap.size),rfl,q.below.below,λb o d=>.inl (q.I b o d),λb o d=>?_,λb o d T=>?_,?_⟩
  .rcases d with d|d
   .exact s.ok.tu b o d
   .exact d.2
  .rcases d with d|d
   .exact pY.1 ((q.pZ b o d).resolve_left T)
   .exact d.1
  .exact Nt (σ:=iV bb.mem) s.ok (λb o d=>.inl d) (λb o l m=>.inr ⟨pY.1 l,m⟩) S M
 have:C.defers=[]/\∃D,(results fn C.tmps).run P w'=.ok D w'/\Ends w0 I R y (.returned D) w':=⟨s.defers,g,O,key⟩;have u:e=1:=eT J;subst u;exact H _ _ this
theorem vC(B:P.follows .mixedOrders=true)(hc:fo P cx){G:fm}(C:pA P G cx){f tid id1:Nat}{fn:Func}{e:Ty}{X Y Z:Code}{z A:Oper}{ty2:TypeId}{s0:List e.den->St}
  (hP:P.funcs[f]?=some fn) (M:(fn.name == "runtime.NumGoroutine")=false)
  (D:fn.body=some (.seq X<|.seq (.seq (.region id1 #[z,A] false)<|.cond (.tmp 4) (.seq Y .ret) .skip)<|.seq Z .ret))
  (hT:find cx.T tid=some (.slice e)) (hN:4<fn.ntmps) (hd:∀t∈writes X++(writes Y++writes Z),t<fn.ntmps)
  (g0:z.guard=none) (d0:z.dst=some 3) (p0:z.op=.move (.tmp 0)) (g1:A.guard=none) (d1:A.dst=some 4) (p1:A.op=.binOp .eql tid (.tmp 3) (.const<|.slice none 0 0) ty2)
  (h0:∀l,(iF cx 0 bf zr X []<|uB (λ_=>none) [.data (.slice e) l]).run=some (0,s0 l)) (hs0:∀l,(s0 l).slots 0=.data (.slice e) l) (hs3:∀l,(s0 l).slots 3=.undef) (hs4:∀l,(s0 l).slots 4=.undef)
  (hA:∀l,acU cx bf fn.results.toList (.pair (.slice e) .unit) (.seq Y .ret) (s0 l)=some (([]:List e.den),()))
  (hB:∀l:List e.den,fits (len l)=true->acU cx bf fn.results.toList (.pair (.slice e) .unit) (.seq Z .ret) (s0 l)=some (l,())) :
  Holds P G f ⟨.pair (.slice e) .unit,.pair (.slice e) .unit,λx=>bif fits (len (α:=e.den) x.1) then some x else none⟩ where
 body:=⟨fn,_,hP,M,D⟩
 calls:=by
  intro I w r x y hI hG O p;obtain⟨l,u⟩:=x;change List e.den at l;have E:fits (len l)=true/\y=(l,()):=by
   change (bif fits (len l) then some ((l,u):(Ty.pair (.slice e) .unit).den) else none)=some y at p;cases W:fits (len l) with
   | true=>rw[W] at p;exact⟨rfl,(aI p).symm⟩
   | false=>rw[W] at p;cases p
  obtain⟨E,rfl⟩:=E;obtain⟨cs,rest,hal,aeo,S⟩:=O;obtain rfl:rest=[]:=S;obtain⟨Xj,ah2,_⟩:=(hc.T _ _ hT).slice;have hm:bB (l5 G w.heap.size) ⟨I,λ_=>none⟩ (λ_=>none) w :=
   { cU:=λb Q g=>by
      obtain⟨o,h1,h2⟩:=hG b Q g;exact⟨λF=>by have:=pY.1 F;have:=(vk.1 h1).1;omega,o,h1,h2⟩
     base:=cg _
     boxes:=λb bx F=>by cases F
     inj:=λb c U k k' F=>absurd rfl F
     fresh:=λb U k F=>absurd rfl F
     tu:=hI
     sep:=λb bx U k off F=>by cases F }
  have hv:lV ⟨I,λ_=>none⟩ (λ_=>none) w [.data (.slice e) l] r.toList:=by
   rw[hal];refine⟨rfl,λi v x hv hx=>?_⟩;cases i with
   | zero=>obtain rfl:=aI hv;obtain rfl:=aI hx;exact⟨cs,aeo,rfl⟩
   | succ i=>cases hv
  show Calls P f r w (Ends w I (.pair (.slice e) .unit) (l,()))
  refine calls_of_wp hP D (wp_seq ?_);have TZ:r.size=1:=by have:=congrArg List.length hal;simpa using this
  have hNN:r.size+(fn.ntmps-r.size)=fn.ntmps:=by omega
  have K:=E2 hm hv fn.ntmps;rw[hNN] at K;refine sB B hc C Dz x9 X (λt ht=>hd t (mZ _ ht)) (h0 l) K λγ1 s H s1 x1 f1=>?_;refine wp_seq (wp_seq<|wp_region_list ?_);have hr0:=s1.slots 0;rw[hs0] at hr0;obtain⟨cs1,hc1,hv1⟩:=dQ.1 hr0;have hsl:∃j n m,s.tmps.getD 0 Go.undef=.slice j n m/\(j=none->l=[]):=by
   rcases hc1 with ⟨⟨j,k1⟩,k2⟩|⟨U,off,m,k1,_⟩
   .exact⟨j,0,0,by rw[hv1,k1];rfl,λ_=>k2⟩
   .exact⟨_,_,_,by rw[hv1,k1];rfl,λh=>by cases h⟩
  obtain⟨j,n,m,aaq,V⟩:=hsl;have J:∀{d:Nat},(s0 l).slots d=.undef->(s0 l).put d .undef=s0 l:=by
   intro d Wk;unfold St.put;generalize s0 l=q at Wk⊢;obtain⟨sl,mm⟩:=q
   congr 1
   funext t;cases F:Nat.beq t d with
   | true=>obtain rfl:=eT F;exact Wk.symm
   | false=>rfl
  have s2:cW (l5 G w.heap.size) fn.ntmps γ1 (s0 l) (s.put (some 3)<|.slice j n m) H:=by
   have:=s1.uE (d:=some 3) (v:=.undef) (val:=.slice j n m) (λk hk=>by cases hk;omega) ⟨_,rfl⟩;rw[show(s0 l).ba (some 3) .undef=s0 l from J (hs3 l)] at this;exact this
  have s3:cW (l5 G w.heap.size) fn.ntmps γ1 (s0 l) ((s.put (some 3)<|.slice j n m).put (some 4)<|.bool j.isNone) H:=by
   have:=s2.uE (d:=some 4) (v:=.undef) (val:=.bool j.isNone) (λk hk=>by cases hk;omega) ⟨_,rfl⟩;rw[show(s0 l).ba (some 4) .undef=s0 l from J (hs4 l)] at this;exact this
  have e3:(s.put (some 3)<|.slice j n m).eval (.tmp 3)=.slice j n m:=by
   simp[Act.eval,Act.put,s1.size];omega
  have e4:((s.put (some 3)<|.slice j n m).put (some 4)<|.bool j.isNone).eval (.tmp 4)=.bool j.isNone:=by
   have:=s2.size;simp only[Act.eval];generalize s.put (some 3) (.slice j n m)=a2 at this⊢;simp[Act.put,this,hN]
  show wpList P #[z,A] _ [z,A] s H
  unfold wpList;rw[show Region.wanted z (yielded #[z,A] s.tmps)=true by unfold Region.wanted;rw[g0]];simp only[ky];refine .inl ?_;unfold Oper.wp;have ex0:(execOp s.eval z).run P H=.ok (.value<|.slice j n m) H:=by
   have:s.eval (.tmp 0)=.slice j n m:=aaq;simp only[execOp,p0,this];rfl
  rw[ex0];show wpList P #[z,A] _ [A] (s.put z.dst<|.slice j n m) H
  rw[d0];unfold wpList;rw[show Region.wanted A (yielded #[z,A] (s.put (some 3)<|.slice j n m).tmps)=true by unfold Region.wanted;rw[g1]];simp only[ky];refine .inl ?_;unfold Oper.wp;have ex1:(execOp (s.put (some 3)<|.slice j n m).eval A).run P H=.ok (.value<|.bool j.isNone) H:=by
   have aeC:(s.put (some 3)<|.slice j n m).eval (.const<|.slice none 0 0)=.slice none 0 0:=rfl;have hg:(eqGuard .eql tid (.tmp 3) (.const<|.slice none 0 0) (.slice j n m)<|.slice none 0 0).run P H=.ok () H:=by simp[eqGuard]
   simp only[execOp,p1,e3,aeC,Sem.run_bind,hg,_root_.Go.run_eql_slice_nil H tid Xj j n m ah2,Result.andThen_ok,Sem.run_pure]
  rw[ex1];simp only[Oper.upon];rw[d1];refine wpList_nil ?_;have L:∀{t},t∈writes Y++writes Z->t∈writes X++(writes Y++writes Z):=λh=>mY _ h;refine wp_cond_split (t:=j.isNone) e4 (λhn=>?_) (λhn=>?_)
  .have hl:l=[]:=V (by simpa using hn);have:=hA l;rw[<-hl] at this;exact Nu (w0:=w) (I:=I) (R:=.pair (.slice e) .unit) (N:=fn.ntmps) B hc C (λt ht=>hd t (L<|mZ _<|by simpa [writes] using ht)) this s3 x1 λa w W=>W
  .exact wp_skip (Nu (w0:=w) (I:=I) (R:=.pair (.slice e) .unit) (N:=fn.ntmps) B hc C (λt ht=>hd t (L<|mY _<|by simpa [writes] using ht)) (hB l E) s3 x1 λa w W=>W)
noncomputable def acV(a:Ctx)(b:List Nat)(d:List ResultVar)(e:Ty)(c:Code)(σ:St):Option (List e.den) :=
 ((iF a 0 b zr c [] σ).bind λr=>bif Nat.beq r.1 1 then((results1 a r.2 d).bind λv=>match xU e r.2 v with
  | some x=>.ret x.2.2.2
  | none=>.fail) else .fail).run
def Wr(w:World)(I:Nat->Nat->Prop)(e:Ty)(l:List e.den)(q:Ending)(b:World):Prop :=
 ∃v d L,q=.returned v/\kG w I (λ_=>False) b d/\vy b d e l L v/\∀a c,L=some (a,c)->w.heap.size<=a
theorem JO{Q:Exit->Act->World->Prop}(i:P.follows .mixedOrders=true)(u:fo P cx){G:fm}(j:pA P G cx){fn:Func}{e:Ty}{l:List e.den}{c:Code}{σ:St}{y:Gh}{a:Act}{w0 w:World}{N:Nat}{I:Nat->Nat->Prop}
  (J:∀t∈writes c,t<N) (z:acV cx bf fn.results.toList e c σ=some l) (h:cW (l5 G w0.heap.size) N y σ a w) (K:Ext (l5 G w0.heap.size) ⟨I,λ_=>none⟩ (λ_=>none) w0 y σ.mem w)
  (L:∀a w,bodyPost P fn (Wr w0 I e l) .ret a w->Q .ret a w):c.wp P Q a w:=by
 unfold acV at z;obtain⟨r,M,O⟩:=bind_some z;obtain⟨x,bb⟩:=r;obtain⟨R,S⟩:=aC O;obtain⟨v,T,p⟩:=bind_some S;split at p
 case h_2=>cases p
 rename_i o A;obtain⟨b,U,bx,B⟩:=o;obtain rfl:=aI p;obtain⟨V,C,D,W,X,E,_⟩:=sy A;refine sB i u j Dz x9 c J M h λbQ F w' s x f=>?_;obtain⟨d,Y,Z⟩:=wu (fn:=fn) u s T;have g:=K.trans x;obtain⟨m,he⟩:=Ng (σ:=bb) s.ok A Z;have key:Wr w0 I e B (.returned d) w':=by
  refine⟨d,bQ.I,bQ.loc b,rfl,⟨⟨g.below.os,g.below.tape,g.below.output,g.below.size,λk hk=>g.below.block k hk⟩,g.I,s.ok.tu,λb o hi hn=>pY.1 ((g.pZ b o hi).resolve_left hn)⟩,m,λq c hl=>?_⟩;exact pY.1 (s.ok.fresh b q c (by rw[V];simp) hl).1
 have:F.defers=[]/\∃H,(results fn F.tmps).run P w'=.ok H w'/\Wr w0 I e B (.returned H) w':=⟨s.defers,d,Y,key⟩;have n:_=1:=eT R;dsimp only at n;subst n;exact L _ _ this
theorem xn(u:P.follows .mixedOrders=true)(hc:fo P cx)(y:pA P vv cx){f tid id1:Nat}{fn:Func}{e:Ty}{L M O:Code}{r s:Oper}{ty2:TypeId}{s0:List e.den->St}
 (hP:P.funcs[f]?=some fn) (F:(fn.name == "runtime.NumGoroutine")=false)
 (z:fn.body=some (.seq L<|.seq (.seq (.region id1 #[r,s] false)<|.cond (.tmp 4) (.seq M .ret) .skip)<|.seq O .ret))
 (hT:find cx.T tid=some (.slice e)) (hN:4<fn.ntmps) (hd:∀t∈writes L++(writes M++writes O),t<fn.ntmps)
 (g0:r.guard=none) (d0:r.dst=some 3) (p0:r.op=.move (.tmp 0)) (g1:s.guard=none) (d1:s.dst=some 4) (p1:s.op=.binOp .eql tid (.tmp 3) (.const<|.slice none 0 0) ty2)
 (h0:∀l,(iF cx 0 bf zr L []<|uB (λ_=>none) [.data (.slice e) l]).run=some (0,s0 l)) (hs0:∀l,(s0 l).slots 0=.data (.slice e) l) (hs3:∀l,(s0 l).slots 3=.undef) (hs4:∀l,(s0 l).slots 4=.undef)
 (hA:∀l,acV cx bf fn.results.toList e (.seq M .ret) (s0 l)=some [])
 (hB:∀l:List e.den,fits (len l)=true->acV cx bf fn.results.toList e (.seq O .ret) (s0 l)=some l) :
 gk P f (.clone e):=by
 refine⟨⟨fn,_,hP,F,z⟩,λI w o l hI G R=>?_⟩;obtain⟨cs,S,U,V,H⟩:=G;obtain rfl:S=[]:=H;obtain⟨Xj,W,_⟩:=(hc.T _ _ hT).slice;have hm:bB (l5 vv w.heap.size) ⟨I,λ_=>none⟩ (λ_=>none) w :=
  { cU:=λb Q g=>g.elim
    base:=cg _
    boxes:=λb bx C=>by cases C
    inj:=λb c J k k' C=>absurd rfl C
    fresh:=λb J k C=>absurd rfl C
    tu:=hI
    sep:=λb bx J k off C=>by cases C }
 have hv:lV ⟨I,λ_=>none⟩ (λ_=>none) w [.data (.slice e) l] o.toList:=by
  rw[U];refine⟨rfl,λi v x hv hx=>?_⟩;cases i with
  | zero=>obtain rfl:=aI hv;obtain rfl:=aI hx;exact⟨cs,V,rfl⟩
  | succ i=>cases hv
 show Calls P f o w (Wr w I e l)
 refine calls_of_wp hP z (wp_seq ?_);have TZ:o.size=1:=by have:=congrArg List.length U;simpa using this
 have hNN:o.size+(fn.ntmps-o.size)=fn.ntmps:=by omega
 have D:=E2 hm hv fn.ntmps;rw[hNN] at D;refine sB u hc y Dz x9 L (λt X=>hd t (mZ _ X)) (h0 l) D λY p A s1 x1 f1=>?_;refine wp_seq (wp_seq<|wp_region_list ?_);have Z:=s1.slots 0;rw[hs0] at Z;obtain⟨cs1,hc1,hv1⟩:=dQ.1 Z;have hsl:∃j n m,p.tmps.getD 0 Go.undef=.slice j n m/\(j=none->l=[]):=by
  rcases hc1 with ⟨⟨j,k1⟩,k2⟩|⟨J,off,m,k1,_⟩
  .exact⟨j,0,0,by rw[hv1,k1];rfl,λ_=>k2⟩
  .exact⟨_,_,_,by rw[hv1,k1];rfl,λh=>by cases h⟩
 obtain⟨j,n,m,aaq,K⟩:=hsl;have B:∀{d:Nat},(s0 l).slots d=.undef->(s0 l).put d .undef=s0 l:=by
  intro d Wk;unfold St.put;generalize s0 l=q at Wk⊢;obtain⟨sl,mm⟩:=q
  congr 1
  funext t;cases C:Nat.beq t d with
  | true=>obtain rfl:=eT C;exact Wk.symm
  | false=>rfl
 have s2:cW (l5 vv w.heap.size) fn.ntmps Y (s0 l) (p.put (some 3)<|.slice j n m) A:=by
  have:=s1.uE (d:=some 3) (v:=.undef) (val:=.slice j n m) (λk hk=>by cases hk;omega) ⟨_,rfl⟩;rw[show(s0 l).ba (some 3) .undef=s0 l from B (hs3 l)] at this;exact this
 have s3:cW (l5 vv w.heap.size) fn.ntmps Y (s0 l) ((p.put (some 3)<|.slice j n m).put (some 4)<|.bool j.isNone) A:=by
  have:=s2.uE (d:=some 4) (v:=.undef) (val:=.bool j.isNone) (λk hk=>by cases hk;omega) ⟨_,rfl⟩;rw[show(s0 l).ba (some 4) .undef=s0 l from B (hs4 l)] at this;exact this
 have e3:(p.put (some 3)<|.slice j n m).eval (.tmp 3)=.slice j n m:=by
  simp[Act.eval,Act.put,s1.size];omega
 have e4:((p.put (some 3)<|.slice j n m).put (some 4)<|.bool j.isNone).eval (.tmp 4)=.bool j.isNone:=by
  have:=s2.size;simp only[Act.eval];generalize p.put (some 3) (.slice j n m)=a2 at this⊢;simp[Act.put,this,hN]
 show wpList P #[r,s] _ [r,s] p A
 unfold wpList;rw[show Region.wanted r (yielded #[r,s] p.tmps)=true by unfold Region.wanted;rw[g0]];simp only[ky];refine .inl ?_;unfold Oper.wp;have ex0:(execOp p.eval r).run P A=.ok (.value<|.slice j n m) A:=by
  have:p.eval (.tmp 0)=.slice j n m:=aaq;simp only[execOp,p0,this];rfl
 rw[ex0];show wpList P #[r,s] _ [s] (p.put r.dst<|.slice j n m) A
 rw[d0];unfold wpList;rw[show Region.wanted s (yielded #[r,s] (p.put (some 3)<|.slice j n m).tmps)=true by unfold Region.wanted;rw[g1]];simp only[ky];refine .inl ?_;unfold Oper.wp;have ex1:(execOp (p.put (some 3)<|.slice j n m).eval s).run P A=.ok (.value<|.bool j.isNone) A:=by
  have aeC:(p.put (some 3)<|.slice j n m).eval (.const<|.slice none 0 0)=.slice none 0 0:=rfl;have hg:(eqGuard .eql tid (.tmp 3) (.const<|.slice none 0 0) (.slice j n m)<|.slice none 0 0).run P A=.ok () A:=by simp[eqGuard]
  simp only[execOp,p1,e3,aeC,Sem.run_bind,hg,_root_.Go.run_eql_slice_nil A tid Xj j n m W,Result.andThen_ok,Sem.run_pure]
 rw[ex1];simp only[Oper.upon];rw[d1];refine wpList_nil ?_;have E:∀{t},t∈writes M++writes O->t∈writes L++(writes M++writes O):=λh=>mY _ h;refine wp_cond_split (t:=j.isNone) e4 (λhn=>?_) (λhn=>?_)
 .have hl:l=[]:=K (by simpa using hn);have:=hA l;rw[<-hl] at this;exact JO (w0:=w) (I:=I) (N:=fn.ntmps) u hc y (λt X=>hd t (E<|mZ _<|by simpa [writes] using X)) this s3 x1 λa w hq=>hq
 .exact wp_skip (JO (w0:=w) (I:=I) (N:=fn.ntmps) u hc y (λt X=>hd t (E<|mY _<|by simpa [writes] using X)) (hB l R) s3 x1 λa w hq=>hq)
end
end Go.Ge
namespace Go.Ge
variable [Lp]
theorem cR{S R:Type}{f:S->Option (S⊕R)}{r:R}:∀(k:Nat) (st:Nat->S),(∀i,i<k->f (st i)=some (.inl<|st<|i+1))->f (st k)=some (.inr r)->Loop f (st 0)=some r:=by
 intro k;induction k with
 | zero=>intro st _ h;rw[aN,h];rfl
 | succ k b =>
   intro st a c;rw[aN,a 0 (by omega)];exact b (λi=>st (i+1)) (λi d=>a (i+1) (by omega)) c
theorem aL{i:Nat}(h:i<4611686018427387904):aF .i64 (i:Int) 1=((i+1:Nat):Int):=by
 unfold aF;simp[IntKind.wrap,IntKind.min,IntKind.max,IntKind.signed,IntKind.bits];omega
theorem tK{a:Type}(l:List a)(i:Nat):idx l (i:Int)=l[i]?:=by
 unfold idx;rw[aQ<|by omega];simp
theorem XW{n:Nat}(h:n<=4294967296):fits (n:Int)=true:=by
 unfold fits;simp;omega
theorem ab{a:Type}(x y:a):aj true x y=x:=rfl
theorem ae{a:Type}(x y:a):aj false x y=y:=rfl
theorem aa{a b:Type}(x:a)(f:a->Option b):af (some x) f=f x:=rfl
theorem kT(a:aq):bt a a=true:=by simp[bt]
theorem iZ(a:Int):aX a a=true:=by simp[aX]
theorem aA:nt true=false:=rfl
theorem aw:nt false=true:=rfl
theorem aaQ{P:Program}{a:List (Nat×Ty)}(h:(a.all λp=>eV P p.2 false p.1 0 [])=true):∀tid t,find a tid=some t->Den P t tid:=λtid t b=>by
 rw[ra] at h;exact h _ (sC b)
theorem Nv{l:List Nat}{t:Nat}(h:cP l t=true):t∈l:=Dj.1 h
def afY(P:Program)(a:TypeId):Bool:=(match P.underlying a with|some (.pointer _)=>true|some (.func ..)=>true|_=>false)&&(match P.info? a with|some i=>Nat.beq i.size 1&&(match i.zero with|some z=>z.oneCell'|none=>false)|none=>false)
theorem Ws{P:Program}{a:List Nat}(h:(a.all λt=>afY P t)=true):∀tid,cP a tid=true->(∀w,(isAgg tid).run P w=.ok false w)/\(∀w,(Go.sizeOf tid).run P w=.ok 1 w)/\∃z,(∀w,(zeroValue tid).run P w=.ok z w)/\z.oneCell'=true:=λtid g=>by
 rw[ra] at h;have:=h tid (Nv g);simp only[afY,dv] at this;obtain⟨f,b⟩:=this;refine⟨?_,?_,?_⟩
 .intro w;split at f
  .rename_i c;simp[isAgg,run_underlying c]
  .rename_i c;simp[isAgg,run_underlying c]
  .cases f
 .intro w;split at b
  .rename_i i d;simp only[dv] at b;have:=eT b.1;simp[Go.sizeOf,typeInfo,d,this]
  .cases b
 .split at b
  .rename_i i d;simp only[dv] at b;obtain⟨_,e⟩:=b;split at e
   .rename_i z j;exact⟨z,λw=>by simp[zeroValue,typeInfo,d,j],e⟩
   .cases e
  .cases b
def afZ(P:Program)(a:TypeId):Bool:=match P.underlying a with|some (.pointer _)=>true|_=>false
theorem Wt{P:Program}{a:List Nat}(h:(a.all λt=>afZ P t)=true):∀tid,cP a tid=true->∃e,P.underlying tid=some (.pointer e):=λtid b=>by
 rw[ra] at h;have:=h tid (Nv b);unfold afZ at this;split at this
 .rename_i e c;exact⟨e,c⟩
 .cases this
theorem Wu{P:Program}:∀p∈([]:List (Nat×Func)),P.funcs[p.1]?=some p.2:=λp h=>by cases h
theorem ah{P:Program}{f:Nat}{b:Func}{l:List (Nat×Func)}(h:P.funcs[f]?=some b)(c:∀p∈l,P.funcs[p.1]?=some p.2):∀p∈(f,b)::l,P.funcs[p.1]?=some p.2:=λp a=>by
 rcases fP.1 a with rfl|a
 .exact h
 .exact c p a
theorem aaR{P:Program}{l:List (Nat×Func)}(h:∀p∈l,P.funcs[p.1]?=some p.2):∀f a,find l f=some a->P.funcs[f]?=some a:=λf a b=>h _ (sC b)
theorem al{P:Program}{G:fm}:∀p∈([]:List (Nat×xL)),Holds P G p.1 p.2:=λp h=>by cases h
theorem ag{P:Program}{G:fm}{f:Nat}{c:xL}{l:List (Nat×xL)}(h:Holds P G f c)(b:∀p∈l,Holds P G p.1 p.2):∀p∈(f,c)::l,Holds P G p.1 p.2:=λp a=>by
 rcases fP.1 a with rfl|a
 .exact h
 .exact b p a
theorem dF{P:Program}{G:fm}:∀p∈([]:List (Nat×xQ)),eN P G p.1 p.2:=λp h=>by cases h
theorem fU{P:Program}{G:fm}{f:Nat}{c:xQ}{l:List (Nat×xQ)}(h:eN P G f c)(b:∀p∈l,eN P G p.1 p.2):∀p∈(f,c)::l,eN P G p.1 p.2:=λp a=>by
 rcases fP.1 a with rfl|a
 .exact h
 .exact b p a
theorem ya{P:Program}:∀p∈([]:List (Nat×Xk)),gk P p.1 p.2:=λp a=>by cases a
theorem gl{P:Program}{f:Nat}{s:Xk}{l:List (Nat×Xk)}(h:gk P f s)(b:∀p∈l,gk P p.1 p.2):∀p∈(f,s)::l,gk P p.1 p.2:=λp a=>by
 rcases fP.1 a with rfl|a
 .exact h
 .exact b p a
theorem Nw{c:Type}:∀{l:List (String×c)} {k:String} {a:c},Q1 l k=some a->(k,a)∈l
 | [],_,_,h=>by cases h
 | (i,a)::r,k,b,h=>by
   unfold Q1 at h;by_cases e:i=k
   .rw[dI e] at h;obtain rfl:=e;obtain rfl:=aI h;exact mo ..
   .rw[cJ e] at h;exact nX _ (Nw h)
theorem eK{P:Program}{G:fm}:∀p∈([]:List (String×xL)),kF P G p.1 p.2:=λp h=>by cases h
theorem R2{P:Program}{G:fm}{f:String}{c:xL}{l:List (String×xL)}(h:kF P G f c)(b:∀p∈l,kF P G p.1 p.2):∀p∈(f,c)::l,kF P G p.1 p.2:=λp a=>by
 rcases fP.1 a with rfl|a
 .exact h
 .exact b p a
theorem jQ{P:Program}{G:fm}{b:Ctx}(h:∀p∈b.Zl,Holds P G p.1 p.2)(k:∀p∈b.TP,eN P G p.1 p.2)(s:∀p∈b.Lo,gk P p.1 p.2)(v:∀p∈b.inv,kF P G p.1 p.2):pA P G b :=
 ⟨λf c a=>h _ (sC a),λf c a=>k _ (sC a),λf c a=>s _ (sC a),λn c a=>v _ (Nw a)⟩
theorem Wv{P:Program}{a:List (Nat×List na)}(h:(a.all λp=>IU P p.1 p.2)=true):∀tid b,find a tid=some b->IU P tid b=true:=λtid b c=>by
 rw[ra] at h;exact h _ (sC c)
def elB(P:Program)(p:Nat×Nat):Bool:=match P.underlying p.1 with|some (.slice e)=>Nat.beq e p.2|_=>false
theorem aaS{P:Program}{a:List (Nat×Nat)}(h:(a.all λp=>elB P p)=true):∀tid e,find a tid=some e->P.underlying tid=some (.slice e):=λtid e b=>by
 rw[ra] at h;have:=h _ (sC b);unfold elB at this;split at this
 .rename_i d c;rw[c,eT this]
 .cases this
theorem Gt{P:Program}{t:TypeId}{i:TypeInfo}{z:Value}(h:P.info? t=some i)(k:i.zero=some z)(w:World):(zeroValue t).run P w=.ok z w:=by simp[zeroValue,typeInfo,h,k]
theorem aaT(I:Nat->Nat->Prop)(w:World):EH vv w:=λb Q h=>h.elim
end Go.Ge
namespace Go.Ge
open RowKit
theorem yX(c:UInt8):∀l:aq,-1<=Lib.indexByte l c/\Lib.indexByte l c<l.length:=by
 intro l;induction l with
 | nil=>exact⟨by simp[Lib.indexByte],by simp[Lib.indexByte]⟩
 | cons b r a =>
   unfold Lib.indexByte;split
   .exact⟨by simp,by simp only[dd];omega⟩
   .split
    .exact⟨by simp,by simp only[dd];omega⟩
    .simp only[dd];omega
theorem Ww{P:Program}{f:Nat}{b:Func}(d:P.funcs[f]?=some b)(c:(b.name == "runtime.NumGoroutine")=false)(e:b.body.isSome=true) :
  ∃b a,P.funcs[f]?=some b/\(b.name == "runtime.NumGoroutine")=false/\b.body=some a:=by
 obtain⟨a,g⟩:=Ik.1 e;exact⟨b,a,d,c,g⟩
theorem R3{w:World}{b:Nat}{p q v:Value}{T:TypeId}{a:Nat×Nat}(h:w.heap[b]?=some (.cells #[p,v] T a)):w.setCell ⟨b,0,none⟩ q=w.setRow b #[q,v]:=by
 unfold World.setCell World.setRow
 congr 1
 apply Array.ext_getElem?;intro i;simp only[QC];by_cases e:b=i
 .subst e;simp[h]
 .simp[e]
theorem vn.refl(a:Option Nat)(w:World):vn a w w:=⟨rfl,rfl,rfl,cg _,λ_ _ _=>rfl,λ_ _ _=>rfl⟩
theorem vn.weaken{b:Option Nat}{w a:World}(h:vn none w a):vn b w a:=⟨h.os,h.tape,h.output,h.size,λk c _=>h.block k c (by simp),h.cell⟩
theorem vn.drew{a:Option Nat}{w w':World}(h:vn a w w'):vn a w w'.drew:=⟨h.os,h.tape,h.output,h.size,h.block,h.cell⟩
theorem vn.alloc{b:Option Nat}{w w':World}(h:vn b w w')(o:Obj):vn b w (w'.alloc o) where
 os:=h.os
 tape:=h.tape
 output:=h.output
 size:=gj h.size (by simp)
 block:=λk a d=>(cK w' o k<|B6 a h.size).trans (h.block k a d)
 cell:=λk c a=>(di<|cK w' o k<|B6 a h.size).trans (h.cell k c a)
theorem vn.freeze{g:Nat}{w b:World}(h:vn (some g) w b)(n:Nat):vn (some g) w (b.freeze ⟨g,0,none⟩ n):=by
 unfold World.freeze;split
 .exact h
 .refine⟨h.os,h.tape,h.output,gj h.size (by simp),λk d f=>?_,λk c d=>?_⟩
  .have a:¬g=k:=λe=>f (by rw[e]);rw[<-h.block k d f];simp[QC,a]
  .rw[<-h.cell k c d];by_cases e:g=k
   .subst e;simp only[World.cell?,QC,ky];cases b.heap[g]? with
    | none=>rfl
    | some o=>cases o<;>rfl
   .have a:¬g=k:=e;simp[World.cell?,QC,a]
theorem Pk{P:Program}{G:fm}{f:Nat}{r:Func}{spec:aq->Int->Int}(z:P.funcs[f]?=some r)(d:(r.name == "runtime.NumGoroutine")=false)(A:r.body.isSome=true)
  (B:∀s c,(-1<=spec s c/\spec s c<s.length))
  (h:∀(s:ByteArray) (c:Int) (w:World),Calls P f #[.string s,.int .u8 c] w λe w'=>e=.returned (.int .i64<|spec s.data.toList c)/\w'=w) :
  Holds P G f ⟨.pair .str<|.pair (.int .u8) .unit,.pair (.int .i64) .unit,λx=>some (spec x.1 x.2.1,())⟩ where
 body:=by
  obtain⟨m,C⟩:=Ik.1 A;exact⟨r,m,z,d,C⟩
 calls:=by
  intro I w n x y D K g i;obtain⟨s,c,u⟩:=x;change aq at s;change Int at c;obtain rfl:((spec s c:Int),())=y:=aI i;obtain⟨L,v,t,p,E,j,q,l,a⟩:=g;obtain rfl:j=[]:=a;obtain⟨rfl,F⟩:=p;obtain⟨rfl,_⟩:=l;obtain rfl:n=#[.string ⟨s.toArray⟩,.int .u8 c]:=by
   apply B7.1;rw[t,q];rfl
  refine(h ⟨s.toArray⟩ c w).mono ?_;rintro e w' ⟨rfl,rfl⟩;refine⟨_,I,rfl,Below.refl _ _,λb o h=>h,D,λb o H J=>absurd H J,?_⟩;have M:=B s c;have N:s.length<=maxLen:=F;refine⟨[.int .i64<|spec s c],⟨rfl,?_,?_⟩,rfl⟩
  .have:(i64).min=-9223372036854775808:=by decide
   show(i64).min<=spec s c
   omega
  .have:(i64).max=9223372036854775807:=by decide
   have:maxLen=140737488355328\/maxLen<=9223372036854775807:=by right;decide
   show spec s c<=(i64).max
   omega
theorem LU{P:Program}{G:fm}{f:Nat}{r:Func}{spec:aq->Int->Option aq}(D:P.funcs[f]?=some r)(d:(r.name == "runtime.NumGoroutine")=false)(E:r.body.isSome=true)
  (F:∀s c y,spec s c=some y->y.length<=maxLen)
  (h:∀(s:ByteArray) (c:Int) (w:World) (y:aq),(i64).min<=c/\c<=(i64).max->s.data.toList.length<=maxLen->spec s.data.toList c=some y ->
   Calls P f #[.string s,.int .i64 c] w λe w'=>e=.returned (.string ⟨y.toArray⟩)/\Below w.heap.size w w') :
  Holds P G f ⟨.pair .str<|.pair (.int .i64) .unit,.pair .str .unit,λx=>(spec x.1 x.2.1).map λy=>(y,())⟩ where
 body:=by
  obtain⟨m,t⟩:=Ik.1 E;exact⟨r,m,D,d,t⟩
 calls:=by
  intro I w n x y H N g i;obtain⟨s,c,u⟩:=x;change aq at s;change Int at c;obtain⟨z,v,rfl⟩:=qY.1 i;change spec s c=some z at v;obtain⟨O,B,A,p,J,j,q,l,a⟩:=g;obtain rfl:j=[]:=a;obtain⟨rfl,K⟩:=p;obtain⟨rfl,t⟩:=l;obtain rfl:n=#[.string ⟨s.toArray⟩,.int .i64 c]:=by
   apply B7.1;rw[A,q];rfl
  refine(h ⟨s.toArray⟩ c w z t K v).mono ?_;rintro e w' ⟨rfl,C⟩;exact⟨_,I,rfl,C,λb o h=>h,λb o h=>B6 (H b o h) C.size,λb o L M=>absurd L M,[.string ⟨z.toArray⟩],⟨rfl,F _ _ _ v⟩,rfl⟩
end Go.Ge
namespace Go.Ge
open RowKit Go.Proofs Go.Shelf
theorem Any.UN(s:ByteArray)(c:UInt8):((Lib.countByte s.data.toList c:Nat):Int)=((Lib.countB s ⟨#[c]⟩:Nat):Int):=by
 show((s.data.toList.count c:Nat):Int)=((Lib.count s.data.toList [c]:Nat):Int)
 rw[Lib.count_one]
set_option maxHeartbeats 1000000 in
theorem Any.Ct{P:Program}{a:Ren}(L:Lays.n146 P a)(l:(P.info?<|a.t 9).map (λi=>(i.zero,i.size,i.bytes))=some (some<|.string ByteArray.empty,1,16))(s:ByteArray)(b:UInt8)(w:World)
  (o:s.size<4294967281) :
  Calls P (a.f 146) #[.string s,.string ⟨#[b]⟩] w λe w' =>
   e=.returned (.slice (some ⟨w.heap.size,0,none⟩) (Lib.countB s ⟨#[b]⟩+1)<|Lib.countB s ⟨#[b]⟩+1)/\w'=w.alloc (.cells ((Lib.splitB ⟨#[b]⟩ 0 (Lib.countB s ⟨#[b]⟩) s).map Value.string).toArray<|a.t 9):=by
 have j:1<=(⟨#[b]⟩:ByteArray).size:=cg _;generalize d:(⟨#[b]⟩:ByteArray)=sep at j;have p:=Lib.countB_le sep j s.size s (cg _);have hlen:=Lib.splitB_all sep j 0 _ s rfl;have c:=Proofs.Any.strings_genSplit_core { L with } l s sep 0 (-1) (Lib.countB s sep+1) w o j (nY _)
  (λx c r=>by
   subst d;refine(Proofs.Any.strings_Index_one { L with } x b _).mono λe w' ⟨m,h⟩=>⟨?_,h⟩;rw[m];show _=Ending.returned (Value.int .i64<|Lib.index x.data.toList [b])
   rw[Lib.index_one])
  (by
   subst d;refine(Proofs.Any.strings_Count_one { L with } s b w).mono λe w' ⟨m,h⟩=>⟨?_,h⟩;rw[m,Any.UN])
  (by decide) (by decide) (by rw[aQ<|by decide];omega)
 rw[Nat.add_sub_cancel,hlen] at c;have q:Lib.cellsOf (Lib.splitB sep 0 (Lib.countB s sep) s) (Lib.countB s sep+1)=((Lib.splitB sep 0 (Lib.countB s sep) s).map Value.string).toArray:=by rw[<-hlen];exact Lib.cellsOf_full _
 rw[q] at c;have t3:=L.t3;have u:=L.t9;have t31:=L.t31;have v:=L.a3;have y:=L.a9;have a31:=L.a31;have z:=L.z3;have A:=L.v3;have z9:=L.z9;have v9:=L.v9;have z31:=L.z31;have v31:=L.v31;have n:∀g w,(callFunc (a.f 221) g).run P w=.ok (.enter (a.f 221) g) w:=enters_of L.f221 (by kernel_rfl) rfl
 go_enter L.f146,Body.n146_ntmps a
 go_wp2_with (go_at_fn (a.f 221);refine c.mono ?_;rintro e w' ⟨rfl,h⟩;rw[h])
 go_ret
 exact⟨rfl,rfl⟩
def AN(s a:aq):Option (List aq):=match a with
 | [b]=>if s.length<4294967281 then some (Lib.split s [b]) else none
 | _=>none
theorem XX(a:aq):∀(k:Nat) (s x:aq),x∈Lib.splitK a 0 k s->x.length<=s.length:=by
 intro k;induction k with
 | zero=>intro s x h;simp[Lib.splitK] at h;rw[h];exact cg _
 | succ k b =>
   intro s x h;unfold Lib.splitK at h;split at h
   .simp at h;rw[h];exact cg _
   .rcases fP.1 h with h|h
    .rw[h,fB];omega
    .have:=b _ _ h;rw[kx] at this;omega
theorem R4{P:Program}{G:fm}{f r:Nat}{H:Func}(U:P.funcs[f]?=some H)(d:(H.name == "runtime.NumGoroutine")=false)(V:H.body.isSome=true)
  (h:∀(s:ByteArray) (b:UInt8) (w:World),s.size<4294967281->Calls P f #[.string s,.string ⟨#[b]⟩] w λe w' =>
   e=.returned (.slice (some ⟨w.heap.size,0,none⟩) (Lib.countB s ⟨#[b]⟩+1)<|Lib.countB s ⟨#[b]⟩+1)/\w'=w.alloc (.cells ((Lib.splitB ⟨#[b]⟩ 0 (Lib.countB s ⟨#[b]⟩) s).map Value.string).toArray r)) :
  Holds P G f ⟨.pair .str<|.pair .str .unit,.pair (.slice .str) .unit,λx=>(AN x.1 x.2.1).map λy=>(y,())⟩ where
 body:=by
  obtain⟨t,W⟩:=Ik.1 V;exact⟨H,t,U,d,W⟩
 calls:=by
  intro I w A x y X hG g l;obtain⟨s,m,u⟩:=x;change aq at s;change aq at m;obtain⟨z,n,rfl⟩:=qY.1 l;change AN s m=some z at n;have B:∃b,m=[b]/\s.length<4294967281/\z=Lib.split s [b]:=by
   unfold AN at n;split at n
   .rename_i b;split at n
    .rename_i K;exact⟨b,rfl,K,(aI n).symm⟩
    .cases n
   .cases n
  obtain⟨b,rfl,K,rfl⟩:=B;obtain⟨cs,O,L,C,Y,p,D,q,a⟩:=g;obtain rfl:p=[]:=a;obtain⟨rfl,M⟩:=C;obtain⟨rfl,_⟩:=q;obtain rfl:A=#[.string ⟨s.toArray⟩,.string ⟨#[b]⟩]:=by
   apply B7.1;rw[L,D];rfl
  refine(h ⟨s.toArray⟩ b w<|by show s.toArray.size<_;simpa using K).mono ?_;rintro e w' ⟨rfl,rfl⟩;have c:=Lib.splitB_data ⟨#[b]⟩ 0 (Lib.countB ⟨s.toArray⟩ ⟨#[b]⟩) ⟨s.toArray⟩;have hlen:=Lib.splitB_all ⟨#[b]⟩ (cg _) 0 _ ⟨s.toArray⟩ rfl;generalize Z:Lib.splitB ⟨#[b]⟩ 0 (Lib.countB ⟨s.toArray⟩ ⟨#[b]⟩) ⟨s.toArray⟩=Q at c hlen;have hd:Q.map (·.data.toList)=Lib.split s [b]:=c;have hn:(Lib.split s [b]).length=Lib.countB ⟨s.toArray⟩ ⟨#[b]⟩+1:=by rw[<-hd,qI,hlen]
  have E:Lib.countB ⟨s.toArray⟩ ⟨#[b]⟩+1<=maxLen:=by
   have:=Lib.countB_le ⟨#[b]⟩ (cg _) s.length ⟨s.toArray⟩ (by show s.toArray.size<=_;simp);have e:(⟨s.toArray⟩:ByteArray).size=s.length:=by show s.toArray.size=_;simp
   rw[e] at this;have:4294967281<=maxLen:=by decide
   omega
  refine⟨_,λb o=>I b o\/b=w.heap.size,rfl,(Below.refl _ _).alloc (cg _) _,λb o h=>.inl h,λb o h=>?_,λb o J h2=>?_,?_⟩
  .have N:(w.alloc<|.cells (Q.map Value.string).toArray r).heap.size=w.heap.size+1:=by simp
   rw[N];rcases h with h|h
   .have:=X b o h;omega
   .omega
  .rcases J with J|J
   .exact absurd J h2
   .omega
  .refine⟨[.slice (some ⟨w.heap.size,0,none⟩) (Lib.countB ⟨s.toArray⟩ ⟨#[b]⟩+1)<|Lib.countB ⟨s.toArray⟩ ⟨#[b]⟩+1],?_,rfl⟩;refine .inr ⟨w.heap.size,0,Lib.countB ⟨s.toArray⟩ ⟨#[b]⟩+1,?_,?_,E,λi x R=>?_⟩
   .show _=[Value.slice _ (Lib.split s [b]).length _]
    rw[hn]
   .show(Lib.split s [b]).length<=_
    omega
   .have F:(Lib.split s [b])[i]?=some x:=R;rw[<-hd,wP] at F;obtain⟨y,S,rfl⟩:=qY.1 F;refine⟨[.string y],rfl,λj v T=>?_,?_⟩
    .cases j with
     | succ j=>cases T
     | zero =>
       obtain rfl:=aI T;refine⟨?_,.inr rfl⟩;have hlt:=(fq.1 S).1;simp only[World.cell?,World.alloc,sr,wS];simp[Ty.size,S]
    .refine⟨?_,?_⟩
     .have:y=⟨y.data.toList.toArray⟩:=(Lib.mk_data y).symm;rw[<-this]
     .have hm:y.data.toList∈Lib.split s [b]:=dY R;have:=XX _ _ _ _ hm;exact gj this M
def E3(l:List aq)(a:aq):Option aq:=if l.length<=140737488355328/\(Lib.join l a).length<=140737488355328 then some (Lib.join l a) else none
theorem UO{P:Program}{G:fm}{f:Nat}{O:Func}(hP:P.funcs[f]?=some O)(B:(O.name == "runtime.NumGoroutine")=false)(hb:O.body.isSome=true)
  (Y:∀(a:Option Addr) (c:Nat) (sep:ByteArray) (w:World),Calls P f #[.slice a 0 c,.string sep] w λe w'=>e=.returned (.string ⟨#[]⟩)/\w'=w)
  (h:∀(T o c:Nat) (J:List ByteArray) (sep:ByteArray) (w:World),
  (∀(j:Nat) x,J[j]?=some x->w.cell? ⟨T,o+j,none⟩=some (.string x))->(T<w.heap.size)->(J.length<=140737488355328)->(J.length<=c) ->
  ((Lib.join (J.map (·.data.toList)) sep.data.toList).length<=140737488355328) ->
  Calls P f #[.slice (some ⟨T,o,none⟩) J.length c,.string sep] w λe w'=>e=.returned (.string ⟨(Lib.join (J.map (·.data.toList)) sep.data.toList).toArray⟩)/\Below w.heap.size w w') :
  Holds P G f ⟨.pair (.slice .str)<|.pair .str .unit,.pair .str .unit,λx=>(E3 x.1 x.2.1).map λy=>(y,())⟩ where
 body:=by
  obtain⟨K,U⟩:=Ik.1 hb;exact⟨O,K,hP,B,U⟩
 calls:=by
  intro I w q x y Z hG C D;obtain⟨l,sep,u⟩:=x;change List aq at l;change aq at sep;obtain⟨z,L,rfl⟩:=qY.1 D;change E3 l sep=some z at L;unfold E3 at L;split at L
  case isFalse=>cases L
  rename_i d;obtain⟨E,d⟩:=d;have V:(Lib.join l sep).length<=maxLen:=gj d (by decide);obtain rfl:=aI L;obtain⟨cs,rest,M,N,cs2,F,s,H,n⟩:=C;obtain rfl:F=[]:=n;obtain⟨rfl,hsm⟩:=H;have fin:∀{v:Value},cs=[v]->∀{w'},Below w.heap.size w w'->∀{e:Ending},e=.returned (.string ⟨(Lib.join l sep).toArray⟩) ->
    ∃v Q,e=.returned v/\Below w.heap.size w w'/\(∀b o,I b o->Q b o)/\(∀b o,Q b o->b<w'.heap.size)/\(∀b o,Q b o->¬I b o->w.heap.size<=b)/\lU w' Q (.pair .str .unit) (Lib.join l sep,()) v:=by
   intro v _ w' R e he;exact⟨_,I,he,R,λb o h=>h,λb o h=>B6 (Z b o h) R.size,λb o h1 h2=>absurd h1 h2,[.string ⟨(Lib.join l sep).toArray⟩],⟨rfl,V⟩,rfl⟩
  rcases N with ⟨⟨t,rfl⟩,hl⟩|⟨g,i,p,rfl,A,aal,W⟩
  .obtain rfl:l=[]:=hl;obtain rfl:q=#[.slice t 0 0,.string ⟨sep.toArray⟩]:=by
    apply B7.1;rw[M,s];rfl
   refine(Y t 0 ⟨sep.toArray⟩ w).mono ?_;rintro e w' ⟨rfl,rfl⟩;exact fin rfl (Below.refl _ _) rfl
  .change l.length<=p at A;obtain rfl:q=#[.slice (some ⟨g,i,none⟩) l.length p,.string ⟨sep.toArray⟩]:=by
    apply B7.1;rw[M,s];rfl
   cases l with
   | nil =>
     refine(Y (some ⟨g,i,none⟩) p ⟨sep.toArray⟩ w).mono ?_;rintro e w' ⟨rfl,rfl⟩;exact fin rfl (Below.refl _ _) rfl
   | cons a r =>
     have m:∀(j:Nat) x,(a::r)[j]?=some x->w.cell? ⟨g,i+j,none⟩=some (.string ⟨x.toArray⟩)/\I g (i+j):=by
      intro j x S;obtain⟨es,he,U,hr⟩:=W j x S;obtain⟨rfl,_⟩:=hr;have:=U 0 _ rfl;simpa [Ty.size] using this
     have X:g<w.heap.size:=Z _ _ (m 0 a rfl).2;have e1:((a::r).map λx:aq=>(⟨x.toArray⟩:ByteArray)).map (·.data.toList)=a::r:=by
      rw[M0];exact List.map_id'' (λx=>rfl) _
     have:=h g i p ((a::r).map λx=>⟨x.toArray⟩) ⟨sep.toArray⟩ w (λj x S=>by
      rw[wP] at S;obtain⟨y,hy,rfl⟩:=qY.1 S;exact(m j y hy).1) X (by rw[qI];exact E) (by rw[qI];exact A) (by rw[e1];exact d)
     rw[e1,qI] at this;refine this.mono ?_;rintro e w' ⟨rfl,R⟩;exact fin rfl R rfl
end Go.Ge
namespace Go.Ge
open RowKit
theorem Holds.weaken{P:Program}{G:fm}{f:Nat}{A R:Ty}{b a:A.den->Option R.den}(h:Holds P G f ⟨A,R,b⟩)(d:∀x y,a x=some y->b x=some y):Holds P G f ⟨A,R,a⟩ where
 body:=h.body
 calls:=λI w c x y e g i j=>h.calls I w c x y e g i (d x y j)
theorem eN.weaken{P:Program}{G:fm}{f:Nat}{e:List Bool}{A R:Ty}{U:OT}{b a:A.den×U.den->Option (R.den×U.den)}(h:eN P G f ⟨e,A,U,R,b⟩)(g:∀x y,a x=some y->b x=some y):eN P G f ⟨e,A,U,R,a⟩ where
 body:=h.body
 calls:=λI w c d i j x u y l m n o p q r=>h.calls I w c d i j x u y l m n o p q (g (x,u) y r)
end Go.Ge
namespace Go.Ge
open RowKit Go.Sort Go.Proofs
theorem kG.mk'{w w':World}{I:Nat->Nat->Prop}{X:Nat->Prop}(a:w'.os=w.os)(e:w'.tape=w.tape)(f:w'.output=w.output)(c:w.heap.size<=w'.heap.size)
  (g:∀k,k<w.heap.size->¬X k->w'.heap[k]?=w.heap[k]?) (i:∀b o,I b o->b<w.heap.size):kG w I X w' I where
 below:=⟨a,e,f,c,λk d=>g k (QL λq=>d (.inl q)) λq=>d (.inr q)⟩
 held:=λ_ _ h=>h
 tu:=λb o h=>B6 (i b o h) c
 pZ:=λb o h k=>absurd h k
theorem LV{a:Type}{L:List a}{i:Nat}{y:a}(h:L[i]?=some y):(L.drop i).take 1=[y]:=by
 obtain⟨b,c⟩:=fq.1 h;rw[wM b];simp[c]
theorem R5{w:World}{I:Nat->Nat->Prop}{l:List aq}{b:Nat}{a:Array Value}{e:TypeId}{m:Nat×Nat}(n:w.heap[b]?=some (.cells a e m))(f:lT a m)(o:l.length<=a.size)
  (g:∀(i:Nat) (x:aq),l[i]?=some x->bI w I .str x ((a.toList.drop<|i*(Ty.str).size).take (Ty.str).size)):Sort.Holds encStr w b 0 l.toArray:=by
 intro j p;have c:j<l.length:=by simpa using p
 obtain⟨q,s⟩:=g j l[j] (fN c);have r:a[j]?=some (Value.string ⟨(l[j]).toArray⟩):=by
  have:((a.toList.drop<|j*1).take 1)[0]?=some (Value.string ⟨(l[j]).toArray⟩):=by
   have h:(a.toList.drop<|j*1).take 1=_:=q;rw[h];rfl
  simpa [fi,mn] using this
 have d:l.toArray[j]! = l[j]:=by simp[c]
 refine⟨?_,?_⟩
 .rw[d];simp only[World.cell?,n,sr];exact r
 .have:=f j (by omega);simp only[World.frozen?,n,sr];simp only[not_and,Nat.not_lt] at this;simp;exact this
theorem Wx{w w':World}{I:Nat->Nat->Prop}(H:∀b o,I b o->b<w.heap.size){l l':List aq}{a f:Nat}{g:Array Value}{p:TypeId}{y:Nat×Nat}(F:w.heap[a]?=some (.cells g p y))(z:ThB .str g y)
  (h:g.size=f*(Ty.str).size) (q:∀o,¬I a o) {d:List aq} (R:d.length=l.length) (J:l.length<=f) (s:f<=maxLen) (A:l'.length<=l.length) (t:∀(i:Nat) (x:aq),l'[i]?=some x->d[i]?=some x/\List.length x<=maxLen) {n:Nat} {os:Array Obj}
  (u:w'=grow (putRow encStr (Sort.ahead w n) a 0 d.toArray) os) :
  kG w I (λk=>∃c,some (a,f)=some (k,c)) w' I/\vy w' I .str l' (some (a,f)) (.slice (some ⟨a,0,none⟩) l'.length f):=by
 have B:a<w.heap.size:=(vk.1 F).1;have ad9:w'.heap.size=w.heap.size+os.size:=by rw[u];simp
 have j:∀k,k<w.heap.size->w'.heap[k]?=if k=a then some (.cells (putCells encStr 0 d.toArray g) p y) else w.heap[k]?:=by
  intro k C;subst u;simp only[grow,putRow,mapBlock];rw[adS<|by simpa using C,QC];by_cases e:a=k
  .subst e;simp[F,onCells]
  .simp[e,F2 e]
 have m:=j a B;rw[aQ rfl] at m;have K:kG w I (λk=>∃c,some (a,f)=some (k,c)) w' I:=kG.mk' (by rw[u];rfl) (by rw[u];rfl) (by rw[u];rfl) (by omega) (λk C L=>by
  rw[j k C,aM λe=>L ⟨f,by rw[e]⟩]) H
 refine⟨K,.inr ⟨a,f,putCells encStr 0 d.toArray g,p,y,rfl,rfl,m,z.same (by simp[putCells]),gj A J,s,by simp[putCells,h],q,λi x G=>?_⟩⟩;obtain⟨v,M⟩:=t i x G;have N:i<l'.length:=(fq.1 G).1;have r:i<d.length:=by omega
 have D:i<g.size:=by rw[h];show i<f*1;omega
 have O:(putCells encStr 0 d.toArray g)[i]?=some (.string ⟨x.toArray⟩):=by
  have E:d[i]=x:=by rw[fN r] at v;exact aI v
  have Q:d.toArray[i]! = d[i]:=by simp[r]
  rw[show(putCells encStr 0 d.toArray g)[i]?=some (encStr d.toArray[i]!) from by simp[putCells,D,r],Q,E]
 have:((putCells encStr 0 d.toArray g).toList.drop<|i*(Ty.str).size).take (Ty.str).size=[.string ⟨x.toArray⟩]:=by
  show((putCells encStr 0 d.toArray g).toList.drop<|i*1).take 1=_
  rw[Bu];exact LV (by simpa using O)
 exact⟨this,M⟩
def mC(l:List aq):List aq:=l.mergeSort λx y=>decide (x<=y)
theorem XY:mC []=[]:=by simp[mC]
theorem Nx(l:List aq):(mC l).length=l.length:=by simp[mC]
theorem aaU{P:Program}{f:Nat}{u:Func}(T:P.funcs[f]?=some u)(U:(u.name == "runtime.NumGoroutine")=false)(A:u.body.isSome=true)
  (V:∀(blk off cap:Nat) (z:List aq) (w:World),Sort.Holds encStr w blk off z.toArray->blk<w.heap.size->z.length<4611686018427387904 ->
   Calls P f #[.slice (some ⟨blk,off,none⟩) z.length cap] w λe w'=>e=.returned (.tuple #[])/\∃n H,w'=grow (putRow encStr (Sort.ahead w n) blk off (z.mergeSort λx y=>decide (x<=y)).toArray) H)
  (W:∀(p:Option Addr) (cap:Nat) (w:World),Calls P f #[.slice p 0 cap] w λe w'=>e=.returned (.tuple #[])/\w'=w) :
  gk P f (.own .str .unit false λl _=>bif fits (len (α:=aq) l) then some (mC l) else none):=by
 obtain⟨o,A⟩:=Ik.1 A;refine⟨⟨u,o,T,U,A⟩,λI w q v r l B L x J h s m a=>?_⟩;change List aq at l;change List aq at B;obtain rfl:r=[]:=m;have c:q=#[v]:=by apply B7.1;rw[h]
 subst c;have b:fits (len l)=true/\B=mC l:=by
  change (bif fits (len l) then some (mC l) else none)=some B at a;cases K:fits (len l) with
  | true=>rw[K] at a;exact⟨rfl,(aI a).symm⟩
  | false=>rw[K] at a;cases a
 obtain⟨b,rfl⟩:=b;have hlen:=Dg b;rcases s with ⟨rfl,rfl,rfl⟩|⟨blk,cap,C,tid,fr,rfl,rfl,D,M,N,X,O,Y,Q⟩
 .refine(W none 0 w).mono λe w' t=>?_;obtain⟨rfl,rfl⟩:=t;exact⟨I,kG.mk' rfl rfl rfl (cg _) (λ_ _ _=>rfl) J,rfl,Nx [],.inl ⟨rfl,XY,rfl⟩⟩
 .have E:List.length (α:=aq) l<=cap:=N;have F:C.size=cap*1:=O;refine(V blk 0 cap l w (R5 D M.th (by rw[F,Bu];exact E) Q) (vk.1 D).1<|by omega).mono λe w' t=>?_;obtain⟨rfl,n,H,t⟩:=t;have g:(mC l).length=l.length:=by simp[mC]
  obtain⟨Z,R⟩:=Wx J D M O Y (l:=l) (l':=mC l) (d:=mC l) g N X (Bt g) (λi x S=>⟨S,by
   have hm:x∈mC l:=dY S;have G:x∈l:=by simpa [mC] using hm
   obtain⟨j,hj⟩:=MR.1 G;exact(Q j x hj).2⟩) t
  rw[g] at R;exact⟨I,Z,rfl,g,R⟩
theorem R6{P:Program}{f:Nat}{A:Func}(S:P.funcs[f]?=some A)(T:(A.name == "runtime.NumGoroutine")=false)(C:A.body.isSome=true)
  (U:∀(blk off cap:Nat) (zs:List aq) (w:World),Sort.Holds encStr w blk off zs.toArray->zs.length<=9223372036854775807->zs.length<=cap ->
   Calls P f #[.slice (some ⟨blk,off,none⟩) zs.length cap] w λe w'=>e=.returned (.slice (some ⟨blk,off,none⟩) (Lib.compact zs).length cap)/\∃q,w'=putRow encStr (Sort.ahead w q) blk off (Lib.compact zs++List.replicate (zs.length-(Lib.compact zs).length) []).toArray)
  (V:∀(a:Option Addr) (cap:Nat) (w:World),Calls P f #[.slice a 0 cap] w λe w'=>e=.returned (.slice a 0 cap)/\w'=w) (g:∀zs:List aq,(Lib.compact zs).length<=zs.length/\∀x∈Lib.compact zs,x∈zs) :
  gk P f (.own .str .unit true λl _=>some (Lib.compact (α:=aq) l)):=by
 obtain⟨s,C⟩:=Ik.1 C;refine⟨⟨A,s,S,T,C⟩,λI w t v u l J L x K o y p r=>?_⟩;change List aq at l;change List aq at J;obtain rfl:u=[]:=p;have m:t=#[v]:=by apply B7.1;rw[o]
 subst m;obtain rfl:Lib.compact l=J:=aI r;rcases y with ⟨rfl,rfl,rfl⟩|⟨blk,cap,D,tid,fr,rfl,rfl,M,N,B,O,Q,W,R⟩
 .refine(V none 0 w).mono λe w' z=>?_;obtain⟨rfl,rfl⟩:=z;have X:Lib.compact ([]:List aq)=[]:=wN.1 (Nat.le_zero.1 (g []).1);exact⟨I,kG.mk' rfl rfl rfl (cg _) (λ_ _ _=>rfl) K,_,none,rfl,.inl ⟨rfl,X,rfl⟩,λ_ _ h=>by cases h⟩
 .have E:List.length (α:=aq) l<=cap:=B;have F:D.size=cap*1:=Q;refine(U blk 0 cap l w (R5 M N.th (by rw[F,Bu];exact E) R) (gj B O) B).mono λe w' z=>?_;obtain⟨rfl,n,z⟩:=z;obtain⟨Y,Z⟩:=Wx K M N Q W (l:=l) (l':=Lib.compact l) (d:=Lib.compact l++List.replicate (l.length-(Lib.compact l).length) []) (by have:=(g l).1;simp;omega) B O (g l).1 (λi x G=>⟨by
    rw[Ol (fq.1 G).1];exact G,by
   have H:x∈l:=(g l).2 x (dY G);obtain⟨j,hj⟩:=MR.1 H;exact(R j x hj).2⟩) (n:=n) (os:=#[]) (w':=w') (by rw[z];simp)
  exact⟨I,Y,_,_,rfl,Z,λb c h=>.inl ⟨c,h⟩⟩
theorem UP(a:List aq):(Lib.compact a).length<=a.length/\∀x∈Lib.compact a,x∈a:=by
 constructor
 .unfold Lib.compact Lib.compactUpTo;rw[qI];exact gj (MS _ _) (by simp)
 .intro x b;unfold Lib.compact Lib.compactUpTo at b;rw[pQ] at b;obtain⟨j,d,rfl⟩:=b;have c:j<a.length:=B8.1 (we.1 d).1;simp[c]
end Go.Ge
namespace Go.Ge
variable [Lp]
open RowKit Go.Shelf Go.Lib Go.Proofs
theorem yb{P:Program}(w:World)(t y z c:TypeId)(b o d h:Nat)(a:Addr)(e l k:Nat)(g:List Value){f:Array Value}{u:TypeId}{p:Nat×Nat}
  (A:P.underlying t=some (.slice c)) (x:(P.info? c).map (·.size)=some k) (B:g.length=Nat.min e d*k)
  (m:∀j v,g[j]?=some v->w.cell? (a.add j)=some v) (C:w.heap[b]?=some (.cells f u p)) (q:lT f p) (r:o+g.length<=f.size) (D:∀v∈g,v.oneCell'=true) :
  (Builtin.copy_ #[t,y] z #[.slice (some ⟨b,o,none⟩) d h,.slice (some a) e l]).run P w=.ok (goInt<|Nat.min e d) (w.setRow b (aU f.toList o g).toArray):=by
 have E:=run_loadCells_list (P:=P) w a g m;have n:=cM (P:=P) b o u p g 0 f w C q (by simpa using r) D;rw[wS] at n;cases s:P.info? c with
 | none=>simp[s] at x
 | some i =>
   have hi:i.size=k:=by simpa [s] using x
   simp[Builtin.copy_,run_underlying A,Builtin.lenOf,Builtin.firstCells,sizeOf,typeInfo,s,hi,<-B,E,n]
structure R7 (P:Program) (ρ:Ren) (nm:String) (k:Nat):Prop where
 mixed:P.follows .mixedOrders=true
 f22:P.funcs[ρ.f 22]?=some { Body2.n22 ρ with name:=nm }
 ov:∀(xs:Array Value) (w:World),(callFunc (ρ.f 29) xs).run P w=((Extern.SlicesOverlaps.overlaps #[(ρ.t 24),(ρ.t 24)] #[(ρ.t 4)] xs).run P w).andThen λv w'=>.ok (.value v) w'
 t3:P.underlying (ρ.t 3)=some (TypeDesc.int i64)
 t4:P.underlying (ρ.t 4)=some TypeDesc.bool
 t24:P.underlying (ρ.t 24)=some (TypeDesc.slice<|ρ.t 9)
 z9:∀w,(Go.sizeOf<|ρ.t 9).run P w=.ok k w
 i9:(P.info?<|ρ.t 9).map (·.size)=some k
variable {P:Program} {ρ:Ren} {nm:String} {k:Nat}
set_option maxHeartbeats 4000000 in
set_option maxRecDepth 100000 in
theorem XZ(L:R7 P ρ nm k)(b n c i h g m E:Nat)(_cs y:List Value)(w:World){d:Array Value}{S:TypeId}{F:Nat×Nat}(hi:i<n)(hm:0<m)(T:n+m<=c)(akB:c<=9223372036854775807)(U:h≠b)
  (hg:w.heap[b]?=some (.cells d S F)) (G:lT d F) (z:d.size=c*k) (V:∀v∈(d.toList.take<|n*k),v.oneCell'=true)
  (H:y.length=m*k) (W:∀j v,y[j]?=some v->w.cell? ⟨h,g+j,none⟩=some v) (X:∀v∈y,v.oneCell'=true)
  (I:∀J K,(Extern.SlicesOverlaps.overlaps #[(ρ.t 24),(ρ.t 24)] #[(ρ.t 4)] #[.slice (some ⟨h,g,none⟩) m E,.slice (some ⟨b,(i+m)*k,none⟩) J K]).run P w=.ok (.bool false) w) :
  Calls P (ρ.f 22) #[.slice (some ⟨b,0,none⟩) n c,.int .i64 i,.slice (some ⟨h,g,none⟩) m E] w λe w' =>
   e=.returned (.slice (some ⟨b,0,none⟩) (n+m) c) /\
   w'=(w.drew.setRow b (aU d.toList ((i+m)*k)<|(d.toList.take<|n*k).drop<|i*k).toArray).setRow b (aU (aU d.toList ((i+m)*k)<|(d.toList.take<|n*k).drop<|i*k) (i*k) y).toArray:=by
 have t3:=L.t3;have t4:=L.t4;have t24:=L.t24;have z9:=L.z9;have u3:=run_underlying L.t3;have u4:=run_underlying L.t4;have u24:=run_underlying L.t24;have mixed:=L.mixed;have hz1:¬((m:Int)=0):=by omega
 have hz2:¬((i:Int)=(n:Int)):=by omega
 have M:∀J K,(callFunc (ρ.f 29) #[.slice (some ⟨h,g,none⟩) m E,.slice (some ⟨b,(i+m)*k,none⟩) J K]).run P w=.ok (.value<|.bool false) w:=λJ K=>by
  rw[L.ov,I J K];rfl
 have hw1:IntKind.i64.wrap ((i:Int)+(m:Int))=(i:Int)+(m:Int):=by rw[IntKind.wrap_i64];omega
 have hb1:(0:Int)<=(i:Int)+(m:Int):=by omega
 have OM:i<=n:=by omega
 have htn:((i:Int)+(m:Int)).toNat=i+m:=by omega
 have hb2:¬(c=i+m):=by omega
 have hb3:(i:Int)<=(n:Int)+(m:Int):=by omega
 have hb4:¬(c=i):=by omega
 have l:d.toList.length=c*k:=by simpa using z
 have Y:n*k<=c*k:=fO _ (by omega);have Z:i*k<=n*k:=fO _ (by omega);have o:(i+m)*k+(n-i)*k<=c*k:=by
  rw[<-gx];exact fO _ (by omega)
 have q:((d.toList.take<|n*k).drop<|i*k).length=(n-i)*k:=by
  rw[kx,fB,pb (by omega),QY]
 have r:(aU d.toList ((i+m)*k)<|(d.toList.take<|n*k).drop<|i*k).length=c*k:=by rw[bM<|by rw[q,l];exact o];exact l
 have s:w.drew.heap[b]?=some (.cells d S F):=hg;have p:∀A B sc,(Builtin.copy_ #[(ρ.t 24),(ρ.t 24)] A #[.slice (some ⟨b,(i+m)*k,none⟩) (n+m-(i+m)) B,.slice (some ⟨b,i*k,none⟩) (n+m-i) sc]).run P w.drew =
   .ok (goInt<|Nat.min (n+m-i)<|n+m-(i+m)) (w.drew.setRow b (aU d.toList ((i+m)*k)<|(d.toList.take<|n*k).drop<|i*k).toArray):=λA B sc =>
  yb w.drew _ _ A (ρ.t 9) b ((i+m)*k) (n+m-(i+m)) B ⟨b,i*k,none⟩ (n+m-i) sc k ((d.toList.take<|n*k).drop<|i*k) L.t24 L.i9 (by
    rw[q];congr 1;show n-i=min (n+m-i) (n+m-(i+m));omega)
   (λj v x=>by
    rw[Addr.add_lit,cell_of_heap s];rw[mn,fi] at x;split at x
    .simpa using x
    .cases x) s G (by rw[q,z];exact o) (λv hv=>V v (FU hv))
 obtain⟨D,N⟩:∃D,D=aU d.toList ((i+m)*k) ((d.toList.take<|n*k).drop<|i*k):=⟨_,rfl⟩;rw[<-N] at p r⊢;obtain⟨C,u⟩:∃C,C=w.drew.setRow b D.toArray:=⟨_,rfl⟩;have O:C.heap[b]?=some (.cells D.toArray S F):=by rw[u];exact setRow_heap w.drew b d _ S F s
 have Q:∀j v,y[j]?=some v->C.cell? ⟨h,g+j,none⟩=some v:=λj v x=>by
  rw[u];have h0:(w.drew.setRow b D.toArray).heap[h]?=w.drew.heap[h]?:=setRow_other w.drew b h _ (λe=>U e);rw[di (a:=⟨h,g+j,none⟩) h0];exact W j v x
 have R:∀A B,(Builtin.copy_ #[(ρ.t 24),(ρ.t 24)] A #[.slice (some ⟨b,i*k,none⟩) (n+m-i) B,.slice (some ⟨h,g,none⟩) m E]).run P C=.ok (goInt<|Nat.min m<|n+m-i) (C.setRow b (aU D (i*k) y).toArray):=λA B=>by
  have:=yb (P:=P) C (ρ.t 24) (ρ.t 24) A (ρ.t 9) b (i*k) (n+m-i) B ⟨h,g,none⟩ m E k y L.t24 L.i9 (by rw[H];congr 1;show m=min m (n+m-i);omega)
   (λj v x=>by rw[Addr.add_lit];exact Q j v x) O (G.same<|by rw[GW,r,z]) (by rw[H,GW,r,<-gx];exact fO _ (by omega)) X
  simpa using this
 rw[<-u] at p⊢;clear N u O Q s r q o Z Y l I
 go_enter L.f22,Body2.n22_ntmps ρ
 go_wp2_with (simp only[M])
 go_region_law_o (refine step_copy_runI rfl _ _ (ρ.t 24) (ρ.t 24) rfl _ _ (by simp[Act.eval,Act.put]) (by simp[Act.eval,Act.put]) (p _ _ _) ?_)
 go_wp2_with (at_builtin;refine wpList_copy_runI _ rfl _ _ (ρ.t 24) (ρ.t 24) rfl _ _ rfl rfl (R _ _) ?_)
 go_ret
 exact⟨rfl,rfl⟩
set_option maxHeartbeats 4000000 in
set_option maxRecDepth 100000 in
theorem Gu(L:R7 P ρ nm k)(a b:Option Addr)(n c i d:Nat)(w:World)(j:i<=n)(_hnc:n<=c) :
  Calls P (ρ.f 22) #[.slice a n c,.int .i64 i,.slice b 0 d] w λe w'=>e=.returned (.slice a n c)/\w'=w:=by
 have t3:=L.t3;have t4:=L.t4;have t24:=L.t24;have z9:=L.z9;have l:=run_underlying L.t3;have m:=run_underlying L.t4;have g:=run_underlying L.t24;have mixed:=L.mixed;have h:(i:Int)<=(n:Int):=by omega
 go_enter L.f22,Body2.n22_ntmps ρ
 go_wp2
 all_goals (go_ret;exact⟨rfl,rfl⟩)
set_option maxHeartbeats 4000000 in
set_option maxRecDepth 100000 in
theorem Pl(L:R7 P ρ nm k)(b:Option Addr)(n c m g:Nat)(a:Option Addr)(w h:World)(i:Value)(p:0<m)(_hnc:n<=c)
  (d:(Builtin.append_ #[(ρ.t 24),(ρ.t 24)] (ρ.t 24) #[.slice b n c,.slice a m g]).run P w=.ok i h) :
  Calls P (ρ.f 22) #[.slice b n c,.int .i64 n,.slice a m g] w λe w'=>e=.returned i/\w'=h:=by
 have t3:=L.t3;have t4:=L.t4;have t24:=L.t24;have z9:=L.z9;have q:=run_underlying L.t3;have r:=run_underlying L.t4;have j:=run_underlying L.t24;have mixed:=L.mixed;have l:¬((m:Int)=0):=by omega
 have o:¬(m=0):=by omega
 go_enter L.f22,Body2.n22_ntmps ρ
 go_wp2_with (at_builtin;refine Lib.wpList_append_run _ rfl _ _ _ _ rfl _ _ rfl rfl _ _ d ?_)
 all_goals (go_ret;exact⟨rfl,rfl⟩)
set_option maxHeartbeats 4000000 in
set_option maxRecDepth 100000 in
theorem aaV(L:R7 P ρ nm k)(b n c i K l m vc:Nat)(_cs r:List Value)(w:World){d:Array Value}{tt:TypeId}{fr:Nat×Nat}{D:TypeInfo}{B:Value}(hie:P.info? (ρ.t 9)=some D)(W:D.size=k)(hze:D.zero=some B)(hzc:B.cells.size=k)(hk0:0<k)(hby:D.bytes<=32768)
  (hi:i<n) (hm:0<m) (_hnc:n<=c) (M:c<n+m) (X:n+m<=4294967296)
  (hg:w.heap[b]?=some (.cells d tt fr)) (TZ:d.size=c*k) (h1c:∀v∈(d.toList.take<|n*k),v.oneCell'=true)
  (O:r.length=m*k) (hvs:∀j v,r[j]?=some v->w.cell? ⟨K,l+j,none⟩=some v) (hvb:K<w.heap.size) (h1v:∀v∈r,v.oneCell'=true) :
  Calls P (ρ.f 22) #[.slice (some ⟨b,0,none⟩) n c,.int .i64 i,.slice (some ⟨K,l,none⟩) m vc] w λe w' =>
   ∃(G:Nat) (Z:List Value),n+m<=G/\G<=maxLen/\(d.toList.take (i*k)++Z).length=G*k/\e=.returned (.slice (some ⟨w.heap.size,0,none⟩) (n+m) G) /\
   w'=(((w.drew.alloc<|.cells (d.toList.take (i*k)++Z).toArray<|ρ.t 9).setRow w.heap.size (aU (d.toList.take (i*k)++Z) (i*k) r).toArray).drew).setRow w.heap.size (aU (aU (d.toList.take (i*k)++Z) (i*k) r) ((i+m)*k)<|(d.toList.take<|n*k).drop<|i*k).toArray:=by
 have t3:=L.t3;have t4:=L.t4;have t24:=L.t24;have z9:=L.z9;have u3:=run_underlying L.t3;have u4:=run_underlying L.t4;have u24:=run_underlying L.t24;have mixed:=L.mixed;have hz1:¬((m:Int)=0):=by omega
 have hz2:¬((i:Int)=(n:Int)):=by omega
 have hz3:(c:Int)<(n:Int)+(m:Int):=by omega
 have Y:d.toList.length=c*k:=by simpa using TZ
 have hnk:n*k<=c*k:=fO _ (by omega);have hik:i*k<=n*k:=fO _ (by omega);have hkk:(n:Int)+(m:Int)-(i:Int)=((n+m-i:Nat):Int):=by omega
 have Q:i+(n+m-i)=n+m:=by omega
 have hbw:b<w.heap.size:=(vk.1 hg).1;have hold:(Builtin.firstCells D.size i<|.slice (some ⟨b,0,none⟩) i c).run P w.drew=.ok (d.toList.take<|i*k).toArray w.drew:=by
  rw[W];exact run_firstCells_some w.drew k i ⟨b,0,none⟩ i c (d.toList.take<|i*k) (by rw[fB,pb (by omega)]) (λj v u=>by
   rw[Addr.add_lit];show w.cell? ⟨b,0+j,none⟩=some v
   rw[cell_of_heap hg];rw[fi] at u;split at u
   .simpa using u
   .cases u)
 have hbn:(n+m)*D.bytes<=140737488355328:=gj (Nat.mul_le_mul X hby) (by decide);have s:∀x,(Builtin.append_ #[(ρ.t 24),(ρ.t 3)] x #[.slice (some ⟨b,0,none⟩) i c,.int .i64 ((n:Int)+(m:Int)-(i:Int))]).run P w =
   .ok (.slice (some ⟨w.heap.size,0,none⟩) (n+m)<|grownCap w (n+m) c<|ρ.t 9) (w.drew.alloc<|.cells ((d.toList.take<|i*k).toArray++Builtin.zeroCells B.cells (n+m-i)++Builtin.zeroCells B.cells (grownCap w (n+m) c (ρ.t 9)-(n+m)))<|ρ.t 9):=λx=>by
  have h:=Lib.run_append_grow_zeros (P:=P) w (ρ.t 24) (ρ.t 3) x (ρ.t 9) D B .i64 .i64 L.t24 L.t3 hie hze (some ⟨b,0,none⟩) i c (d.toList.take<|i*k) hold (n+m-i) (by omega) (by omega) (by omega) (by omega) (by
   have:(n+m-i)*D.bytes<=(n+m)*D.bytes:=fO _ (by omega);omega) (by rw[Q];exact growslice_fits M hbn)
  rw[Q] at h;rw[hkk];exact h
 have E:=grownCap_ge w (n+m) c (ρ.t 9);have F:=grownCap_le_maxLen w (n+m) c (ρ.t 9) (by have:=Ch;omega);obtain⟨G,hG⟩:∃G,G=grownCap w (n+m) c (ρ.t 9):=⟨_,rfl⟩;rw[<-hG] at s E F;obtain⟨Z,hZ⟩:∃Z:List Value,Z=(Builtin.zeroCells B.cells<|n+m-i).toList++(Builtin.zeroCells B.cells<|G-(n+m)).toList:=⟨_,rfl⟩;have I:(d.toList.take<|i*k).toArray++Builtin.zeroCells B.cells (n+m-i)++Builtin.zeroCells B.cells (G-(n+m))=(d.toList.take (i*k)++Z).toArray:=by
  rw[hZ];apply B7.1;simp
 rw[I] at s;have R:∀q,(Builtin.zeroCells B.cells q).size=q*k:=λq=>by simp[Builtin.zeroCells,hzc]
 have hZl:Z.length=(n+m-i)*k+(G-(n+m))*k:=by
  rw[hZ,fQ,Ip,Ip,R,R]
 obtain⟨g,o⟩:∃g,g=d.toList.take (i*k)++Z:=⟨_,rfl⟩;have y:g.length=G*k:=by
  rw[o,fQ,fB,pb (by omega),hZl,<-xP,<-gx,<-gx]
  congr 1;omega
 rw[<-o] at s;have hGk:(n+m)*k<=G*k:=fO _ E;have aeD:i*k+m*k<=(n+m)*k:=by rw[<-gx];exact fO _ (by omega)
 have S:(i+m)*k+(n-i)*k<=(n+m)*k:=by rw[<-gx];exact fO _ (by omega)
 have T:((d.toList.take<|n*k).drop<|i*k).length=(n-i)*k:=by
  rw[kx,fB,pb (by omega),QY]
 have hs2:(aU g (i*k) r).length=G*k:=by rw[bM<|by rw[O,y];omega];exact y
 obtain⟨N,hN⟩:∃N,N=w.heap.size:=⟨_,rfl⟩;rw[<-hN] at s;obtain⟨C,z⟩:∃C,C=w.drew.alloc (.cells g.toArray<|ρ.t 9):=⟨_,rfl⟩;have U:C.heap[N]?=some (.cells g.toArray (ρ.t 9) (0,0)):=by rw[z,hN];exact heap_alloc_new w.drew _
 have p:∀q,q<w.heap.size->C.heap[q]?=w.heap[q]?:=λq hq=>by rw[z];exact cK w.drew _ q hq
 have J:∀x V,(Builtin.copy_ #[(ρ.t 24),(ρ.t 24)] x #[.slice (some ⟨N,i*k,none⟩) (n+m-i) V,.slice (some ⟨K,l,none⟩) m vc]).run P C=.ok (goInt<|Nat.min m<|n+m-i) (C.setRow N (aU g (i*k) r).toArray):=λx V=>by
  have:=yb (P:=P) C (ρ.t 24) (ρ.t 24) x (ρ.t 9) N (i*k) (n+m-i) V ⟨K,l,none⟩ m vc k r L.t24 L.i9 (by rw[O];congr 1;show m=min m (n+m-i);omega)
   (λj v u=>by rw[Addr.add_lit,di (a:=⟨K,l+j,none⟩) (p K hvb)];exact hvs j v u) U (sw _) (by rw[O,GW,y];omega) h1v
  simpa using this
 obtain⟨H,A⟩:∃H,H=C.setRow N (aU g (i*k) r).toArray:=⟨_,rfl⟩;have hg2:H.drew.heap[N]?=some (.cells (aU g (i*k) r).toArray (ρ.t 9) (0,0)):=by rw[A];exact setRow_heap C N g.toArray _ _ _ U
 have hgb:H.drew.heap[b]?=some (.cells d tt fr):=by
  show H.heap[b]?=_
  rw[A,setRow_other C N b _ (by omega),p b hbw];exact hg
 have ah9:∀x V sc,(Builtin.copy_ #[(ρ.t 24),(ρ.t 24)] x #[.slice (some ⟨N,(i+m)*k,none⟩) (n+m-(i+m)) V,.slice (some ⟨b,i*k,none⟩) (n-i) sc]).run P H.drew =
   .ok (goInt<|Nat.min (n-i)<|n+m-(i+m)) (H.drew.setRow N (aU (aU g (i*k) r) ((i+m)*k)<|(d.toList.take<|n*k).drop<|i*k).toArray):=λx V sc=>by
  have:=yb (P:=P) H.drew (ρ.t 24) (ρ.t 24) x (ρ.t 9) N ((i+m)*k) (n+m-(i+m)) V ⟨b,i*k,none⟩ (n-i) sc k ((d.toList.take<|n*k).drop<|i*k) L.t24 L.i9 (by
    rw[T];congr 1;show n-i=min (n-i) (n+m-(i+m));omega)
   (λj v u=>by
    rw[Addr.add_lit,cell_of_heap hgb];rw[mn,fi] at u;split at u
    .simpa using u
    .cases u) hg2 (sw _) (by rw[T,GW,hs2];omega) (λv hv=>h1c v (FU hv))
  simpa using this
 have akP:G<=9223372036854775807:=by have:=F;unfold maxLen at this;omega
 have hGi:¬(G=i):=by omega
 have akQ:¬(G=i+m):=by omega
 have hci:¬(c=i):=by omega
 have hw1:IntKind.i64.wrap ((i:Int)+(m:Int))=(i:Int)+(m:Int):=by rw[IntKind.wrap_i64];omega
 have hb1:(0:Int)<=(i:Int)+(m:Int):=by omega
 have OM:i<=n:=by omega
 have htn:((i:Int)+(m:Int)).toNat=i+m:=by omega
 have hb3:(i:Int)<=(n:Int):=by omega
 have fin:∀(e:Ending) (w':World),(e=.returned (.slice (some ⟨N,0,none⟩) (n+m) G)/\w'=H.drew.setRow N (aU (aU g (i*k) r) ((i+m)*k)<|(d.toList.take<|n*k).drop<|i*k).toArray) ->
   ∃(G:Nat) (Z:List Value),n+m<=G/\G<=maxLen/\(d.toList.take (i*k)++Z).length=G*k/\e=.returned (.slice (some ⟨w.heap.size,0,none⟩) (n+m) G) /\
   w'=(((w.drew.alloc<|.cells (d.toList.take (i*k)++Z).toArray<|ρ.t 9).setRow w.heap.size (aU (d.toList.take (i*k)++Z) (i*k) r).toArray).drew).setRow w.heap.size (aU (aU (d.toList.take (i*k)++Z) (i*k) r) ((i+m)*k)<|(d.toList.take<|n*k).drop<|i*k).toArray:=by
  rintro e w' ⟨rfl,rfl⟩;refine⟨G,Z,E,F,by rw[<-o];exact y,by rw[hN],?_⟩;rw[<-o,<-hN,A,z]
 refine Calls.mono ?_ fin;rw[<-z] at s;rw[<-A] at J;clear U p hg2 hgb z A hs2 T aeD S hGk y o hZl R I hZ hG E F hbn hold hkk Q hik hnk Y fin hN hbw
 go_enter L.f22,Body2.n22_ntmps ρ
 go_wp2_with (first
  | (at_builtin;refine Lib.wpList_append_run _ rfl _ _ _ _ rfl _ _ rfl rfl _ _ (s _) ?_)
  | (at_builtin;refine wpList_copy_runI _ rfl _ _ (ρ.t 24) (ρ.t 24) rfl _ _ rfl rfl (J _ _) ?_))
 go_region_law_o (refine step_copy_runI rfl _ _ (ρ.t 24) (ρ.t 24) rfl _ _ (by simp[Act.eval,Act.put]) (by simp[Act.eval,Act.put]) (ah9 _ _ _) ?_)
 go_wp2
 go_ret
 exact⟨rfl,rfl⟩
end Go.Ge
namespace Go.Ge
variable [Lp]
open RowKit Go.Shelf Go.Lib Go.Proofs
theorem cw{a b:List Value}{o:Nat}(h:o+b.length<=a.length)(j:Nat):(aU a o b)[j]?=if j<o then a[j]? else if j<o+b.length then b[j-o]? else a[j]?:=by
 unfold aU;rw[kR,On];have e:(a.take o).length=o:=by rw[fB];omega
 rw[e];by_cases c:j<o
 .rw[aQ c,aQ c,fi,aQ c]
 .rw[aM c,aM c,On];by_cases d:j<o+b.length
  .rw[aQ<|by omega,aQ d]
  .rw[aM<|by omega,aM d,mn]
   congr 1;omega
theorem xo{L L':List Value}{p p' s:Nat}(h:∀j,j<s->L[p+j]?=L'[p'+j]?):(L.drop p).take s=(L'.drop p').take s:=by
 apply Bq;intro j;rw[fi,fi];by_cases a:j<s
 .rw[aQ a,aQ a,mn,mn];exact h j a
 .rw[aM a,aM a]
theorem Ny{w:World}{I:Nat->Nat->Prop}{e:Ty}{l f:List e.den}{cur vs F:List Value}{i n m:Nat}(g:l.length=n)(h:f.length=m)(C:i<=n)(z:∀(q:Nat) (x:e.den),l[q]?=some x->bI w I e x ((cur.drop<|q*e.size).take e.size))(B:eO w I e f vs)
  (o:∀j,j<i*e.size->F[j]?=cur[j]?) (p:∀j,j<m*e.size->F[i*e.size+j]?=vs[j]?) (s:∀j,j<(n-i)*e.size->F[(i+m)*e.size+j]?=cur[i*e.size+j]?) :
  ∀(q:Nat) (x:e.den),(l.take i++f++l.drop i)[q]?=some x->bI w I e x ((F.drop<|q*e.size).take e.size):=by
 intro q x c;have t:(l.take i).length=i:=by rw[fB];omega
 have step:∀{a b:Nat},a<b->∀j,j<e.size->a*e.size+j<b*e.size:=λ{a b} v j d=>by
  have:(a+1)*e.size<=b*e.size:=fO _ v;rw[gx,Nat.one_mul] at this;omega
 rw[kR,On,t] at c;split at c
 .rename_i y;rw[fi,aQ y] at c;rw[xo (L':=cur) (p':=q*e.size) λj d=>o _ (step y j d)];exact z q x c
 .rename_i y;obtain⟨r,rfl⟩:∃r,q=i+r:=⟨q-i,by omega⟩;rw[show i+r-i=r by omega,On,h] at c;split at c
  .rename_i A;rw[xo (L':=vs) (p':=r*e.size) λj d=>by
    rw[gx,xP];exact p _ (step A j d)]
   exact B r x c
  .rename_i A;obtain⟨u,rfl⟩:∃u,r=m+u:=⟨r-m,by omega⟩;rw[show m+u-m=u by omega,mn] at c;have D:i+u<n:=by rw[<-g];exact(fq.1 c).1
   rw[xo (L':=cur) (p':=(i+u)*e.size) λj d=>by
    have:=s (u*e.size+j) (step (show u<n-i by omega) j d);rw[show(i+(m+u))*e.size+j=(i+m)*e.size+(u*e.size+j) by rw[<-xP i m u,gx (i+m) u,xP],this]
    congr 1;rw[gx];omega]
   exact z (i+u) x c
theorem Hi{P:Program}(w:World)(d z e:TypeId)(u:P.underlying d=some (.slice e))(c:Nat)(v:∀w,(Go.sizeOf e).run P w=.ok c w)
  (a b:Addr) (j A l B:Nat) (f:a.block≠b.block) (C D:TypeId) (g x:Nat)
  (m:w.shape? a.block=some (C,g)) (n:w.shape? b.block=some (D,x)) (o:g≠0)
  (p:w.frozen? b=false) (q:w.frozen? { block:=b.block,off:=x }=false) :
  (Extern.SlicesOverlaps.overlaps #[d,d] #[z] #[.slice (some a) j A,.slice (some b) l B]).run P w=.ok (.bool false) w:=by
 have r:(a.block != b.block)=true:=by simpa using f
 have h:(a.block==b.block)=false:=by simpa using f
 change Sem.run P (α:=Value) (do
  let some t:=(#[d,d]:Array TypeId)[0]?|stuck "slices.overlaps: no parameter types"
  let .slice elem <-underlying t|stuck "slices.overlaps: slice type expected"
  let c <-sizeOf elem
  match(some a:Option Addr),(some b:Option Addr) with
  | some a,some b =>
    if j=0\/l=0\/c=0 then pure (Value.bool false)
    else if a.block != b.block&&(<-frozen a)&&(<-frozen b) then unsupported .addressObserved
    else do
     if a.block != b.block then do
      noView a;noView b
      if <-mayBeOne a b then return Value.bool ((<-choose (.extern "sameAddr.stringBytes" 2))==1)
     pure (Value.bool<|a.block==b.block&&a.off<b.off+l*c&&b.off<a.off+j*c)
  | _,_=>pure (Value.bool false)) w=_
 by_cases y:j=0\/l=0\/c=0
 .simp[run_underlying u,v,y]
 .cases g with
  | zero=>exact absurd rfl o
  | succ g =>
    cases s:w.frozen? a<;>cases i:w.frozen? { block:=a.block,off:=g+1 } <;>
     simp[run_underlying u,v,y,r,h,frozen,noView,viewAt,mayBeOne,stringish,shape,Sem.run,m,n,s,i,p,q]
def E4{α:Type}(l:List α)(i:Int)(m:List α):Option (List α):=bif inside 0 i (len l)&&fits (plus (len l)<|len m) then some (l.take i.toNat++m++l.drop i.toNat) else none
variable {P:Program} {ρ:Ren} {nm:String}
theorem Nz{w:World}{b o:Nat}{cur:Array Value}{c:TypeId}{a:Nat×Nat}(d:w.heap[b]?=some (.cells cur c a))(h:¬(a.1<=o/\o<a.2)):w.frozen? ⟨b,o,none⟩=false:=by
 obtain⟨e,f⟩:=a;simp only[World.frozen?,d];simp only[not_and,Nat.not_lt] at h;simp;exact h
theorem DA{e:Ty}(L:R7 P ρ nm e.size)(hnm:(nm == "runtime.NumGoroutine")=false)(he:Den P e (ρ.t 9))(hby:EI P (ρ.t 9)=true)(U:0<e.size)(hint:e.isInt=false) :
  gk P (ρ.f 22) (.own e (.pair (.int .i64)<|.pair (.slice e) .unit) true λl x=>E4 (α:=e.den) l x.1 x.2.1):=by
 refine⟨⟨_,_,L.f22,hnm,rfl⟩,λI w args v rest l l' L0 x hI af1 E aau s=>?_⟩;obtain⟨xi,g,xu⟩:=x;change Int at xi;change List e.den at g;obtain⟨cs1,r1,rfl,V,cs2,r2,rfl,hc2,rfl⟩:=aau;obtain⟨V,afL,aal⟩:=V;subst V;change E4 (α:=e.den) l xi g=some l' at s;have hsp:(inside 0 xi (len l)&&fits (plus (len l)<|len g))=true/\l'=l.take xi.toNat++g++l.drop xi.toNat:=by
  unfold E4 at s;cases O:(inside 0 xi (len l)&&fits (plus (len l)<|len g)) with
  | true=>rw[O] at s;exact⟨rfl,(aI s).symm⟩
  | false=>rw[O] at s;cases s
 obtain⟨K,rfl⟩:=hsp;simp only[dv] at K;obtain⟨_,hx0,hxl⟩:=iX K.1;have W:l.length+g.length<=4294967296:=by
  have:fits (((l.length+g.length:Nat)):Int)=true:=by rw[<-K.2];simp[plus,len]
  exact Dg this
 obtain⟨i,rfl⟩:∃i:Nat,xi=i:=⟨xi.toNat,by omega⟩;have hil:i<=l.length:=by simp only[len] at hxl;omega
 rw[qZ];obtain⟨v2,rfl⟩:∃v2,cs2=[v2]:=by
  rcases hc2 with ⟨⟨y,q⟩,_⟩|⟨_,_,_,q,_⟩<;>exact⟨_,q⟩
 have aeE:args=#[v,.int .i64 i,v2]:=by apply B7.1;rw[af1];rfl
 subst aeE;obtain⟨ie,ze,e1,e2,e3,e4⟩:=he.info;have hbs:=zA hby e1;have hzc:ze.cells.size=e.size:=by rw[<-dO e,<-e4];simp
 have Q:∀{w':World},w'=w->∃T,kG w I (λk=>∃c,L0=some (k,c)) w' T/\T=I:=λ{w'} M=>⟨I,by subst M;exact kG.mk' rfl rfl rfl (cg _) (λ_ _ _=>rfl) hI,rfl⟩;rcases hc2 with ⟨⟨X,q2⟩,H⟩|⟨S,r,vc,q2,hvc,hvm,hvx⟩
 ·
  obtain rfl:v2=.slice X 0 0:=by simpa using q2
  have H:g=[]:=H;subst H;have B:l.take i++([]:List e.den)++l.drop i=l:=by simp
  obtain⟨y,n,c,hv,hnl,hnc⟩:∃y n c,v=.slice y n c/\n=l.length/\n<=c:=by
   rcases E with ⟨_,rfl,rfl⟩|⟨blk,a,cur,tid,fr,_,rfl,_,_,q5,_⟩
   .exact⟨none,0,0,rfl,rfl,cg _⟩
   .exact⟨_,_,_,rfl,rfl,q5⟩
  subst hv;refine(Gu L y X n c i 0 w (by omega) hnc).mono λq w' M=>?_;obtain⟨rfl,rfl⟩:=M;obtain⟨T,hI',rfl⟩:=Q rfl;refine⟨T,hI',_,L0,rfl,?_,λblk c h=>.inl ⟨c,h⟩⟩;rw[B];exact E
 .have hvx:∀(i:Nat) (x:e.den),g[i]?=some x->_:=hvx;obtain rfl:v2=.slice (some ⟨S,r,none⟩) g.length vc:=by simpa using q2
  obtain⟨p,n1,n2,n3,n4⟩:=Cf (w:=w) (I:=I) (l:=g) (blk:=S) (off:=r) λi x hx=>by
   obtain⟨es,a1,a2,a3⟩:=hvx i x hx;exact⟨es,a1,λj c z=>(a2 j c z).1,a3⟩
  have Y:eO w I e g p:=n4;rcases QG g.length with C|C
  ·
   have H:g=[]:=wN.1 C;subst H;have B:l.take i++([]:List e.den)++l.drop i=l:=by simp
   obtain⟨y,n,c,hv,hnl,hnc⟩:∃y n c,v=.slice y n c/\n=l.length/\n<=c:=by
    rcases E with ⟨_,rfl,rfl⟩|⟨blk,a,cur,tid,fr,_,rfl,_,_,q5,_⟩
    .exact⟨none,0,0,rfl,rfl,cg _⟩
    .exact⟨_,_,_,rfl,rfl,q5⟩
   subst hv;refine(Gu L y (some ⟨S,r,none⟩) n c i vc w (by omega) hnc).mono λq w' M=>?_;obtain⟨rfl,rfl⟩:=M;obtain⟨T,hI',rfl⟩:=Q rfl;refine⟨T,hI',_,L0,rfl,?_,λblk c h=>.inl ⟨c,h⟩⟩;rw[B];exact E
  ·
   have hvI:I S r/\S<w.heap.size/\∃A tA frA,w.heap[S]?=some (.cells A tA frA)/\A.size≠0:=by
    obtain⟨x0,aif⟩:∃x0,g[0]?=some x0:=⟨_,fN C⟩;obtain⟨es,a1,a2,a3⟩:=hvx 0 x0 aif;have hes:0<es.length:=by omega
    obtain⟨b1,b2⟩:=a2 0 es[0] (fN hes);simp only[MZ,wS] at b1 b2;refine⟨b2,hI _ _ b2,?_⟩;simp only[World.cell?] at b1;split at b1
    .rename_i A tA frA hA;refine⟨A,tA,frA,hA,λh0=>?_⟩;simp at b1;have:=(vk.1 b1).1;omega
    .cases b1
   obtain⟨hvI,hvw,A,tA,frA,hA,hA0⟩:=hvI;have R:Src P e.size (ρ.t 24) (.slice (some ⟨S,r,none⟩) g.length vc) g.length p w:=Src.ofSlice w L.t24 ⟨S,r,none⟩ g.length vc p n1 (λj u z=>by rw[addr_add];exact n2 j u z) n3;have pZ:∀{w':World} {a:Nat} {cells:Array Value} {blk:Nat} {fr':Nat×Nat},w'.os=w.os->w'.tape=w.tape->w'.output=w.output->w.heap.size<=w'.heap.size->(∀q,q<w.heap.size->w'.heap[q]?=w.heap[q]?) ->
     blk=w.heap.size->w'.heap[blk]?=some (.cells cells (ρ.t 9) (0,0))->l.length+g.length<=a->a<=maxLen->cells.size=a*e.size ->
     (∀(q:Nat) (x:e.den),(l.take i++g++l.drop i)[q]?=some x->bI w I e x ((cells.toList.drop<|q*e.size).take e.size)) ->
     ∃T,kG w I (λk=>∃c,L0=some (k,c)) w' T/\∃v' L',Ending.returned (.slice (some ⟨w.heap.size,0,none⟩) (l.length+g.length) a)=.returned v'/\vy w' T e (l.take i++g++l.drop i) L' v'/\∀blk c,L'=some (blk,c)->(∃c,L0=some (blk,c))\/w.heap.size<=blk:=by
    intro w' a cells blk fr' o1 o2 o3 o4 o5 hbk J V hc2 hc3 aeF;subst hbk;have hlen:(l.take i++g++l.drop i).length=l.length+g.length:=by simp;omega
    refine⟨I,kG.mk' o1 o2 o3 o4 (λq O _=>o5 q O) hI,_,some (w.heap.size,a),rfl,.inr ⟨w.heap.size,a,cells,ρ.t 9,(0,0),rfl,by rw[hlen],J,xc _ _,by rw[hlen];exact V,hc2,hc3,λo hi=>by have:=hI _ _ hi;omega,λq x hx=>?_⟩,λblk c h=>by
     obtain⟨rfl,_⟩:=br (aI h);exact .inr (cg _)⟩
    exact bI.mono (λ_ _ h=>h) (λb o hi=>di (o5 b<|hI b o hi)) (aeF q x hx)
   rcases E with ⟨rfl,rfl,rfl⟩|⟨blk,a,cur,tid,fr,rfl,rfl,q3,q4,q5,q6,q7,q8,q9⟩
   ·
    obtain rfl:i=0:=by simpa using hil
    obtain⟨a,cells,g1,g2,g3,g4,g5⟩:=zB (P:=P) (I:=I) (ty:=ρ.t 24) (l:=([]:List e.den)) (base:=none) (sCap:=0) (olds:=[]) L.t24 he hby (by simpa using run_firstCells_none w.drew e.size 0 0 0) (by simp) (λi x hx=>by cases hx) R Y
     (by simpa using C) (by simpa using W)
    simp only[eB,sr,sW] at g1 g2 g5;refine(Pl L none 0 0 g.length vc (some ⟨S,r,none⟩) w _ _ C (cg _) g1).mono λq w' M=>?_;obtain⟨rfl,rfl⟩:=M;have:=pZ (w':=w.drew.alloc (.cells cells<|ρ.t 9)) (fr':=(0,0)) rfl rfl rfl (by simp) (λq O=>cK w.drew _ q O) rfl (heap_alloc_new w.drew _) (by simpa using g2) g3 g4 (λq x hx=>g5 q x (by simpa using hx));simpa using this
   .have aes:blk<w.heap.size:=(vk.1 q3).1;have hcl:cur.toList.length=a*e.size:=by simpa using q7
    have hlk:l.length*e.size<=a*e.size:=fO _ q5;have hne:S≠blk:=λh=>q8 r (h▸hvI);have acG:∀v∈cur.toList.take (l.length*e.size),v.oneCell'=true:=by
     intro v hv;obtain⟨j,z⟩:=MR.1 hv;rw[fi] at z;split at z
     .rename_i hjl;have hd:j / e.size<l.length:=by rw[V1 U];exact hjl
      have hm:=q9 (j / e.size) l[j / e.size] (fN hd);refine hm.one v ?_;have aih:=wT j U;have hjj:j / e.size*e.size+j % e.size=j:=by rw[QX];exact QP j e.size
      refine dY (i:=j % e.size) ?_;rw[fi,aQ aih,mn,hjj];exact z
     .cases z
    have aea:∀{w':World} {F:List Value},w'.os=w.os->w'.tape=w.tape->w'.output=w.output->w.heap.size<=w'.heap.size->(∀q,q<w.heap.size->q≠blk->w'.heap[q]?=w.heap[q]?) ->
      w'.heap[blk]?=some (.cells F.toArray tid fr)->F.length=a*e.size->l.length+g.length<=a ->
      (∀(q:Nat) (x:e.den),(l.take i++g++l.drop i)[q]?=some x->bI w I e x ((F.drop<|q*e.size).take e.size)) ->
      ∃T,kG w I (λk=>∃c,some (blk,a)=some (k,c)) w' T/\∃v' L',Ending.returned (.slice (some ⟨blk,0,none⟩) (l.length+g.length) a)=.returned v'/\vy w' T e (l.take i++g++l.drop i) L' v'/\∀b c,L'=some (b,c)->(∃c,some (blk,a)=some (b,c))\/w.heap.size<=b:=by
     intro w' F o1 o2 o3 o4 o5 J hF d aeF;have hlen:(l.take i++g++l.drop i).length=l.length+g.length:=by simp;omega
     have TZ:F.toArray.size=cur.size:=by rw[GW,hF,q7]
     refine⟨I,kG.mk' o1 o2 o3 o4 (λq O hn=>o5 q O λe=>hn ⟨a,by rw[e]⟩) hI,_,some (blk,a),rfl,.inr ⟨blk,a,F.toArray,tid,fr,rfl,by rw[hlen],J,q4.same TZ,by rw[hlen];exact d,q6,by rw[TZ];exact q7,q8,λq x hx=>?_⟩,λb c h=>.inl ⟨c,h⟩⟩;refine bI.mono (λ_ _ h=>h) (λb o hi=>di (o5 b (hI b o hi) λe=>?_)) (aeF q x hx);subst e;exact q8 o hi
    rcases sY i l.length with OM|OM
    .rcases sY a (l.length+g.length) with d|d
     ·
      refine(aaV L blk l.length a i S r g.length vc [] p w e1 e2 e3 hzc U hbs OM C q5 d W q3 q7 acG n1 n2 hvw n3).mono λq w' M=>?_;obtain⟨G,Z,hG1,hG2,hZ,rfl,rfl⟩:=M;have hRk:(l.length+g.length)*e.size<=G*e.size:=fO _ hG1;have N:i*e.size+p.length<=(cur.toList.take (i*e.size)++Z).length:=by
       rw[hZ,n1,<-gx];exact fO _ (by omega)
      have hs1:=bM N;have hl1:((cur.toList.take<|l.length*e.size).drop<|i*e.size).length=(l.length-i)*e.size:=by
       rw[kx,fB,pb (by omega),QY]
      have D:(i+g.length)*e.size+((cur.toList.take<|l.length*e.size).drop<|i*e.size).length<=(aU (cur.toList.take (i*e.size)++Z) (i*e.size) p).length:=by
       rw[hs1,hZ,hl1,<-gx];exact fO _ (by omega)
      have hs2:=bM D;have hik:i*e.size<=l.length*e.size:=fO _ (by omega);have hti:(cur.toList.take<|i*e.size).length=i*e.size:=by rw[fB];omega
      have J:(((w.drew.alloc<|.cells (cur.toList.take (i*e.size)++Z).toArray<|ρ.t 9).setRow w.heap.size (aU (cur.toList.take (i*e.size)++Z) (i*e.size) p).toArray).drew.setRow w.heap.size (aU (aU (cur.toList.take (i*e.size)++Z) (i*e.size) p) ((i+g.length)*e.size)<|(cur.toList.take<|l.length*e.size).drop<|i*e.size).toArray).heap[w.heap.size]? =
        some (.cells (aU (aU (cur.toList.take (i*e.size)++Z) (i*e.size) p) ((i+g.length)*e.size)<|(cur.toList.take<|l.length*e.size).drop<|i*e.size).toArray (ρ.t 9) (0,0)) :=
       setRow_heap _ _ _ _ _ _ (show((w.drew.alloc<|.cells (cur.toList.take (i*e.size)++Z).toArray<|ρ.t 9).setRow w.heap.size (aU (cur.toList.take (i*e.size)++Z) (i*e.size) p).toArray).drew.heap[w.heap.size]?=_ from setRow_heap _ _ _ _ _ _ (heap_alloc_new w.drew _))
      refine pZ (fr':=(0,0)) rfl rfl rfl (by simp) (λq O=>?_) rfl J hG1 hG2 (by rw[GW,hs2,hs1,hZ]) ?_
      .rw[setRow_other _ _ _ _<|by omega];show((w.drew.alloc _).setRow w.heap.size _).heap[q]?=_
       rw[setRow_other _ _ _ _<|by omega];exact cK w.drew _ q O
      .refine Ny (cur:=cur.toList) (vs:=p) (n:=l.length) (m:=g.length) rfl rfl hil q9 Y (λj z=>?_) (λj z=>?_) (λj z=>?_)
       .rw[cw D,aQ (by rw[gx];omega),cw N,aQ z,Ol (by rw[hti];exact z),fi,aQ z]
       .rw[cw D,aQ (by rw[gx];omega),cw N,aM (by omega),aQ (by rw[n1];omega)]
        congr 1;omega
       .rw[cw D,aM (by omega),aQ (by rw[hl1];omega),mn,fi,aQ (by
         have:i*e.size+(l.length-i)*e.size=l.length*e.size:=by rw[<-gx];congr 1;omega
         omega)]
        congr 1;omega
     ·
      have hmk:(l.length+g.length)*e.size<=a*e.size:=fO _ d;have aeD:(i+g.length)*e.size<=a*e.size:=fO _ (by omega);refine(XZ L blk l.length a i S r g.length vc [] p w OM C d (by unfold maxLen at q6;omega) hne q3 q4.th q7 acG n1 n2 n3 λlb cb=>?_).mono λq w' M=>?_
      .refine Hi w _ _ (ρ.t 9) L.t24 e.size L.z9 ⟨S,r,none⟩ ⟨blk,(i+g.length)*e.size,none⟩ g.length vc lb cb hne tA tid A.size cur.size (by simp[World.shape?,hA]) (by simp[World.shape?,q3]) hA0 ?_ ?_
       .refine Nz q3 ?_;rcases sY ((i+g.length)*e.size) cur.size with hlt|hge
        .exact q4.th _ hlt
        .have:(i+g.length)*e.size=cur.size:=by omega
         rw[this];exact q4.um hint
       .exact Nz q3 (q4.um hint)
      .obtain⟨rfl,rfl⟩:=M;have hik:i*e.size<=l.length*e.size:=fO _ (by omega);have hl1:((cur.toList.take<|l.length*e.size).drop<|i*e.size).length=(l.length-i)*e.size:=by
        rw[kx,fB,pb (by omega),QY]
       have N:(i+g.length)*e.size+((cur.toList.take<|l.length*e.size).drop<|i*e.size).length<=cur.toList.length:=by
        rw[hl1,hcl,<-gx];exact fO _ (by omega)
       have hs1:=bM N;have D:i*e.size+p.length<=(aU cur.toList ((i+g.length)*e.size)<|(cur.toList.take<|l.length*e.size).drop<|i*e.size).length:=by
        rw[hs1,hcl,n1,<-gx];exact aeD
       have hs2:=bM D;refine aea rfl rfl rfl (by simp) (λq O hqb=>?_) (setRow_heap _ _ _ _ _ _<|setRow_heap w.drew blk cur _ tid fr q3) (by rw[hs2,hs1,hcl]) d ?_
       .rw[setRow_other _ _ _ _ hqb,setRow_other _ _ _ _ hqb];rfl
       .refine Ny (cur:=cur.toList) (vs:=p) (n:=l.length) (m:=g.length) rfl rfl hil q9 Y (λj z=>?_) (λj z=>?_) (λj z=>?_)
        .rw[cw D,aQ z,cw N,aQ (by rw[gx];omega)]
        .rw[cw D,aM (by omega),aQ (by rw[n1];omega)]
         congr 1;omega
        .rw[cw D,aM (by rw[gx];omega),aM (by rw[n1,gx];omega),cw N,aM (by omega),aQ (by rw[hl1];omega),mn,fi,aQ (by
          have:i*e.size+(l.length-i)*e.size=l.length*e.size:=by rw[<-gx];congr 1;omega
          omega)]
         congr 1;omega
    ·
     obtain rfl:i=l.length:=by omega
     have B:l.take l.length++g++l.drop l.length=l++g:=by simp
     rcases sY a (l.length+g.length) with d|d
     .have hfc:=run_firstCells_some (P:=P) w.drew e.size l.length ⟨blk,0,none⟩ l.length a (cur.toList.take<|l.length*e.size) (by rw[fB];omega) (λj v z=>by
       rw[addr_add];show w.cell? ⟨blk,0+j,none⟩=some v
       rw[cell_of_heap q3];rw[fi] at z;split at z
       .simpa using z
       .cases z)
      obtain⟨ahz,cells,g1,g2,g3,g4,g5⟩:=zB (P:=P) (I:=I) (ty:=ρ.t 24) (l:=l) (base:=some ⟨blk,0,none⟩) (sCap:=a) L.t24 he hby hfc (by rw[fB];omega) (eO.front (n:=l.length*e.size) q9 (cg _)<|by omega) R Y d W;refine(Pl L _ l.length a g.length vc _ w _ _ C q5 g1).mono λq w' M=>?_;obtain⟨rfl,rfl⟩:=M;exact pZ (w':=w.drew.alloc (.cells cells<|ρ.t 9)) (fr':=(0,0)) rfl rfl rfl (by simp) (λq O=>cK w.drew _ q O) rfl (heap_alloc_new w.drew _) g2 g3 g4 (by rw[B];exact g5)
     .have hnl:=R.newsLen;have hmul:(l.length+g.length)*e.size<=a*e.size:=fO _ d;rw[gx] at hmul;have hlen:l.length*e.size+p.length<=cur.toList.length:=by rw[hnl,hcl];exact hmul
      have aeu:=kE (P:=P) (t:=ρ.t 24) (tx:=ρ.t 24) (ty:=ρ.t 24) (sCap:=a) L.t24 (L.z9 w) R q3 q4.th d (by simpa using hlen);refine(Pl L _ l.length a g.length vc _ w _ _ C q5 aeu).mono λq w' M=>?_;obtain⟨rfl,rfl⟩:=M;refine aea rfl rfl rfl (by simp) (λq O hqb=>setRow_other _ _ _ _ hqb) (setRow_heap w blk cur _ tid fr q3) (by rw[bM hlen,hcl]) d ?_;rw[B];have:=(eO.front (n:=l.length*e.size) q9 (cg _)<|by omega).append (rest:=cur.toList.drop (l.length*e.size+p.length)) Y (by rw[fB];omega) hnl;exact this
end Go.Ge
