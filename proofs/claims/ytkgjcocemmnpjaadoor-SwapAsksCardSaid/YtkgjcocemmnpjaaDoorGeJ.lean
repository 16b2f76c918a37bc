/- A ghost interpreter of the model's code, and that it tells the truth: part 10. It says of a function of plain data what a call of it comes to. -/
import Derived.Test.YtkgjcocemmnpjaaDoorGeI
import Derived.Lib.LazyBuf
import Derived.Lib.Bytealg
import Derived.WalkKit
import Derived.Shelf.Strings.SplitCore
import Derived.Shelf.Strings.Search3
import Derived.Shelf.Strings.Count
import Derived.Lib.SplitLaws
import Derived.Lib.Join
import Derived.Lib.IndexBytes
import Derived.Shelf.Strconv.Itoa3
import Derived.Shelf.Strconv.ErrVarParseInt
import Derived.Lib.AppendIntMem
import Derived.Lib.ItoaLen
import Derived.Lib.LaidTab
import Derived.LaidSub
import Derived.Sort.EncStr
import Derived.Sort.Grow
import Derived.Lib.SlicesCompact
import Derived.Shelf.Spec.SlicesInsertGrow
set_option linter.unusedSectionVars false
set_option linter.unusedVariables false
set_option linter.unusedSimpArgs false
namespace Go.Ge
variable [Lp]
open RowKit
noncomputable def FH(cx:Ctx)(bf:List Nat)(rs:List ResultVar)(R:Ty)(c:Code)(σ:St):Option R.den :=
 ((eL cx 0 bf oV c [] σ).bind fun r=>bif Nat.beq r.1 1 then((results1 cx r.2 rs).bind fun v=>match dR (ep r.2.mem) R (o5 R v) with
  | some y=>.ret y
  | none=>.fail) else .fail).run
section
variable {P:Program} {cx:Ctx} {bf:List Nat}
theorem zw{G:eM}:jY P G oV:=fun B γ σ σ' w f vals xs v _ _ _ h=>by cases h
theorem uN:∀f vals σ v σ',(oV f vals σ).run=some (v,σ')→aH σ σ':=fun f vals σ v σ' h=>by cases h
def Ends(w:World)(I:Nat→Nat→Prop)(R:Ty)(y:R.den)(e:Ending)(w':World):Prop :=
 ∃v I',e=.returned v∧Below w.heap.size w w'∧(∀b o,I b o→I' b o)∧(∀b o,I' b o→b<w'.heap.size)∧(∀b o,I' b o→¬I b o→w.heap.size≤b)∧fN w' I' R y v
theorem wq{Q:Exit→Act→World→Prop}(lD:P.follows .mixedOrders=true)(hc:dy P cx){G:eM}(cQ:ia P G cx){fn:Func}{R:Ty}{y:R.den}{c:Code}{σ:St}{γ:Gh}{a:Act}{w0 w:World}{N:Nat}{I:Nat→Nat→Prop}
  (hd:∀t∈writes c,t<N) (hf:FH cx bf fn.results.toList R c σ=some y) (h:bP (jl G w0.heap.size) N γ σ a w) (hx:Ext (jl G w0.heap.size) ⟨I,fun _=>none⟩ (fun _=>none) w0 γ σ.mem w)
  (hQ:∀a w,bodyPost P fn (Ends w0 I R y) .ret a w→Q .ret a w):c.wp P Q a w:=by
 unfold FH at hf;obtain⟨r,h1,h2⟩:=bind_some hf;obtain⟨e,σ'⟩:=r;obtain⟨h3,h4⟩:=ah h2;obtain⟨v,h5,h6⟩:=bind_some h4;have hl:dR (ep σ'.mem) R (o5 R v)=some y:=by
  split at h6
  ·rename_i y' hy';obtain rfl:=aq h6;exact hy'
  ·cases h6
 refine nc lD hc cQ zw uN c hd h1 h fun γ' a' w' s x f=>?_;obtain⟨val,r1,r2⟩:=oc (fn:=fn) hc s h5;have x1:=hx.trans x;have key:Ends w0 I R y (.returned val) w':=by
  refine⟨val,fun b o=>γ'.I b o∨(w0.heap.size≤b∧b<w'.heap.size),rfl,x1.below.below,fun b o hi=>.inl (x1.I b o hi),fun b o hi=>?_,fun b o hi hn=>?_,?_⟩
  ·rcases hi with hi|hi
   ·exact s.ok.jJ b o hi
   ·exact hi.2
  ·rcases hi with hi|hi
   ·exact jH.1 ((x1.jK b o hi).resolve_left hn)
   ·exact hi.1
  ·exact wo (σ:=ep σ'.mem) s.ok (fun b o hi=>.inl hi) (fun b o h1 h2=>.inr ⟨jH.1 h1,h2⟩) r2 hl
 have:a'.defers=[]∧∃v1,(results fn a'.tmps).run P w'=.ok v1 w'∧Ends w0 I R y (.returned v1) w':=⟨s.defers,val,r1,key⟩;have J9:e=1:=cK h3;subst J9;exact hQ _ _ this
theorem zx(lD:P.follows .mixedOrders=true)(hc:dy P cx){G:eM}(cQ:ia P G cx){f tid KE:Nat}{fn:Func}{e:Ty}{R0 R2 R3:Code}{o0 o1:Oper}{LM:TypeId}{s0:List e.den→St}
  (hP:P.funcs[f]?=some fn) (hname:(fn.name == "runtime.NumGoroutine")=false)
  (hbody:fn.body=some (.seq R0 (.seq (.seq (.region KE #[o0,o1] false) (.cond (.tmp 4) (.seq R2 .ret) .skip)) (.seq R3 .ret))))
  (hT:find cx.T tid=some (.slice e)) (hN:4<fn.ntmps) (hd:∀t∈writes R0++(writes R2++writes R3),t<fn.ntmps)
  (g0:o0.guard=none) (d0:o0.dst=some 3) (p0:o0.op=.move (.tmp 0)) (g1:o1.guard=none) (d1:o1.dst=some 4) (p1:o1.op=.binOp .eql tid (.tmp 3) (.const (.slice none 0 0)) LM)
  (h0:∀l,(eL cx 0 bf oV R0 [] (vN (fun _=>none) [.data (.slice e) l])).run=some (0,s0 l)) (hs0:∀l,(s0 l).slots 0=.data (.slice e) l) (hs3:∀l,(s0 l).slots 3=.undef) (LN:∀l,(s0 l).slots 4=.undef)
  (hA:∀l,FH cx bf fn.results.toList (.pair (.slice e) .unit) (.seq R2 .ret) (s0 l)=some (([]:List e.den),()))
  (hB:∀l:List e.den,fits (len l)=true→FH cx bf fn.results.toList (.pair (.slice e) .unit) (.seq R3 .ret) (s0 l)=some (l,())) :
  Holds P G f ⟨.pair (.slice e) .unit,.pair (.slice e) .unit,fun x=>bif fits (len (α:=e.den) x.1) then some x else none⟩ where
 body:=⟨fn,_,hP,hname,hbody⟩
 calls:=by
  intro I w args x y hI hG hargs hspec;obtain⟨l,u⟩:=x;change List e.den at l;have hfit:fits (len l)=true∧y=(l,()):=by
   change (bif fits (len l) then some ((l,u):(Ty.pair (.slice e) .unit).den) else none)=some y at hspec;cases hq:fits (len l) with
   | true=>rw[hq] at hspec;exact⟨rfl,(aq hspec).symm⟩
   | false=>rw[hq] at hspec;cases hspec
  obtain⟨hfit,rfl⟩:=hfit;obtain⟨cs,rest,hal,qw,mj⟩:=hargs;obtain rfl:rest=[]:=mj;obtain⟨bX,JW,_⟩:=(hc.T _ _ hT).slice;have hm:aN (jl G w.heap.size) ⟨I,fun _=>none⟩ (fun _=>none) w :=
   { b6:=fun b Q g=>by
      obtain⟨o,h1,h2⟩:=hG b Q g;exact⟨fun hb=>by have:=jH.1 hb;have:=(Array.getElem?_eq_some_iff.1 h1).1;omega,o,h1,h2⟩
     base:=en _
     boxes:=fun b bx hb=>by cases hb
     inj:=fun b c blk k k' hb=>absurd rfl hb
     fresh:=fun b blk k hb=>absurd rfl hb
     jJ:=hI
     sep:=fun b bx blk k off hb=>by cases hb }
  have hv:fO ⟨I,fun _=>none⟩ (fun _=>none) w [.data (.slice e) l] args.toList:=by
   rw[hal];refine⟨rfl,fun i v x hv hx=>?_⟩;cases i with
   | zero=>obtain rfl:=aq hv;obtain rfl:=aq hx;exact⟨cs,qw,rfl⟩
   | succ i=>cases hv
  show Calls P f args w (Ends w I (.pair (.slice e) .unit) (l,()))
  refine calls_of_wp hP hbody (wp_seq ?_);have hsz:args.size=1:=by have:=congrArg List.length hal;simpa using this
  have LO:args.size+(fn.ntmps-args.size)=fn.ntmps:=by omega
  have FG:=wk hm hv fn.ntmps;rw[LO] at FG;refine nc lD hc cQ zw uN R0 (fun t ht=>hd t (oQ _ ht)) (h0 l) FG fun dX a1 w1 s1 x1 f1=>?_;refine wp_seq (wp_seq (wp_region_list ?_));have Jc:=s1.slots 0;rw[hs0] at Jc;obtain⟨CJ,KC,hv1⟩:=cq.1 Jc;have EG:∃base n cap,a1.tmps.getD 0 Go.undef=.slice base n cap∧(base=none→l=[]):=by
   rcases KC with ⟨⟨base,k1⟩,k2⟩|⟨blk,off,cap,k1,_⟩
   ·exact⟨base,0,0,by rw[hv1,k1];rfl,fun _=>k2⟩
   ·exact⟨_,_,_,by rw[hv1,k1];rfl,fun h=>by cases h⟩
  obtain⟨base,n,cap,hval,hbase⟩:=EG;have vX:∀{d:Nat},(s0 l).slots d=.undef→(s0 l).put d .undef=s0 l:=by
   intro d hd0;unfold St.put;generalize s0 l=q at hd0⊢;obtain⟨sl,mm⟩:=q
   congr 1
   funext t;cases hb:Nat.beq t d with
   | true=>obtain rfl:=cK hb;exact hd0.symm
   | false=>rfl
  have s2:bP (jl G w.heap.size) fn.ntmps dX (s0 l) (a1.put (some 3) (.slice base n cap)) w1:=by
   have:=s1.lf (d:=some 3) (v:=.undef) (val:=.slice base n cap) (fun k hk=>by cases hk;omega) ⟨_,rfl⟩;rw[show(s0 l).aD (some 3) .undef=s0 l from vX (hs3 l)] at this;exact this
  have s3:bP (jl G w.heap.size) fn.ntmps dX (s0 l) ((a1.put (some 3) (.slice base n cap)).put (some 4) (.bool base.isNone)) w1:=by
   have:=s2.lf (d:=some 4) (v:=.undef) (val:=.bool base.isNone) (fun k hk=>by cases hk;omega) ⟨_,rfl⟩;rw[show(s0 l).aD (some 4) .undef=s0 l from vX (LN l)] at this;exact this
  have e3:(a1.put (some 3) (.slice base n cap)).eval (.tmp 3)=.slice base n cap:=by
   simp[Act.eval,Act.put,s1.size];omega
  have e4:((a1.put (some 3) (.slice base n cap)).put (some 4) (.bool base.isNone)).eval (.tmp 4)=.bool base.isNone:=by
   have:=s2.size;simp only[Act.eval];generalize a1.put (some 3) (.slice base n cap)=a2 at this⊢;simp[Act.put,this,hN]
  show wpList P #[o0,o1] _ [o0,o1] a1 w1
  unfold wpList;rw[show Region.wanted o0 (yielded #[o0,o1] a1.tmps)=true by unfold Region.wanted;rw[g0]];simp only[iP];refine .inl ?_;unfold Oper.wp;have LP:(execOp a1.eval o0).run P w1=.ok (.value (.slice base n cap)) w1:=by
   have:a1.eval (.tmp 0)=.slice base n cap:=hval;simp only[execOp,p0,this];rfl
  rw[LP];show wpList P #[o0,o1] _ [o1] (a1.put o0.dst (.slice base n cap)) w1
  rw[d0];unfold wpList;rw[show Region.wanted o1 (yielded #[o0,o1] (a1.put (some 3) (.slice base n cap)).tmps)=true by unfold Region.wanted;rw[g1]];simp only[iP];refine .inl ?_;unfold Oper.wp;have LQ:(execOp (a1.put (some 3) (.slice base n cap)).eval o1).run P w1=.ok (.value (.bool base.isNone)) w1:=by
   have JX:(a1.put (some 3) (.slice base n cap)).eval (.const (.slice none 0 0))=.slice none 0 0:=rfl;have hg:(eqGuard .eql tid (.tmp 3) (.const (.slice none 0 0)) (.slice base n cap) (.slice none 0 0)).run P w1=.ok () w1:=by simp[eqGuard]
   simp only[execOp,p1,e3,JX,Sem.run_bind,hg,_root_.Go.run_eql_slice_nil w1 tid bX base n cap JW,Result.andThen_ok,Sem.run_pure]
  rw[LQ];simp only[Oper.upon];rw[d1];refine wpList_nil ?_;have hmem:∀{t},t∈writes R2++writes R3→t∈writes R0++(writes R2++writes R3):=fun h=>nU _ h;refine wp_cond_split (t:=base.isNone) e4 (fun hn=>?_) (fun hn=>?_)
  ·have hl:l=[]:=hbase (by simpa using hn);have:=hA l;rw[←hl] at this;exact wq (w0:=w) (I:=I) (R:=.pair (.slice e) .unit) (N:=fn.ntmps) lD hc cQ (fun t ht=>hd t (hmem (oQ _ (by simpa [writes] using ht)))) this s3 x1 fun a w hq=>hq
  ·exact wp_skip (wq (w0:=w) (I:=I) (R:=.pair (.slice e) .unit) (N:=fn.ntmps) lD hc cQ (fun t ht=>hd t (hmem (nU _ (by simpa [writes] using ht)))) (hB l hfit) s3 x1 fun a w hq=>hq)
end
end Go.Ge
namespace Go.Ge
variable [Lp]
theorem zy{S R:Type}{f:S→Option (S⊕R)}{r:R}:∀(k:Nat) (st:Nat→S),(∀i,i<k→f (st i)=some (.inl (st (i+1))))→f (st k)=some (.inr r)→Loop f (st 0)=some r:=by
 intro k;induction k with
 | zero=>intro st _ h;rw[e7,h];rfl
 | succ k ih =>
   intro st h1 h2;rw[e7,h1 0 (by omega)];exact ih (fun i=>st (i+1)) (fun i hi=>h1 (i+1) (by omega)) h2
theorem iV{i:Nat}(h:i<4611686018427387904):kE .i64 (i:Int) 1=((i+1:Nat):Int):=by
 unfold kE;simp[IntKind.wrap,IntKind.min,IntKind.max,IntKind.signed,IntKind.bits];omega
theorem FI{α:Type}(l:List α)(i:Nat):idx l (i:Int)=l[i]?:=by
 unfold idx;rw[fF (by omega)];simp
theorem Cw{n:Nat}(h:n≤4294967296):fits (n:Int)=true:=by
 unfold fits;simp;omega
theorem ai{α:Type}(x y:α):b8 true x y=x:=rfl
theorem af{α:Type}(x y:α):b8 false x y=y:=rfl
theorem aW{α β:Type}(x:α)(f:α→Option β):ax (some x) f=f x:=rfl
theorem Ee(a:Int):cX a a=true:=by simp[cX]
theorem aO:nt true=false:=rfl
theorem bW:nt false=true:=rfl
theorem Hs{P:Program}{tys:List (Nat×Ty)}(h:(tys.all fun p=>dc P p.2 false p.1 0 [])=true):∀tid t,find tys tid=some t→Den P t tid:=fun tid t hf=>by
 rw[rS] at h;exact h _ (iU hf)
theorem wu{l:List Nat}{t:Nat}(h:bN l t=true):t∈l:=pM.1 h
def IP(P:Program)(tid:TypeId):Bool:=(match P.underlying tid with|some (.pointer _)=>true|some (.func ..)=>true|_=>false)&&(match P.info? tid with|some i=>Nat.beq i.size 1&&(match i.zero with|some z=>z.oneCell'|none=>false)|none=>false)
theorem FJ{P:Program}{iY:List Nat}(h:(iY.all fun t=>IP P t)=true):∀tid,bN iY tid=true→(∀w,(isAgg tid).run P w=.ok false w)∧(∀w,(Go.sizeOf tid).run P w=.ok 1 w)∧∃z,(∀w,(zeroValue tid).run P w=.ok z w)∧z.oneCell'=true:=fun tid ht=>by
 rw[rS] at h;have:=h tid (wu ht);simp only[IP,cA] at this;obtain⟨h1,h2⟩:=this;refine⟨?_,?_,?_⟩
 ·intro w;split at h1
  ·rename_i hu;simp[isAgg,run_underlying hu]
  ·rename_i hu;simp[isAgg,run_underlying hu]
  ·cases h1
 ·intro w;split at h2
  ·rename_i i hi;simp only[cA] at h2;have:=cK h2.1;simp[Go.sizeOf,typeInfo,hi,this]
  ·cases h2
 ·split at h2
  ·rename_i i hi;simp only[cA] at h2;obtain⟨_,h3⟩:=h2;split at h3
   ·rename_i z hz;exact⟨z,fun w=>by simp[zeroValue,typeInfo,hi,hz],h3⟩
   ·cases h3
  ·cases h2
def IQ(P:Program)(tid:TypeId):Bool:=match P.underlying tid with|some (.pointer _)=>true|_=>false
theorem FK{P:Program}{eo:List Nat}(h:(eo.all fun t=>IQ P t)=true):∀tid,bN eo tid=true→∃e,P.underlying tid=some (.pointer e):=fun tid ht=>by
 rw[rS] at h;have:=h tid (wu ht);unfold IQ at this;split at this
 ·rename_i e he;exact⟨e,he⟩
 ·cases this
theorem FL{P:Program}:∀p∈([]:List (Nat×Func)),P.funcs[p.1]?=some p.2:=fun p h=>by cases h
theorem bh{P:Program}{f:Nat}{fn:Func}{l:List (Nat×Func)}(h:P.funcs[f]?=some fn)(hl:∀p∈l,P.funcs[p.1]?=some p.2):∀p∈(f,fn)::l,P.funcs[p.1]?=some p.2:=fun p hp=>by
 rcases List.mem_cons.1 hp with rfl|hp
 ·exact h
 ·exact hl p hp
theorem Ht{P:Program}{l:List (Nat×Func)}(h:∀p∈l,P.funcs[p.1]?=some p.2):∀f fn,find l f=some fn→P.funcs[f]?=some fn:=fun f fn hf=>h _ (iU hf)
theorem bF{P:Program}{G:eM}:∀p∈([]:List (Nat×oR)),Holds P G p.1 p.2:=fun p h=>by cases h
theorem aL{P:Program}{G:eM}{f:Nat}{c:oR}{l:List (Nat×oR)}(h:Holds P G f c)(hl:∀p∈l,Holds P G p.1 p.2):∀p∈(f,c)::l,Holds P G p.1 p.2:=fun p hp=>by
 rcases List.mem_cons.1 hp with rfl|hp
 ·exact h
 ·exact hl p hp
theorem bk{P:Program}{G:eM}:∀p∈([]:List (Nat×gd)),cg P G p.1 p.2:=fun p h=>by cases h
theorem aj{P:Program}{G:eM}{f:Nat}{c:gd}{l:List (Nat×gd)}(h:cg P G f c)(hl:∀p∈l,cg P G p.1 p.2):∀p∈(f,c)::l,cg P G p.1 p.2:=fun p hp=>by
 rcases List.mem_cons.1 hp with rfl|hp
 ·exact h
 ·exact hl p hp
theorem FM{P:Program}:∀p∈([]:List (Nat×EE)),tO P p.1 p.2:=fun p hp=>by cases hp
theorem wz{α:Type}:∀{l:List (String×α)} {k:String} {a:α},x7 l k=some a→(k,a)∈l
 | [],_,_,h=>by cases h
 | (i,a)::r,k,b,h=>by
   unfold x7 at h;by_cases e:i=k
   ·rw[C0 e] at h;obtain rfl:=e;obtain rfl:=aq h;exact jy ..
   ·rw[CY e] at h;exact jx _ (wz h)
theorem bG{P:Program}{G:eM}:∀p∈([]:List (String×oR)),tL P G p.1 p.2:=fun p h=>by cases h
theorem uO{P:Program}{G:eM}{cx:Ctx}(h:∀p∈cx.gE,Holds P G p.1 p.2)(k:∀p∈cx.cO,cg P G p.1 p.2)(s:∀p∈cx.x6,tO P p.1 p.2)(v:∀p∈cx.inv,tL P G p.1 p.2):ia P G cx :=
 ⟨fun f c hf=>h _ (iU hf),fun f c hf=>k _ (iU hf),fun f c hf=>s _ (iU hf),fun n c hf=>v _ (wz hf)⟩
theorem FN{P:Program}{jz:List (Nat×List gf)}(h:(jz.all fun p=>u6 P p.1 p.2)=true):∀tid fs,find jz tid=some fs→u6 P tid fs=true:=fun tid fs hf=>by
 rw[rS] at h;exact h _ (iU hf)
def KF(P:Program)(p:Nat×Nat):Bool:=match P.underlying p.1 with|some (.slice e)=>Nat.beq e p.2|_=>false
theorem Hu{P:Program}{els:List (Nat×Nat)}(h:(els.all fun p=>KF P p)=true):∀tid e,find els tid=some e→P.underlying tid=some (.slice e):=fun tid e hf=>by
 rw[rS] at h;have:=h _ (iU hf);unfold KF at this;split at this
 ·rename_i e' he;rw[he,cK this]
 ·cases this
end Go.Ge
namespace Go.Ge
open RowKit
theorem sg.refl(og:Option Nat)(w:World):sg og w w:=⟨rfl,rfl,rfl,en _,fun _ _ _=>rfl,fun _ _ _=>rfl⟩
theorem sg.drew{og:Option Nat}{w w':World}(h:sg og w w'):sg og w w'.drew:=⟨h.os,h.tape,h.output,h.size,h.block,h.cell⟩
theorem sg.alloc{og:Option Nat}{w w':World}(h:sg og w w')(o:Obj):sg og w (w'.alloc o) where
 os:=h.os
 tape:=h.tape
 output:=h.output
 size:=gj h.size (by simp)
 block:=fun k hk hn=>(b9 w' o k (qh hk h.size)).trans (h.block k hk hn)
 cell:=fun k c hk=>(dD (b9 w' o k (qh hk h.size))).trans (h.cell k c hk)
theorem sg.freeze{g:Nat}{w w':World}(h:sg (some g) w w')(n:Nat):sg (some g) w (w'.freeze ⟨g,0,none⟩ n):=by
 unfold World.freeze;split
 ·exact h
 ·refine⟨h.os,h.tape,h.output,gj h.size (by simp),fun k hk hn=>?_,fun k c hk=>?_⟩
  ·have hne:¬g=k:=fun e=>hn (by rw[e]);rw[←h.block k hk hn];simp[GP,hne]
  ·rw[←h.cell k c hk];by_cases e:g=k
   ·subst e;simp only[World.cell?,GP,iP];cases w'.heap[g]? with
    | none=>rfl
    | some o=>cases o<;>rfl
   ·have hne:¬g=k:=e;simp[World.cell?,GP,hne]
end Go.Ge
namespace Go.Ge
open RowKit Go.Proofs Go.Shelf
end Go.Ge
namespace Go.Ge
open RowKit
def A8(k:IntKind)(zs:List Int):Obj→Prop:=fun o=>∃t fr,o=.cells (zs.map fun z=>Value.int k z).toArray t fr
theorem zz{P:Program}{G:eM}{w:World}{g:Nat}{name:String}{k:IntKind}{zs:List Int}(hg:P.globalNamed name=some g)(h:G g (A8 k zs))(ok:kK G w):Lib.TabIs P w name k zs:=by
 obtain⟨o,h1,t,fr,rfl⟩:=ok g _ h;simp[Lib.TabIs,World.var?,hg,h1]
theorem zA{P:Program}{w:World}{g:Nat}{name:String}{k:IntKind}{zs:List Int}(hg:P.globalNamed name=some g)(h:Lib.TabIs P w name k zs):∃o,w.heap[g]?=some o∧A8 k zs o:=by
 simp only[Lib.TabIs,World.var?,hg,wE] at h;split at h
 ·rename_i cs t fr he;obtain rfl:=aq h;exact⟨_,he,_,_,rfl⟩
 ·cases h
theorem A9{P:Program}{G:eM}{f:Nat}{fn:Func}(hP:P.funcs[f]?=some fn)(hname:(fn.name == "runtime.NumGoroutine")=false)(hb:fn.body.isSome=true)
  (ht:∀w,kK G w→Lib.TabIs P w "internal/strconv.uint64pow10" .u64 Lib.pow10Tab)
  (h:∀(n:Int),-9223372036854775808≤n→n≤9223372036854775807→∀w,Lib.TabIs P w "internal/strconv.uint64pow10" .u64 Lib.pow10Tab →
   Calls P f #[.int .i64 n] w fun e w'=>e=.returned (.string ⟨(Lib.itoa n).toArray⟩)∧Below w.heap.size w w') :
  Holds P G f ⟨.pair (.int .i64) .unit,.pair .str .unit,fun x=>some (Lib.itoa x.1,())⟩ where
 body:=by
  obtain⟨code,hc⟩:=Option.isSome_iff_exists.1 hb;exact⟨fn,code,hP,hname,hc⟩
 calls:=by
  intro I w args x y hI hG hargs hspec;obtain⟨n,u⟩:=x;change Int at n;obtain rfl:=aq hspec;obtain⟨cs,rest,hal,qw,mj⟩:=hargs;obtain rfl:rest=[]:=mj;obtain⟨rfl,h0,h1⟩:=qw;obtain rfl:args=#[.int .i64 n]:=by
   apply Array.toList_inj.1;rw[hal];rfl
  have b0:-9223372036854775808≤n:=by
   have:(IntKind.i64).min=-9223372036854775808:=by decide
   exact this▸h0
  have b1:n≤9223372036854775807:=by
   have:(IntKind.i64).max=9223372036854775807:=by decide
   exact this▸h1
  have hl:=Lib.itoa_length_le n b0 b1;refine(h n b0 b1 w (ht w hG)).mono ?_;rintro e w' ⟨rfl,hw⟩;exact⟨_,I,rfl,hw,fun b o h=>h,fun b o h=>qh (hI b o h) hw.size,fun b o h1 h2=>absurd h1 h2,[.string ⟨(Lib.itoa n).toArray⟩],⟨rfl,gj hl (by decide)⟩,rfl⟩
end Go.Ge
namespace Go.Ge
open RowKit Go.Sort Go.Proofs
end Go.Ge
namespace Go.Ge
variable [Lp]
open RowKit Go.Shelf Go.Lib Go.Proofs
structure KG (P:Program) (ρ:Ren) (nm:String) (k:Nat):Prop where
 mixed:P.follows .mixedOrders=true
 f22:P.funcs[ρ.f 22]?=some { Body2.n22 ρ with name:=nm }
 ov:∀(xs:Array Value) (w:World),(callFunc (ρ.f 29) xs).run P w=((Extern.SlicesOverlaps.overlaps #[(ρ.t 24),(ρ.t 24)] #[(ρ.t 4)] xs).run P w).andThen fun v w'=>.ok (.value v) w'
 t3:P.underlying (ρ.t 3)=some (TypeDesc.int IntKind.i64)
 t4:P.underlying (ρ.t 4)=some TypeDesc.bool
 t24:P.underlying (ρ.t 24)=some (TypeDesc.slice (ρ.t 9))
 z9:∀w,(Go.sizeOf (ρ.t 9)).run P w=.ok k w
 i9:(P.info? (ρ.t 9)).map (·.size)=some k
variable {P:Program} {ρ:Ren} {nm:String} {k:Nat}
end Go.Ge
namespace Go.Ge
variable [Lp]
open RowKit Go.Shelf Go.Lib Go.Proofs
variable {P:Program} {ρ:Ren} {nm:String}
end Go.Ge
