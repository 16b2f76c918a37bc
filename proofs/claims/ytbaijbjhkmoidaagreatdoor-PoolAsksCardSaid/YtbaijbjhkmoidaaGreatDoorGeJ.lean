/- A ghost interpreter of the model's code, and that it tells the truth: part 10. It says of a function of plain data what a call of it comes to. -/
import Derived.Test.YtbaijbjhkmoidaaGreatDoorGeI
import Derived.Lib.LazyBuf
import Derived.Lib.Bytealg
import Derived.WalkKit
import Derived.Shelf.Strings.SplitCore
import Derived.Shelf.Strings.Search3
import Derived.Shelf.Strings.Count
import Derived.Lib.SplitLaws
import Derived.Lib.Join
import Derived.Lib.IndexBytes
import Derived.Shelf.Strconv.Itoa3
import Derived.Shelf.Strconv.ErrVarParseInt
import Derived.Lib.AppendIntMem
import Derived.Lib.ItoaLen
import Derived.Lib.LaidTab
import Derived.LaidSub
import Derived.Sort.EncStr
import Derived.Sort.Grow
import Derived.Lib.SlicesCompact
import Derived.Shelf.Spec.SlicesInsertGrow
set_option linter.unusedSectionVars false
set_option linter.unusedVariables false
set_option linter.unusedSimpArgs false
namespace Go.Ge
variable [Lp]
open RowKit
noncomputable def NY(cx:Ctx)(bf:List Nat)(rs:List ResultVar)(R:Ty)(c:Code)(σ:St):Option R.den :=
 ((fF cx 0 bf rL c [] σ).bind fun r=>bif Nat.beq r.1 1 then((results1 cx r.2 rs).bind fun v=>match fy (fO r.2.mem) R (uY R v) with
  | some y=>.ret y
  | none=>.fail) else .fail).run
section
variable {P:Program} {cx:Ctx} {bf:List Nat}
theorem vM{G:eH}:oE P G rL:=fun B γ σ σ' w f vals xs v _ _ _ h=>by cases h
theorem qG:∀f vals σ v σ',(rL f vals σ).run=some (v,σ')→aN σ σ':=fun f vals σ v σ' h=>by cases h
def Ends(w:World)(I:Nat→Nat→Prop)(R:Ty)(y:R.den)(e:Ending)(w':World):Prop :=
 ∃v I',e=.returned v∧Below w.heap.size w w'∧(∀b o,I b o→I' b o)∧(∀b o,I' b o→b<w'.heap.size)∧(∀b o,I' b o→¬I b o→w.heap.size≤b)∧iM w' I' R y v
theorem Cs{Q:Exit→Act→World→Prop}(l8:P.follows .mixedOrders=true)(hc:eo P cx){G:eH}(dc:jP P G cx){fn:Func}{R:Ty}{y:R.den}{c:Code}{σ:St}{γ:Gh}{a:Act}{w0 w:World}{N:Nat}{I:Nat→Nat→Prop}
  (hd:∀t∈writes c,t<N) (hf:NY cx bf fn.results.toList R c σ=some y) (h:bZ (iy G w0.heap.size) N γ σ a w) (hx:Ext (iy G w0.heap.size) ⟨I,fun _=>none⟩ (fun _=>none) w0 γ σ.mem w)
  (hQ:∀a w,bodyPost P fn (Ends w0 I R y) .ret a w→Q .ret a w):c.wp P Q a w:=by
 unfold NY at hf;obtain⟨r,h1,h2⟩:=bind_some hf;obtain⟨e,σ'⟩:=r;obtain⟨h3,h4⟩:=aq h2;obtain⟨v,h5,h6⟩:=bind_some h4;have hl:fy (fO σ'.mem) R (uY R v)=some y:=by
  split at h6
  ·rename_i y' hy';obtain rfl:=ax h6;exact hy'
  ·cases h6
 refine mb l8 hc dc vM qG c hd h1 h fun γ' a' w' s x f=>?_;obtain⟨val,r1,r2⟩:=pq (fn:=fn) hc s h5;have x1:=hx.trans x;have key:Ends w0 I R y (.returned val) w':=by
  refine⟨val,fun b o=>γ'.I b o∨(w0.heap.size≤b∧b<w'.heap.size),rfl,x1.below.below,fun b o hi=>.inl (x1.I b o hi),fun b o hi=>?_,fun b o hi hn=>?_,?_⟩
  ·rcases hi with hi|hi
   ·exact s.ok.mW b o hi
   ·exact hi.2
  ·rcases hi with hi|hi
   ·exact ke.1 ((x1.mX b o hi).resolve_left hn)
   ·exact hi.1
  ·exact Cr (σ:=fO σ'.mem) s.ok (fun b o hi=>.inl hi) (fun b o h1 h2=>.inr ⟨ke.1 h1,h2⟩) r2 hl
 have:a'.defers=[]∧∃v1,(results fn a'.tmps).run P w'=.ok v1 w'∧Ends w0 I R y (.returned v1) w':=⟨s.defers,val,r1,key⟩;have Qz:e=1:=dz h3;subst Qz;exact hQ _ _ this
theorem Fo(l8:P.follows .mixedOrders=true)(hc:eo P cx){G:eH}(dc:jP P G cx){f tid RM:Nat}{fn:Func}{e:Ty}{R0 R2 R3:Code}{o0 o1:Oper}{Sy:TypeId}{s0:List e.den→St}
  (hP:P.funcs[f]?=some fn) (hname:(fn.name == "runtime.NumGoroutine")=false)
  (hbody:fn.body=some (.seq R0 (.seq (.seq (.region RM #[o0,o1] false) (.cond (.tmp 4) (.seq R2 .ret) .skip)) (.seq R3 .ret))))
  (hT:find cx.T tid=some (.slice e)) (hN:4<fn.ntmps) (hd:∀t∈writes R0++(writes R2++writes R3),t<fn.ntmps)
  (g0:o0.guard=none) (d0:o0.dst=some 3) (p0:o0.op=.move (.tmp 0)) (g1:o1.guard=none) (d1:o1.dst=some 4) (p1:o1.op=.binOp .eql tid (.tmp 3) (.const (.slice none 0 0)) Sy)
  (h0:∀l,(fF cx 0 bf rL R0 [] (xC (fun _=>none) [.data (.slice e) l])).run=some (0,s0 l)) (hs0:∀l,(s0 l).slots 0=.data (.slice e) l) (hs3:∀l,(s0 l).slots 3=.undef) (Sz:∀l,(s0 l).slots 4=.undef)
  (hA:∀l,NY cx bf fn.results.toList (.pair (.slice e) .unit) (.seq R2 .ret) (s0 l)=some (([]:List e.den),()))
  (hB:∀l:List e.den,fits (len l)=true→NY cx bf fn.results.toList (.pair (.slice e) .unit) (.seq R3 .ret) (s0 l)=some (l,())) :
  Holds P G f ⟨.pair (.slice e) .unit,.pair (.slice e) .unit,fun x=>bif fits (len (α:=e.den) x.1) then some x else none⟩ where
 body:=⟨fn,_,hP,hname,hbody⟩
 calls:=by
  intro I w args x y hI hG hargs hspec;obtain⟨l,u⟩:=x;change List e.den at l;have hfit:fits (len l)=true∧y=(l,()):=by
   change (bif fits (len l) then some ((l,u):(Ty.pair (.slice e) .unit).den) else none)=some y at hspec;cases hq:fits (len l) with
   | true=>rw[hq] at hspec;exact⟨rfl,(ax hspec).symm⟩
   | false=>rw[hq] at hspec;cases hspec
  obtain⟨hfit,rfl⟩:=hfit;obtain⟨cs,rest,hal,rR,mQ⟩:=hargs;obtain rfl:rest=[]:=mQ;obtain⟨cq,PC,_⟩:=(hc.T _ _ hT).slice;have hm:aV (iy G w.heap.size) ⟨I,fun _=>none⟩ (fun _=>none) w :=
   { bG:=fun b Q g=>by
      obtain⟨o,h1,h2⟩:=hG b Q g;exact⟨fun hb=>by have:=ke.1 hb;have:=(Array.getElem?_eq_some_iff.1 h1).1;omega,o,h1,h2⟩
     base:=kS _
     boxes:=fun b bx hb=>by cases hb
     inj:=fun b c blk k k' hb=>absurd rfl hb
     fresh:=fun b blk k hb=>absurd rfl hb
     mW:=hI
     sep:=fun b bx blk k off hb=>by cases hb }
  have hv:ij ⟨I,fun _=>none⟩ (fun _=>none) w [.data (.slice e) l] args.toList:=by
   rw[hal];refine⟨rfl,fun i v x hv hx=>?_⟩;cases i with
   | zero=>obtain rfl:=ax hv;obtain rfl:=ax hx;exact⟨cs,rR,rfl⟩
   | succ i=>cases hv
  show Calls P f args w (Ends w I (.pair (.slice e) .unit) (l,()))
  refine calls_of_wp hP hbody (wp_seq ?_);have hsz:args.size=1:=by have:=congrArg List.length hal;simpa using this
  have SA:args.size+(fn.ntmps-args.size)=fn.ntmps:=by omega
  have G9:=xe hm hv fn.ntmps;rw[SA] at G9;refine mb l8 hc dc vM qG R0 (fun t ht=>hd t (tC _ ht)) (h0 l) G9 fun ff a1 w1 s1 x1 f1=>?_;refine wp_seq (wp_seq (wp_region_list ?_));have Pu:=s1.slots 0;rw[hs0] at Pu;obtain⟨I6,RL,hv1⟩:=cC.1 Pu;have Kc:∃base n cap,a1.tmps.getD 0 Go.undef=.slice base n cap∧(base=none→l=[]):=by
   rcases RL with ⟨⟨base,k1⟩,k2⟩|⟨blk,off,cap,k1,_⟩
   ·exact⟨base,0,0,by rw[hv1,k1];rfl,fun _=>k2⟩
   ·exact⟨_,_,_,by rw[hv1,k1];rfl,fun h=>by cases h⟩
  obtain⟨base,n,cap,hval,hbase⟩:=Kc;have vt:∀{d:Nat},(s0 l).slots d=.undef→(s0 l).put d .undef=s0 l:=by
   intro d hd0;unfold St.put;generalize s0 l=q at hd0⊢;obtain⟨sl,mm⟩:=q
   congr 1
   funext t;cases hb:Nat.beq t d with
   | true=>obtain rfl:=dz hb;exact hd0.symm
   | false=>rfl
  have s2:bZ (iy G w.heap.size) fn.ntmps ff (s0 l) (a1.put (some 3) (.slice base n cap)) w1:=by
   have:=s1.nR (d:=some 3) (v:=.undef) (val:=.slice base n cap) (fun k hk=>by cases hk;omega) ⟨_,rfl⟩;rw[show(s0 l).aD (some 3) .undef=s0 l from vt (hs3 l)] at this;exact this
  have s3:bZ (iy G w.heap.size) fn.ntmps ff (s0 l) ((a1.put (some 3) (.slice base n cap)).put (some 4) (.bool base.isNone)) w1:=by
   have:=s2.nR (d:=some 4) (v:=.undef) (val:=.bool base.isNone) (fun k hk=>by cases hk;omega) ⟨_,rfl⟩;rw[show(s0 l).aD (some 4) .undef=s0 l from vt (Sz l)] at this;exact this
  have e3:(a1.put (some 3) (.slice base n cap)).eval (.tmp 3)=.slice base n cap:=by
   simp[Act.eval,Act.put,s1.size];omega
  have e4:((a1.put (some 3) (.slice base n cap)).put (some 4) (.bool base.isNone)).eval (.tmp 4)=.bool base.isNone:=by
   have:=s2.size;simp only[Act.eval];generalize a1.put (some 3) (.slice base n cap)=a2 at this⊢;simp[Act.put,this,hN]
  show wpList P #[o0,o1] _ [o0,o1] a1 w1
  unfold wpList;rw[show Region.wanted o0 (yielded #[o0,o1] a1.tmps)=true by unfold Region.wanted;rw[g0]];simp only[jr];refine .inl ?_;unfold Oper.wp;have SB:(execOp a1.eval o0).run P w1=.ok (.value (.slice base n cap)) w1:=by
   have:a1.eval (.tmp 0)=.slice base n cap:=hval;simp only[execOp,p0,this];rfl
  rw[SB];show wpList P #[o0,o1] _ [o1] (a1.put o0.dst (.slice base n cap)) w1
  rw[d0];unfold wpList;rw[show Region.wanted o1 (yielded #[o0,o1] (a1.put (some 3) (.slice base n cap)).tmps)=true by unfold Region.wanted;rw[g1]];simp only[jr];refine .inl ?_;unfold Oper.wp;have SC:(execOp (a1.put (some 3) (.slice base n cap)).eval o1).run P w1=.ok (.value (.bool base.isNone)) w1:=by
   have PD:(a1.put (some 3) (.slice base n cap)).eval (.const (.slice none 0 0))=.slice none 0 0:=rfl;have hg:(eqGuard .eql tid (.tmp 3) (.const (.slice none 0 0)) (.slice base n cap) (.slice none 0 0)).run P w1=.ok () w1:=by simp[eqGuard]
   simp only[execOp,p1,e3,PD,Sem.run_bind,hg,_root_.Go.run_eql_slice_nil w1 tid cq base n cap PC,Result.andThen_ok,Sem.run_pure]
  rw[SC];simp only[Oper.upon];rw[d1];refine wpList_nil ?_;have hmem:∀{t},t∈writes R2++writes R3→t∈writes R0++(writes R2++writes R3):=fun h=>sK _ h;refine wp_cond_split (t:=base.isNone) e4 (fun hn=>?_) (fun hn=>?_)
  ·have hl:l=[]:=hbase (by simpa using hn);have:=hA l;rw[←hl] at this;exact Cs (w0:=w) (I:=I) (R:=.pair (.slice e) .unit) (N:=fn.ntmps) l8 hc dc (fun t ht=>hd t (hmem (tC _ (by simpa [writes] using ht)))) this s3 x1 fun a w hq=>hq
  ·exact wp_skip (Cs (w0:=w) (I:=I) (R:=.pair (.slice e) .unit) (N:=fn.ntmps) l8 hc dc (fun t ht=>hd t (hmem (sK _ (by simpa [writes] using ht)))) (hB l hfit) s3 x1 fun a w hq=>hq)
noncomputable def NZ(cx:Ctx)(bf:List Nat)(rs:List ResultVar)(e:Ty)(c:Code)(σ:St):Option (List e.den) :=
 ((fF cx 0 bf rL c [] σ).bind fun r=>bif Nat.beq r.1 1 then((results1 cx r.2 rs).bind fun v=>match qu e r.2 v with
  | some x=>.ret x.2.2.2
  | none=>.fail) else .fail).run
def Ii(w:World)(I:Nat→Nat→Prop)(e:Ty)(l:List e.den)(q:Ending)(w':World):Prop :=
 ∃v I' L,q=.returned v∧C6 w I (fun _=>False) w' I'∧rW w' I' e l L v∧∀blk c,L=some (blk,c)→w.heap.size≤blk
theorem AE{Q:Exit→Act→World→Prop}(l8:P.follows .mixedOrders=true)(hc:eo P cx){G:eH}(dc:jP P G cx){fn:Func}{e:Ty}{l:List e.den}{c:Code}{σ:St}{γ:Gh}{a:Act}{w0 w:World}{N:Nat}{I:Nat→Nat→Prop}
  (hd:∀t∈writes c,t<N) (hf:NZ cx bf fn.results.toList e c σ=some l) (h:bZ (iy G w0.heap.size) N γ σ a w) (hx:Ext (iy G w0.heap.size) ⟨I,fun _=>none⟩ (fun _=>none) w0 γ σ.mem w)
  (hQ:∀a w,bodyPost P fn (Ii w0 I e l) .ret a w→Q .ret a w):c.wp P Q a w:=by
 unfold NZ at hf;obtain⟨r,h1,h2⟩:=bind_some hf;obtain⟨x,σ'⟩:=r;obtain⟨h3,h4⟩:=aq h2;obtain⟨v,h5,h6⟩:=bind_some h4;split at h6
 case h_2=>cases h6
 rename_i o ho;obtain⟨b,aj,bx,l0⟩:=o;obtain rfl:=ax h6;obtain⟨hb,aI,aW,hlk,hro,ez,_⟩:=lZ ho;refine mb l8 hc dc vM qG c hd h1 h fun γ' a' w' s x f=>?_;obtain⟨val,r1,r2⟩:=pq (fn:=fn) hc s h5;have x1:=hx.trans x;obtain⟨hown,he⟩:=Ci (σ:=σ') s.ok ho r2;have key:Ii w0 I e l0 (.returned val) w':=by
  refine⟨val,γ'.I,γ'.loc b,rfl,⟨⟨x1.below.os,x1.below.tape,x1.below.output,x1.below.size,fun k hk=>x1.below.block k hk⟩,x1.I,s.ok.mW,fun b o hi hn=>ke.1 ((x1.mX b o hi).resolve_left hn)⟩,hown,fun blk c hl=>?_⟩;exact ke.1 (s.ok.fresh b blk c (by rw[hb];simp) hl).1
 have:a'.defers=[]∧∃v1,(results fn a'.tmps).run P w'=.ok v1 w'∧Ii w0 I e l0 (.returned v1) w':=⟨s.defers,val,r1,key⟩;have Qz:_=1:=dz h3;dsimp only at Qz;subst Qz;exact hQ _ _ this
theorem JA(l8:P.follows .mixedOrders=true)(hc:eo P cx)(dc:jP P u9 cx){f tid RM:Nat}{fn:Func}{e:Ty}{R0 R2 R3:Code}{o0 o1:Oper}{Sy:TypeId}{s0:List e.den→St}
 (hP:P.funcs[f]?=some fn) (hname:(fn.name == "runtime.NumGoroutine")=false)
 (hbody:fn.body=some (.seq R0 (.seq (.seq (.region RM #[o0,o1] false) (.cond (.tmp 4) (.seq R2 .ret) .skip)) (.seq R3 .ret))))
 (hT:find cx.T tid=some (.slice e)) (hN:4<fn.ntmps) (hd:∀t∈writes R0++(writes R2++writes R3),t<fn.ntmps)
 (g0:o0.guard=none) (d0:o0.dst=some 3) (p0:o0.op=.move (.tmp 0)) (g1:o1.guard=none) (d1:o1.dst=some 4) (p1:o1.op=.binOp .eql tid (.tmp 3) (.const (.slice none 0 0)) Sy)
 (h0:∀l,(fF cx 0 bf rL R0 [] (xC (fun _=>none) [.data (.slice e) l])).run=some (0,s0 l)) (hs0:∀l,(s0 l).slots 0=.data (.slice e) l) (hs3:∀l,(s0 l).slots 3=.undef) (Sz:∀l,(s0 l).slots 4=.undef)
 (hA:∀l,NZ cx bf fn.results.toList e (.seq R2 .ret) (s0 l)=some [])
 (hB:∀l:List e.den,fits (len l)=true→NZ cx bf fn.results.toList e (.seq R3 .ret) (s0 l)=some l) :
 mP P f (.clone e):=by
 refine⟨⟨fn,_,hP,hname,hbody⟩,fun I w args l hI hargs hfit=>?_⟩;obtain⟨cs,rest,hal,rR,mQ⟩:=hargs;obtain rfl:rest=[]:=mQ;obtain⟨cq,PC,_⟩:=(hc.T _ _ hT).slice;have hm:aV (iy u9 w.heap.size) ⟨I,fun _=>none⟩ (fun _=>none) w :=
  { bG:=fun b Q g=>g.elim
    base:=kS _
    boxes:=fun b bx hb=>by cases hb
    inj:=fun b c blk k k' hb=>absurd rfl hb
    fresh:=fun b blk k hb=>absurd rfl hb
    mW:=hI
    sep:=fun b bx blk k off hb=>by cases hb }
 have hv:ij ⟨I,fun _=>none⟩ (fun _=>none) w [.data (.slice e) l] args.toList:=by
  rw[hal];refine⟨rfl,fun i v x hv hx=>?_⟩;cases i with
  | zero=>obtain rfl:=ax hv;obtain rfl:=ax hx;exact⟨cs,rR,rfl⟩
  | succ i=>cases hv
 show Calls P f args w (Ii w I e l)
 refine calls_of_wp hP hbody (wp_seq ?_);have hsz:args.size=1:=by have:=congrArg List.length hal;simpa using this
 have SA:args.size+(fn.ntmps-args.size)=fn.ntmps:=by omega
 have G9:=xe hm hv fn.ntmps;rw[SA] at G9;refine mb l8 hc dc vM qG R0 (fun t ht=>hd t (tC _ ht)) (h0 l) G9 fun ff a1 w1 s1 x1 f1=>?_;refine wp_seq (wp_seq (wp_region_list ?_));have Pu:=s1.slots 0;rw[hs0] at Pu;obtain⟨I6,RL,hv1⟩:=cC.1 Pu;have Kc:∃base n cap,a1.tmps.getD 0 Go.undef=.slice base n cap∧(base=none→l=[]):=by
  rcases RL with ⟨⟨base,k1⟩,k2⟩|⟨blk,off,cap,k1,_⟩
  ·exact⟨base,0,0,by rw[hv1,k1];rfl,fun _=>k2⟩
  ·exact⟨_,_,_,by rw[hv1,k1];rfl,fun h=>by cases h⟩
 obtain⟨base,n,cap,hval,hbase⟩:=Kc;have vt:∀{d:Nat},(s0 l).slots d=.undef→(s0 l).put d .undef=s0 l:=by
  intro d hd0;unfold St.put;generalize s0 l=q at hd0⊢;obtain⟨sl,mm⟩:=q
  congr 1
  funext t;cases hb:Nat.beq t d with
  | true=>obtain rfl:=dz hb;exact hd0.symm
  | false=>rfl
 have s2:bZ (iy u9 w.heap.size) fn.ntmps ff (s0 l) (a1.put (some 3) (.slice base n cap)) w1:=by
  have:=s1.nR (d:=some 3) (v:=.undef) (val:=.slice base n cap) (fun k hk=>by cases hk;omega) ⟨_,rfl⟩;rw[show(s0 l).aD (some 3) .undef=s0 l from vt (hs3 l)] at this;exact this
 have s3:bZ (iy u9 w.heap.size) fn.ntmps ff (s0 l) ((a1.put (some 3) (.slice base n cap)).put (some 4) (.bool base.isNone)) w1:=by
  have:=s2.nR (d:=some 4) (v:=.undef) (val:=.bool base.isNone) (fun k hk=>by cases hk;omega) ⟨_,rfl⟩;rw[show(s0 l).aD (some 4) .undef=s0 l from vt (Sz l)] at this;exact this
 have e3:(a1.put (some 3) (.slice base n cap)).eval (.tmp 3)=.slice base n cap:=by
  simp[Act.eval,Act.put,s1.size];omega
 have e4:((a1.put (some 3) (.slice base n cap)).put (some 4) (.bool base.isNone)).eval (.tmp 4)=.bool base.isNone:=by
  have:=s2.size;simp only[Act.eval];generalize a1.put (some 3) (.slice base n cap)=a2 at this⊢;simp[Act.put,this,hN]
 show wpList P #[o0,o1] _ [o0,o1] a1 w1
 unfold wpList;rw[show Region.wanted o0 (yielded #[o0,o1] a1.tmps)=true by unfold Region.wanted;rw[g0]];simp only[jr];refine .inl ?_;unfold Oper.wp;have SB:(execOp a1.eval o0).run P w1=.ok (.value (.slice base n cap)) w1:=by
  have:a1.eval (.tmp 0)=.slice base n cap:=hval;simp only[execOp,p0,this];rfl
 rw[SB];show wpList P #[o0,o1] _ [o1] (a1.put o0.dst (.slice base n cap)) w1
 rw[d0];unfold wpList;rw[show Region.wanted o1 (yielded #[o0,o1] (a1.put (some 3) (.slice base n cap)).tmps)=true by unfold Region.wanted;rw[g1]];simp only[jr];refine .inl ?_;unfold Oper.wp;have SC:(execOp (a1.put (some 3) (.slice base n cap)).eval o1).run P w1=.ok (.value (.bool base.isNone)) w1:=by
  have PD:(a1.put (some 3) (.slice base n cap)).eval (.const (.slice none 0 0))=.slice none 0 0:=rfl;have hg:(eqGuard .eql tid (.tmp 3) (.const (.slice none 0 0)) (.slice base n cap) (.slice none 0 0)).run P w1=.ok () w1:=by simp[eqGuard]
  simp only[execOp,p1,e3,PD,Sem.run_bind,hg,_root_.Go.run_eql_slice_nil w1 tid cq base n cap PC,Result.andThen_ok,Sem.run_pure]
 rw[SC];simp only[Oper.upon];rw[d1];refine wpList_nil ?_;have hmem:∀{t},t∈writes R2++writes R3→t∈writes R0++(writes R2++writes R3):=fun h=>sK _ h;refine wp_cond_split (t:=base.isNone) e4 (fun hn=>?_) (fun hn=>?_)
 ·have hl:l=[]:=hbase (by simpa using hn);have:=hA l;rw[←hl] at this;exact AE (w0:=w) (I:=I) (N:=fn.ntmps) l8 hc dc (fun t ht=>hd t (hmem (tC _ (by simpa [writes] using ht)))) this s3 x1 fun a w hq=>hq
 ·exact wp_skip (AE (w0:=w) (I:=I) (N:=fn.ntmps) l8 hc dc (fun t ht=>hd t (hmem (sK _ (by simpa [writes] using ht)))) (hB l hfit) s3 x1 fun a w hq=>hq)
end
end Go.Ge
namespace Go.Ge
variable [Lp]
theorem de{S R:Type}{f:S→Option (S⊕R)}{r:R}:∀(k:Nat) (st:Nat→S),(∀i,i<k→f (st i)=some (.inl (st (i+1))))→f (st k)=some (.inr r)→Loop f (st 0)=some r:=by
 intro k;induction k with
 | zero=>intro st _ h;rw[cL,h];rfl
 | succ k ih =>
   intro st h1 h2;rw[cL,h1 0 (by omega)];exact ih (fun i=>st (i+1)) (fun i hi=>h1 (i+1) (by omega)) h2
theorem ck{i:Nat}(h:i<4611686018427387904):bA .i64 (i:Int) 1=((i+1:Nat):Int):=by
 unfold bA;simp[IntKind.wrap,IntKind.min,IntKind.max,IntKind.signed,IntKind.bits];omega
theorem vN{α:Type}(l:List α)(i:Nat):idx l (i:Int)=l[i]?:=by
 unfold idx;rw[ek (by omega)];simp
theorem JB{n:Nat}(h:n≤4294967296):fits (n:Int)=true:=by
 unfold fits;simp;omega
theorem af{α:Type}(x y:α):aO true x y=x:=rfl
theorem ag{α:Type}(x y:α):aO false x y=y:=rfl
theorem aa{α β:Type}(x:α)(f:α→Option β):ah (some x) f=f x:=rfl
theorem vO(a:List UInt8):ig a a=true:=by simp[ig]
theorem si(a:Int):b9 a a=true:=by simp[b9]
theorem AF(a:Bool):F2 a a=true:=by simp[F2]
theorem aK:nt true=false:=rfl
theorem aP:nt false=true:=rfl
theorem PE{P:Program}{tys:List (Nat×Ty)}(h:(tys.all fun p=>eE P p.2 false p.1 0 [])=true):∀tid t,find tys tid=some t→Den P t tid:=fun tid t hf=>by
 rw[yb] at h;exact h _ (mc hf)
theorem Ct{l:List Nat}{t:Nat}(h:b6 l t=true):t∈l:=vq.1 h
def Q6(P:Program)(tid:TypeId):Bool:=(match P.underlying tid with|some (.pointer _)=>true|some (.func ..)=>true|_=>false)&&(match P.info? tid with|some i=>Nat.beq i.size 1&&(match i.zero with|some z=>z.oneCell'|none=>false)|none=>false)
theorem N0{P:Program}{lW:List Nat}(h:(lW.all fun t=>Q6 P t)=true):∀tid,b6 lW tid=true→(∀w,(isAgg tid).run P w=.ok false w)∧(∀w,(Go.sizeOf tid).run P w=.ok 1 w)∧∃z,(∀w,(zeroValue tid).run P w=.ok z w)∧z.oneCell'=true:=fun tid ht=>by
 rw[yb] at h;have:=h tid (Ct ht);simp only[Q6,cP] at this;obtain⟨h1,h2⟩:=this;refine⟨?_,?_,?_⟩
 ·intro w;split at h1
  ·rename_i hu;simp[isAgg,run_underlying hu]
  ·rename_i hu;simp[isAgg,run_underlying hu]
  ·cases h1
 ·intro w;split at h2
  ·rename_i i hi;simp only[cP] at h2;have:=dz h2.1;simp[Go.sizeOf,typeInfo,hi,this]
  ·cases h2
 ·split at h2
  ·rename_i i hi;simp only[cP] at h2;obtain⟨_,h3⟩:=h2;split at h3
   ·rename_i z hz;exact⟨z,fun w=>by simp[zeroValue,typeInfo,hi,hz],h3⟩
   ·cases h3
  ·cases h2
def Q7(P:Program)(tid:TypeId):Bool:=match P.underlying tid with|some (.pointer _)=>true|_=>false
theorem N3{P:Program}{en:List Nat}(h:(en.all fun t=>Q7 P t)=true):∀tid,b6 en tid=true→∃e,P.underlying tid=some (.pointer e):=fun tid ht=>by
 rw[yb] at h;have:=h tid (Ct ht);unfold Q7 at this;split at this
 ·rename_i e he;exact⟨e,he⟩
 ·cases this
theorem N4{P:Program}:∀p∈([]:List (Nat×Func)),P.funcs[p.1]?=some p.2:=fun p h=>by cases h
theorem az{P:Program}{f:Nat}{fn:Func}{l:List (Nat×Func)}(h:P.funcs[f]?=some fn)(hl:∀p∈l,P.funcs[p.1]?=some p.2):∀p∈(f,fn)::l,P.funcs[p.1]?=some p.2:=fun p hp=>by
 rcases List.mem_cons.1 hp with rfl|hp
 ·exact h
 ·exact hl p hp
theorem PF{P:Program}{l:List (Nat×Func)}(h:∀p∈l,P.funcs[p.1]?=some p.2):∀f fn,find l f=some fn→P.funcs[f]?=some fn:=fun f fn hf=>h _ (mc hf)
theorem aL{P:Program}{G:eH}:∀p∈([]:List (Nat×jt)),Holds P G p.1 p.2:=fun p h=>by cases h
theorem au{P:Program}{G:eH}{f:Nat}{c:jt}{l:List (Nat×jt)}(h:Holds P G f c)(hl:∀p∈l,Holds P G p.1 p.2):∀p∈(f,c)::l,Holds P G p.1 p.2:=fun p hp=>by
 rcases List.mem_cons.1 hp with rfl|hp
 ·exact h
 ·exact hl p hp
theorem aE{P:Program}{G:eH}:∀p∈([]:List (Nat×jX)),cH P G p.1 p.2:=fun p h=>by cases h
theorem aC{P:Program}{G:eH}{f:Nat}{c:jX}{l:List (Nat×jX)}(h:cH P G f c)(hl:∀p∈l,cH P G p.1 p.2):∀p∈(f,c)::l,cH P G p.1 p.2:=fun p hp=>by
 rcases List.mem_cons.1 hp with rfl|hp
 ·exact h
 ·exact hl p hp
theorem Ij{P:Program}:∀p∈([]:List (Nat×Ka)),mP P p.1 p.2:=fun p hp=>by cases hp
theorem vP{P:Program}{f:Nat}{s:Ka}{l:List (Nat×Ka)}(h:mP P f s)(hl:∀p∈l,mP P p.1 p.2):∀p∈(f,s)::l,mP P p.1 p.2:=fun p hp=>by
 rcases List.mem_cons.1 hp with rfl|hp
 ·exact h
 ·exact hl p hp
theorem Cu{α:Type}:∀{l:List (String×α)} {k:String} {a:α},Eh l k=some a→(k,a)∈l
 | [],_,_,h=>by cases h
 | (i,a)::r,k,b,h=>by
   unfold Eh at h;by_cases e:i=k
   ·rw[Ba e] at h;obtain rfl:=e;obtain rfl:=ax h;exact nG ..
   ·rw[yc e] at h;exact nF _ (Cu h)
theorem aM{P:Program}{G:eH}:∀p∈([]:List (String×jt)),zN P G p.1 p.2:=fun p h=>by cases h
theorem vQ{P:Program}{G:eH}{cx:Ctx}(h:∀p∈cx.fH,Holds P G p.1 p.2)(k:∀p∈cx.bU,cH P G p.1 p.2)(s:∀p∈cx.D2,mP P p.1 p.2)(v:∀p∈cx.inv,zN P G p.1 p.2):jP P G cx :=
 ⟨fun f c hf=>h _ (mc hf),fun f c hf=>k _ (mc hf),fun f c hf=>s _ (mc hf),fun n c hf=>v _ (Cu hf)⟩
theorem N5{P:Program}{mU:List (Nat×List jl)}(h:(mU.all fun p=>Bb P p.1 p.2)=true):∀tid fs,find mU tid=some fs→Bb P tid fs=true:=fun tid fs hf=>by
 rw[yb] at h;exact h _ (mc hf)
def TM(P:Program)(p:Nat×Nat):Bool:=match P.underlying p.1 with|some (.slice e)=>Nat.beq e p.2|_=>false
theorem PG{P:Program}{els:List (Nat×Nat)}(h:(els.all fun p=>TM P p)=true):∀tid e,find els tid=some e→P.underlying tid=some (.slice e):=fun tid e hf=>by
 rw[yb] at h;have:=h _ (mc hf);unfold TM at this;split at this
 ·rename_i e' he;rw[he,dz this]
 ·cases this
end Go.Ge
namespace Go.Ge
open RowKit
theorem yC(c:UInt8):∀l:List UInt8,-1≤Lib.indexByte l c∧Lib.indexByte l c<l.length:=by
 intro l;induction l with
 | nil=>exact⟨by simp[Lib.indexByte],by simp[Lib.indexByte]⟩
 | cons b r ih =>
   unfold Lib.indexByte;split
   ·exact⟨by simp,by simp only[kV];omega⟩
   ·split
    ·exact⟨by simp,by simp only[kV];omega⟩
    ·simp only[kV];omega
theorem DG{P:Program}{f:Nat}{fn:Func}(hP:P.funcs[f]?=some fn)(hname:(fn.name == "runtime.NumGoroutine")=false)(hb:fn.body.isSome=true) :
  ∃fn code,P.funcs[f]?=some fn∧(fn.name == "runtime.NumGoroutine")=false∧fn.body=some code:=by
 obtain⟨code,hc⟩:=Option.isSome_iff_exists.1 hb;exact⟨fn,code,hP,hname,hc⟩
theorem Fq{w:World}{b:Nat}{p q v:Value}{T:TypeId}{fr:Nat×Nat}(h:w.heap[b]?=some (.cells #[p,v] T fr)):w.setCell ⟨b,0,none⟩ q=w.setRow b #[q,v]:=by
 unfold World.setCell World.setRow
 congr 1
 apply Array.ext_getElem?;intro i;simp only[Kt];by_cases e:b=i
 ·subst e;simp[h]
 ·simp[e]
theorem oz.refl(og:Option Nat)(w:World):oz og w w:=⟨rfl,rfl,rfl,kS _,fun _ _ _=>rfl,fun _ _ _=>rfl⟩
theorem oz.weaken{og:Option Nat}{w w':World}(h:oz none w w'):oz og w w':=⟨h.os,h.tape,h.output,h.size,fun k hk _=>h.block k hk (by simp),h.cell⟩
theorem oz.drew{og:Option Nat}{w w':World}(h:oz og w w'):oz og w w'.drew:=⟨h.os,h.tape,h.output,h.size,h.block,h.cell⟩
theorem oz.alloc{og:Option Nat}{w w':World}(h:oz og w w')(o:Obj):oz og w (w'.alloc o) where
 os:=h.os
 tape:=h.tape
 output:=h.output
 size:=jq h.size (by simp)
 block:=fun k hk hn=>(cu w' o k (ud hk h.size)).trans (h.block k hk hn)
 cell:=fun k c hk=>(ep (cu w' o k (ud hk h.size))).trans (h.cell k c hk)
theorem oz.freeze{g:Nat}{w w':World}(h:oz (some g) w w')(n:Nat):oz (some g) w (w'.freeze ⟨g,0,none⟩ n):=by
 unfold World.freeze;split
 ·exact h
 ·refine⟨h.os,h.tape,h.output,jq h.size (by simp),fun k hk hn=>?_,fun k c hk=>?_⟩
  ·have hne:¬g=k:=fun e=>hn (by rw[e]);rw[←h.block k hk hn];simp[Kt,hne]
  ·rw[←h.cell k c hk];by_cases e:g=k
   ·subst e;simp only[World.cell?,Kt,jr];cases w'.heap[g]? with
    | none=>rfl
    | some o=>cases o<;>rfl
   ·have hne:¬g=k:=e;simp[World.cell?,Kt,hne]
theorem DH{P:Program}{G:eH}{f:Nat}{fn:Func}{spec:List UInt8→Int→Int}(hP:P.funcs[f]?=some fn)(hname:(fn.name == "runtime.NumGoroutine")=false)(hb:fn.body.isSome=true)
  (hr:∀s c,(-1≤spec s c∧spec s c<s.length))
  (h:∀(s:ByteArray) (c:Int) (w:World),Calls P f #[.string s,.int .u8 c] w fun e w'=>e=.returned (.int .i64 (spec s.data.toList c))∧w'=w) :
  Holds P G f ⟨.pair .str (.pair (.int .u8) .unit),.pair (.int .i64) .unit,fun x=>some (spec x.1 x.2.1,())⟩ where
 body:=by
  obtain⟨code,hc⟩:=Option.isSome_iff_exists.1 hb;exact⟨fn,code,hP,hname,hc⟩
 calls:=by
  intro I w args x y hI hG hargs hspec;obtain⟨s,c,u⟩:=x;change List UInt8 at s;change Int at c;obtain rfl:((spec s c:Int),())=y:=ax hspec;obtain⟨cs,rest,hal,rR,Kd,Q8,SD,Q9,PI⟩:=hargs;obtain rfl:Q8=[]:=PI;obtain⟨rfl,hl⟩:=rR;obtain⟨rfl,_⟩:=Q9;obtain rfl:args=#[.string ⟨s.toArray⟩,.int .u8 c]:=by
   apply Array.toList_inj.1;rw[hal,SD];rfl
  refine(h ⟨s.toArray⟩ c w).mono ?_;rintro e w' ⟨rfl,rfl⟩;refine⟨_,I,rfl,Below.refl _ _,fun b o h=>h,hI,fun b o h1 h2=>absurd h1 h2,?_⟩;have hs:=hr s c;have hm:s.length≤maxLen:=hl;refine⟨[.int .i64 (spec s c)],⟨rfl,?_,?_⟩,rfl⟩
  ·have:(IntKind.i64).min=-9223372036854775808:=by decide
   show(IntKind.i64).min≤spec s c
   omega
  ·have:(IntKind.i64).max=9223372036854775807:=by decide
   have:maxLen=140737488355328∨maxLen≤9223372036854775807:=by right;decide
   show spec s c≤(IntKind.i64).max
   omega
end Go.Ge
namespace Go.Ge
open RowKit Go.Proofs Go.Shelf
end Go.Ge
namespace Go.Ge
open RowKit
def Hf(k:IntKind)(zs:List Int):Obj→Prop:=fun o=>∃t fr,o=.cells (zs.map fun z=>Value.int k z).toArray t fr
theorem Fs{P:Program}{G:eH}{w:World}{g:Nat}{name:String}{k:IntKind}{zs:List Int}(hg:P.globalNamed name=some g)(h:G g (Hf k zs))(ok:nQ G w):Lib.TabIs P w name k zs:=by
 obtain⟨o,h1,t,fr,rfl⟩:=ok g _ h;simp[Lib.TabIs,World.var?,hg,h1]
theorem Ft{P:Program}{w:World}{g:Nat}{name:String}{k:IntKind}{zs:List Int}(hg:P.globalNamed name=some g)(h:Lib.TabIs P w name k zs):∃o,w.heap[g]?=some o∧Hf k zs o:=by
 simp only[Lib.TabIs,World.var?,hg,CF] at h;split at h
 ·rename_i cs t fr he;obtain rfl:=ax h;exact⟨_,he,_,_,rfl⟩
 ·cases h
theorem Hg{P:Program}{G:eH}{f:Nat}{fn:Func}(hP:P.funcs[f]?=some fn)(hname:(fn.name == "runtime.NumGoroutine")=false)(hb:fn.body.isSome=true)
  (ht:∀w,nQ G w→Lib.TabIs P w "internal/strconv.uint64pow10" .u64 Lib.pow10Tab)
  (h:∀(n:Int),-9223372036854775808≤n→n≤9223372036854775807→∀w,Lib.TabIs P w "internal/strconv.uint64pow10" .u64 Lib.pow10Tab →
   Calls P f #[.int .i64 n] w fun e w'=>e=.returned (.string ⟨(Lib.itoa n).toArray⟩)∧Below w.heap.size w w') :
  Holds P G f ⟨.pair (.int .i64) .unit,.pair .str .unit,fun x=>some (Lib.itoa x.1,())⟩ where
 body:=by
  obtain⟨code,hc⟩:=Option.isSome_iff_exists.1 hb;exact⟨fn,code,hP,hname,hc⟩
 calls:=by
  intro I w args x y hI hG hargs hspec;obtain⟨n,u⟩:=x;change Int at n;obtain rfl:=ax hspec;obtain⟨cs,rest,hal,rR,mQ⟩:=hargs;obtain rfl:rest=[]:=mQ;obtain⟨rfl,h0,h1⟩:=rR;obtain rfl:args=#[.int .i64 n]:=by
   apply Array.toList_inj.1;rw[hal];rfl
  have b0:-9223372036854775808≤n:=by
   have:(IntKind.i64).min=-9223372036854775808:=by decide
   exact this▸h0
  have b1:n≤9223372036854775807:=by
   have:(IntKind.i64).max=9223372036854775807:=by decide
   exact this▸h1
  have hl:=Lib.itoa_length_le n b0 b1;refine(h n b0 b1 w (ht w hG)).mono ?_;rintro e w' ⟨rfl,hw⟩;exact⟨_,I,rfl,hw,fun b o h=>h,fun b o h=>ud (hI b o h) hw.size,fun b o h1 h2=>absurd h1 h2,[.string ⟨(Lib.itoa n).toArray⟩],⟨rfl,jq hl (by decide)⟩,rfl⟩
theorem Holds.weaken{P:Program}{G:eH}{f:Nat}{A R:Ty}{spec spec':A.den→Option R.den}(h:Holds P G f ⟨A,R,spec⟩)(hs:∀x y,spec' x=some y→spec x=some y):Holds P G f ⟨A,R,spec'⟩ where
 body:=h.body
 calls:=fun I w args x y hI hG ha hx=>h.calls I w args x y hI hG ha (hs x y hx)
theorem cH.weaken{P:Program}{G:eH}{f:Nat}{ps:List Bool}{A R:Ty}{U:OT}{spec spec':A.den×U.den→Option (R.den×U.den)}(h:cH P G f ⟨ps,A,U,R,spec⟩)(hs:∀x y,spec' x=some y→spec x=some y):cH P G f ⟨ps,A,U,R,spec'⟩ where
 body:=h.body
 calls:=fun I w args en bs ls x u y hI hG hb ha ho hn hx=>h.calls I w args en bs ls x u y hI hG hb ha ho hn (hs (x,u) y hx)
theorem JC{P:Program}{G:eH}{f:Nat}{fn:Func}(hP:P.funcs[f]?=some fn)(hname:(fn.name == "runtime.NumGoroutine")=false)(hb:fn.body.isSome=true){A R:Ty}{F:(A.den→Option R.den)→A.den→Option R.den}
  (hF:∀rec,Holds P G f ⟨A,R,rec⟩→Holds P G f ⟨A,R,F rec⟩) (S:Nat→A.den→Option R.den) (h0:∀x,S 0 x=none) (hS:∀k x y,S (k+1) x=some y→F (S k) x=some y)
  {spec:A.den→Option R.den} (hs:∀x y,spec x=some y→∃k,S k x=some y):Holds P G f ⟨A,R,spec⟩:=by
 have hbody:∃fn code,P.funcs[f]?=some fn∧(fn.name == "runtime.NumGoroutine")=false∧fn.body=some code:=by
  obtain⟨code,hc⟩:=Option.isSome_iff_exists.1 hb;exact⟨fn,code,hP,hname,hc⟩
 have all:∀k,Holds P G f ⟨A,R,S k⟩:=by
  intro k;induction k with
  | zero=>exact⟨hbody,fun I w args x y _ _ _ hx=>by have:=h0 x;rw[show S 0 x=some y from hx] at this;cases this⟩
  | succ k ih=>exact(hF _ ih).weaken (hS k)
 exact⟨hbody,fun I w args x y hI hG ha hx=>by
  obtain⟨k,hk⟩:=hs x y hx;exact(all k).calls I w args x y hI hG ha hk⟩
end Go.Ge
namespace Go.Ge
open RowKit Go.Sort Go.Proofs
end Go.Ge
namespace Go.Ge
variable [Lp]
open RowKit Go.Shelf Go.Lib Go.Proofs
structure TN (P:Program) (ρ:Ren) (nm:String) (k:Nat):Prop where
 mixed:P.follows .mixedOrders=true
 f22:P.funcs[ρ.f 22]?=some { Body2.n22 ρ with name:=nm }
 ov:∀(xs:Array Value) (w:World),(callFunc (ρ.f 29) xs).run P w=((Extern.SlicesOverlaps.overlaps #[(ρ.t 24),(ρ.t 24)] #[(ρ.t 4)] xs).run P w).andThen fun v w'=>.ok (.value v) w'
 t3:P.underlying (ρ.t 3)=some (TypeDesc.int IntKind.i64)
 t4:P.underlying (ρ.t 4)=some TypeDesc.bool
 t24:P.underlying (ρ.t 24)=some (TypeDesc.slice (ρ.t 9))
 z9:∀w,(Go.sizeOf (ρ.t 9)).run P w=.ok k w
 i9:(P.info? (ρ.t 9)).map (·.size)=some k
variable {P:Program} {ρ:Ren} {nm:String} {k:Nat}
end Go.Ge
namespace Go.Ge
variable [Lp]
open RowKit Go.Shelf Go.Lib Go.Proofs
variable {P:Program} {ρ:Ren} {nm:String}
end Go.Ge
