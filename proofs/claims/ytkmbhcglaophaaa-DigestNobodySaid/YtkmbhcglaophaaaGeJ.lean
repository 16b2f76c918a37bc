/- A ghost interpreter of the model's code, and that it tells the truth: part 10. It says of a function of plain data what a call of it comes to. -/
import Derived.Test.YtkmbhcglaophaaaGeI
import Derived.Lib.LazyBuf
import Derived.Lib.Bytealg
import Derived.WalkKit
import Derived.Shelf.Strings.SplitCore
import Derived.Shelf.Strings.Search3
import Derived.Shelf.Strings.Count
import Derived.Lib.SplitLaws
import Derived.Lib.Join
import Derived.Lib.IndexBytes
import Derived.Shelf.Strconv.Itoa3
import Derived.Shelf.Strconv.ErrVarParseInt
import Derived.Lib.AppendIntMem
import Derived.Lib.ItoaLen
import Derived.Lib.LaidTab
import Derived.LaidSub
import Derived.Sort.EncStr
import Derived.Sort.Grow
import Derived.Lib.SlicesCompact
import Derived.Shelf.Spec.SlicesInsertGrow
set_option linter.unusedSectionVars false
set_option linter.unusedVariables false
set_option linter.unusedSimpArgs false
namespace Go.Ge
variable [Lp]
open RowKit
section
variable {P:Program} {cx:Ctx} {bf:List Nat}
end
end Go.Ge
namespace Go.Ge
variable [Lp]
theorem cM{S R:Type}{f:S→Option (S⊕R)}{r:R}:∀(k:Nat) (st:Nat→S),(∀i,i<k→f (st i)=some (.inl (st (i+1))))→f (st k)=some (.inr r)→Loop f (st 0)=some r:=by
 intro k;induction k with
 | zero=>intro st _ h;rw[jJ,h];rfl
 | succ k ih =>
   intro st h1 h2;rw[jJ,h1 0 (by omega)];exact ih (fun i=>st (i+1)) (fun i hi=>h1 (i+1) (by omega)) h2
theorem dY{i:Nat}(h:i<4611686018427387904):bw .i64 (i:Int) 1=((i+1:Nat):Int):=by
 unfold bw;simp[IntKind.wrap,IntKind.min,IntKind.max,IntKind.signed,IntKind.bits];omega
theorem uw{α:Type}(l:List α)(i:Nat):idx l (i:Int)=l[i]?:=by
 unfold idx;rw[gd (by omega)];simp
theorem aq{α:Type}(x y:α):br true x y=x:=rfl
theorem ax{α:Type}(x y:α):br false x y=y:=rfl
theorem aa{α β:Type}(x:α)(f:α→Option β):aj (some x) f=f x:=rfl
theorem nU(a:List UInt8):qd a a=true:=by simp[qd]
theorem ri(a:Int):iG a a=true:=by simp[iG]
theorem fH:nt true=false:=rfl
theorem eR:nt false=true:=rfl
theorem Kn{P:Program}{tys:List (Nat×Ty)}(h:(tys.all fun p=>cP P p.2 false p.1 0 [])=true):∀tid t,find tys tid=some t→Den P t tid:=fun tid t hf=>by
 rw[tr] at h;exact h _ (jl hf)
theorem ya{l:List Nat}{t:Nat}(h:bC l t=true):t∈l:=qH.1 h
def Ly(P:Program)(tid:TypeId):Bool:=(match P.underlying tid with|some (.pointer _)=>true|some (.func ..)=>true|_=>false)&&(match P.info? tid with|some i=>Nat.beq i.size 1&&(match i.zero with|some z=>z.oneCell'|none=>false)|none=>false)
theorem IG{P:Program}{jy:List Nat}(h:(jy.all fun t=>Ly P t)=true):∀tid,bC jy tid=true→(∀w,(isAgg tid).run P w=.ok false w)∧(∀w,(Go.sizeOf tid).run P w=.ok 1 w)∧∃z,(∀w,(zeroValue tid).run P w=.ok z w)∧z.oneCell'=true:=fun tid ht=>by
 rw[tr] at h;have:=h tid (ya ht);simp only[Ly,bY] at this;obtain⟨h1,h2⟩:=this;refine⟨?_,?_,?_⟩
 ·intro w;split at h1
  ·rename_i hu;simp[isAgg,run_underlying hu]
  ·rename_i hu;simp[isAgg,run_underlying hu]
  ·cases h1
 ·intro w;split at h2
  ·rename_i i hi;simp only[bY] at h2;have:=cB h2.1;simp[Go.sizeOf,typeInfo,hi,this]
  ·cases h2
 ·split at h2
  ·rename_i i hi;simp only[bY] at h2;obtain⟨_,h3⟩:=h2;split at h3
   ·rename_i z hz;exact⟨z,fun w=>by simp[zeroValue,typeInfo,hi,hz],h3⟩
   ·cases h3
  ·cases h2
def LA(P:Program)(tid:TypeId):Bool:=match P.underlying tid with|some (.pointer _)=>true|_=>false
theorem II{P:Program}{cO:List Nat}(h:(cO.all fun t=>LA P t)=true):∀tid,bC cO tid=true→∃e,P.underlying tid=some (.pointer e):=fun tid ht=>by
 rw[tr] at h;have:=h tid (ya ht);unfold LA at this;split at this
 ·rename_i e he;exact⟨e,he⟩
 ·cases this
theorem IJ{P:Program}:∀p∈([]:List (Nat×Func)),P.funcs[p.1]?=some p.2:=fun p h=>by cases h
theorem aS{P:Program}{f:Nat}{fn:Func}{l:List (Nat×Func)}(h:P.funcs[f]?=some fn)(hl:∀p∈l,P.funcs[p.1]?=some p.2):∀p∈(f,fn)::l,P.funcs[p.1]?=some p.2:=fun p hp=>by
 rcases List.mem_cons.1 hp with rfl|hp
 ·exact h
 ·exact hl p hp
theorem Ko{P:Program}{l:List (Nat×Func)}(h:∀p∈l,P.funcs[p.1]?=some p.2):∀f fn,find l f=some fn→P.funcs[f]?=some fn:=fun f fn hf=>h _ (jl hf)
theorem bG{P:Program}{G:eN}:∀p∈([]:List (Nat×kJ)),Holds P G p.1 p.2:=fun p h=>by cases h
theorem aN{P:Program}{G:eN}{f:Nat}{c:kJ}{l:List (Nat×kJ)}(h:Holds P G f c)(hl:∀p∈l,Holds P G p.1 p.2):∀p∈(f,c)::l,Holds P G p.1 p.2:=fun p hp=>by
 rcases List.mem_cons.1 hp with rfl|hp
 ·exact h
 ·exact hl p hp
theorem bh{P:Program}{G:eN}:∀p∈([]:List (Nat×pJ)),fR P G p.1 p.2:=fun p h=>by cases h
theorem gn{P:Program}{G:eN}{f:Nat}{c:pJ}{l:List (Nat×pJ)}(h:fR P G f c)(hl:∀p∈l,fR P G p.1 p.2):∀p∈(f,c)::l,fR P G p.1 p.2:=fun p hp=>by
 rcases List.mem_cons.1 hp with rfl|hp
 ·exact h
 ·exact hl p hp
theorem IK{P:Program}:∀p∈([]:List (Nat×EZ)),ng P p.1 p.2:=fun p hp=>by cases hp
theorem Be{P:Program}{f:Nat}{s:EZ}{l:List (Nat×EZ)}(h:ng P f s)(hl:∀p∈l,ng P p.1 p.2):∀p∈(f,s)::l,ng P p.1 p.2:=fun p hp=>by
 rcases List.mem_cons.1 hp with rfl|hp
 ·exact h
 ·exact hl p hp
theorem yb{α:Type}:∀{l:List (String×α)} {k:String} {a:α},zZ l k=some a→(k,a)∈l
 | [],_,_,h=>by cases h
 | (i,a)::r,k,b,h=>by
   unfold zZ at h;by_cases e:i=k
   ·rw[FC e] at h;obtain rfl:=e;obtain rfl:=au h;exact jU ..
   ·rw[Df e] at h;exact jT _ (yb h)
theorem bH{P:Program}{G:eN}:∀p∈([]:List (String×kJ)),vf P G p.1 p.2:=fun p h=>by cases h
theorem Bf{P:Program}{G:eN}{cx:Ctx}(h:∀p∈cx.gX,Holds P G p.1 p.2)(k:∀p∈cx.cI,fR P G p.1 p.2)(s:∀p∈cx.zY,ng P p.1 p.2)(v:∀p∈cx.inv,vf P G p.1 p.2):jD P G cx :=
 ⟨fun f c hf=>h _ (jl hf),fun f c hf=>k _ (jl hf),fun f c hf=>s _ (jl hf),fun n c hf=>v _ (yb hf)⟩
theorem IL{P:Program}{jV:List (Nat×List gr)}(h:(jV.all fun p=>wL P p.1 p.2)=true):∀tid fs,find jV tid=some fs→wL P tid fs=true:=fun tid fs hf=>by
 rw[tr] at h;exact h _ (jl hf)
def NP(P:Program)(p:Nat×Nat):Bool:=match P.underlying p.1 with|some (.slice e)=>Nat.beq e p.2|_=>false
theorem Kp{P:Program}{els:List (Nat×Nat)}(h:(els.all fun p=>NP P p)=true):∀tid e,find els tid=some e→P.underlying tid=some (.slice e):=fun tid e hf=>by
 rw[tr] at h;have:=h _ (jl hf);unfold NP at this;split at this
 ·rename_i e' he;rw[he,cB this]
 ·cases this
theorem GV(I:Nat→Nat→Prop)(w:World):pN yA w:=fun b Q h=>h.elim
end Go.Ge
namespace Go.Ge
open RowKit
theorem tV(c:UInt8):∀l:List UInt8,-1≤Lib.indexByte l c∧Lib.indexByte l c<l.length:=by
 intro l;induction l with
 | nil=>exact⟨by simp[Lib.indexByte],by simp[Lib.indexByte]⟩
 | cons b r ih =>
   unfold Lib.indexByte;split
   ·exact⟨by simp,by simp only[oM];omega⟩
   ·split
    ·exact⟨by simp,by simp only[oM];omega⟩
    ·simp only[oM];omega
theorem DC{P:Program}{f:Nat}{fn:Func}(hP:P.funcs[f]?=some fn)(hname:(fn.name == "runtime.NumGoroutine")=false)(hb:fn.body.isSome=true) :
  ∃fn code,P.funcs[f]?=some fn∧(fn.name == "runtime.NumGoroutine")=false∧fn.body=some code:=by
 obtain⟨code,hc⟩:=Option.isSome_iff_exists.1 hb;exact⟨fn,code,hP,hname,hc⟩
theorem Bg{w:World}{b:Nat}{p q v:Value}{T:TypeId}{fr:Nat×Nat}(h:w.heap[b]?=some (.cells #[p,v] T fr)):w.setCell ⟨b,0,none⟩ q=w.setRow b #[q,v]:=by
 unfold World.setCell World.setRow
 congr 1
 apply Array.ext_getElem?;intro i;simp only[Fg];by_cases e:b=i
 ·subst e;simp[h]
 ·simp[e]
theorem kQ.refl(og:Option Nat)(w:World):kQ og w w:=⟨rfl,rfl,rfl,dB _,fun _ _ _=>rfl,fun _ _ _=>rfl⟩
theorem kQ.weaken{og:Option Nat}{w w':World}(h:kQ none w w'):kQ og w w':=⟨h.os,h.tape,h.output,h.size,fun k hk _=>h.block k hk (by simp),h.cell⟩
theorem kQ.drew{og:Option Nat}{w w':World}(h:kQ og w w'):kQ og w w'.drew:=⟨h.os,h.tape,h.output,h.size,h.block,h.cell⟩
theorem kQ.alloc{og:Option Nat}{w w':World}(h:kQ og w w')(o:Obj):kQ og w (w'.alloc o) where
 os:=h.os
 tape:=h.tape
 output:=h.output
 size:=gK h.size (by simp)
 block:=fun k hk hn=>(bO w' o k (qe hk h.size)).trans (h.block k hk hn)
 cell:=fun k c hk=>(cJ (bO w' o k (qe hk h.size))).trans (h.cell k c hk)
theorem kQ.freeze{g:Nat}{w w':World}(h:kQ (some g) w w')(n:Nat):kQ (some g) w (w'.freeze ⟨g,0,none⟩ n):=by
 unfold World.freeze;split
 ·exact h
 ·refine⟨h.os,h.tape,h.output,gK h.size (by simp),fun k hk hn=>?_,fun k c hk=>?_⟩
  ·have hne:¬g=k:=fun e=>hn (by rw[e]);rw[←h.block k hk hn];simp[Fg,hne]
  ·rw[←h.cell k c hk];by_cases e:g=k
   ·subst e;simp only[World.cell?,Fg,iE];cases w'.heap[g]? with
    | none=>rfl
    | some o=>cases o<;>rfl
   ·have hne:¬g=k:=e;simp[World.cell?,Fg,hne]
theorem zz{P:Program}{G:eN}{f:Nat}{fn:Func}{spec:List UInt8→Int→Int}(hP:P.funcs[f]?=some fn)(hname:(fn.name == "runtime.NumGoroutine")=false)(hb:fn.body.isSome=true)
  (hr:∀s c,(-1≤spec s c∧spec s c<s.length))
  (h:∀(s:ByteArray) (c:Int) (w:World),Calls P f #[.string s,.int .u8 c] w fun e w'=>e=.returned (.int .i64 (spec s.data.toList c))∧w'=w) :
  Holds P G f ⟨.pair .str (.pair (.int .u8) .unit),.pair (.int .i64) .unit,fun x=>some (spec x.1 x.2.1,())⟩ where
 body:=by
  obtain⟨code,hc⟩:=Option.isSome_iff_exists.1 hb;exact⟨fn,code,hP,hname,hc⟩
 calls:=by
  intro I w args x y hI hG hargs dW;obtain⟨s,c,u⟩:=x;change List UInt8 at s;change Int at c;obtain rfl:((spec s c:Int),())=y:=au dW;obtain⟨cs,rest,Mu,uY,E1,LB,MQ,LC,Kq⟩:=hargs;obtain rfl:LB=[]:=Kq;obtain⟨rfl,hl⟩:=uY;obtain⟨rfl,_⟩:=LC;obtain rfl:args=#[.string ⟨s.toArray⟩,.int .u8 c]:=by
   apply Array.toList_inj.1;rw[Mu,MQ];rfl
  refine(h ⟨s.toArray⟩ c w).mono ?_;rintro e w' ⟨rfl,rfl⟩;refine⟨_,I,rfl,Below.refl _ _,fun b o h=>h,hI,fun b o h1 h2=>absurd h1 h2,?_⟩;have hs:=hr s c;have hm:s.length≤maxLen:=hl;refine⟨[.int .i64 (spec s c)],⟨rfl,?_,?_⟩,rfl⟩
  ·have:(IntKind.i64).min=-9223372036854775808:=by decide
   show(IntKind.i64).min≤spec s c
   omega
  ·have:(IntKind.i64).max=9223372036854775807:=by decide
   have:maxLen=140737488355328∨maxLen≤9223372036854775807:=by right;decide
   show spec s c≤(IntKind.i64).max
   omega
end Go.Ge
namespace Go.Ge
open RowKit Go.Proofs Go.Shelf
end Go.Ge
namespace Go.Ge
open RowKit
theorem Holds.weaken{P:Program}{G:eN}{f:Nat}{A R:Ty}{spec spec':A.den→Option R.den}(h:Holds P G f ⟨A,R,spec⟩)(hs:∀x y,spec' x=some y→spec x=some y):Holds P G f ⟨A,R,spec'⟩ where
 body:=h.body
 calls:=fun I w args x y hI hG ha hx=>h.calls I w args x y hI hG ha (hs x y hx)
end Go.Ge
namespace Go.Ge
open RowKit Go.Sort Go.Proofs
end Go.Ge
namespace Go.Ge
variable [Lp]
open RowKit Go.Shelf Go.Lib Go.Proofs
structure NQ (P:Program) (ρ:Ren) (nm:String) (k:Nat):Prop where
 mixed:P.follows .mixedOrders=true
 f22:P.funcs[ρ.f 22]?=some { Body2.n22 ρ with name:=nm }
 ov:∀(xs:Array Value) (w:World),(callFunc (ρ.f 29) xs).run P w=((Extern.SlicesOverlaps.overlaps #[(ρ.t 24),(ρ.t 24)] #[(ρ.t 4)] xs).run P w).andThen fun v w'=>.ok (.value v) w'
 t3:P.underlying (ρ.t 3)=some (TypeDesc.int IntKind.i64)
 t4:P.underlying (ρ.t 4)=some TypeDesc.bool
 t24:P.underlying (ρ.t 24)=some (TypeDesc.slice (ρ.t 9))
 z9:∀w,(Go.sizeOf (ρ.t 9)).run P w=.ok k w
 i9:(P.info? (ρ.t 9)).map (·.size)=some k
variable {P:Program} {ρ:Ren} {nm:String} {k:Nat}
end Go.Ge
namespace Go.Ge
variable [Lp]
open RowKit Go.Shelf Go.Lib Go.Proofs
variable {P:Program} {ρ:Ren} {nm:String}
end Go.Ge
