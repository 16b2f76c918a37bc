/- A ghost interpreter of the model's code, and that it tells the truth: part 9. It says of a function of plain data what a call of it comes to. -/
import Derived.Test.YtjkmocnbjhpilaaGreatDoorGeH
import Derived.Shelf.Strings.SplitCore
import Derived.Shelf.Strings.Search3
import Derived.Shelf.Strings.Count
import Derived.Lib.SplitLaws
import Derived.Lib.Join
import Derived.Lib.IndexBytes
import Derived.Shelf.Strconv.Itoa3
import Derived.Shelf.Strconv.ErrVarParseInt
import Derived.Lib.AppendIntMem
import Derived.Lib.ItoaLen
import Derived.Lib.LaidTab
import Derived.LaidSub
import Derived.Sort.EncStr
import Derived.Sort.Grow
import Derived.Lib.SlicesCompact
import Derived.Shelf.Spec.SlicesInsertGrow
import Derived.Deep.RegionLaw
import Derived.Shelf.RegionOpenPlain
namespace Go.Ge
set_option linter.unusedVariables false
set_option linter.unusedSimpArgs false
open RowKit Go.Proofs Go.Shelf
theorem Any.Nk(s:ByteArray)(c:UInt8):((Lib.countByte s.data.toList c:Nat):Int)=((Lib.countB s ⟨#[c]⟩:Nat):Int):=by
 show((s.data.toList.count c:Nat):Int)=((Lib.count s.data.toList [c]:Nat):Int)
 rw[Lib.count_one]
set_option maxHeartbeats 1000000 in
theorem Any.zp{P:Program}{ρ:Ren}(L:Lays.n146 P ρ)(hi9:(P.info? (ρ.t 9)).map (fun i=>(i.zero,i.size,i.bytes))=some (some (.string ByteArray.empty),1,16))(s:ByteArray)(b:UInt8)(w:World)
  (hs:s.size<4294967281) :
  Calls P (ρ.f 146) #[.string s,.string ⟨#[b]⟩] w fun e w' =>
   e=.returned (.slice (some ⟨w.heap.size,0,none⟩) (Lib.countB s ⟨#[b]⟩+1) (Lib.countB s ⟨#[b]⟩+1))∧w'=w.alloc (.cells ((Lib.splitB ⟨#[b]⟩ 0 (Lib.countB s ⟨#[b]⟩) s).map Value.string).toArray (ρ.t 9)):=by
 have h1:1≤(⟨#[b]⟩:ByteArray).size:=Nat.le_refl _
 generalize hsep:(⟨#[b]⟩:ByteArray)=sep at h1
 have hle:=Lib.countB_le sep h1 s.size s (Nat.le_refl _)
 have hlen:=Lib.splitB_all sep h1 0 _ s rfl
 have c:=Proofs.Any.strings_genSplit_core { L with } hi9 s sep 0 (-1) (Lib.countB s sep+1) w hs h1 (Nat.zero_le _)
  (fun x c hx=>by
   subst hsep
   refine(Proofs.Any.strings_Index_one { L with } x b _).mono fun e w' ⟨he,hw⟩=>⟨?_,hw⟩
   rw[he]
   show _=Ending.returned (Value.int .i64 (Lib.index x.data.toList [b]))
   rw[Lib.index_one])
  (by
   subst hsep
   refine(Proofs.Any.strings_Count_one { L with } s b w).mono fun e w' ⟨he,hw⟩=>⟨?_,hw⟩
   rw[he,Any.Nk])
  (by decide) (by decide) (by rw[if_pos (by decide)];omega)
 rw[Nat.add_sub_cancel,hlen] at c
 have e2:Lib.cellsOf (Lib.splitB sep 0 (Lib.countB s sep) s) (Lib.countB s sep+1)=((Lib.splitB sep 0 (Lib.countB s sep) s).map Value.string).toArray:=by rw[←hlen];exact Lib.cellsOf_full _
 rw[e2] at c
 have t3:=L.t3;have t9:=L.t9;have t31:=L.t31
 have a3:=L.a3;have a9:=L.a9;have a31:=L.a31
 have z3:=L.z3;have v3:=L.v3;have z9:=L.z9;have v9:=L.v9;have z31:=L.z31;have v31:=L.v31
 have Z6:∀args w,(callFunc (ρ.f 221) args).run P w=.ok (.enter (ρ.f 221) args) w:=enters_of L.f221 (by kernel_rfl) rfl
 go_enter L.f146,Body.n146_ntmps ρ
 go_wp2_with (go_at_fn (ρ.f 221);refine c.mono ?_;rintro e w' ⟨rfl,hw⟩;rw[hw])
 go_ret
 exact⟨rfl,rfl⟩
def xT(s sep:List UInt8):Option (List (List UInt8)):=match sep with
 | [b]=>if s.length<4294967281 then some (Lib.split s [b]) else none
 | _=>none
theorem Ph(sep:List UInt8):∀(k:Nat) (s x:List UInt8),x∈Lib.splitK sep 0 k s→x.length≤s.length:=by
 intro k
 induction k with
 | zero=>intro s x h;simp[Lib.splitK] at h;rw[h];exact Nat.le_refl _
 | succ k ih =>
   intro s x h
   unfold Lib.splitK at h
   split at h
   ·simp at h;rw[h];exact Nat.le_refl _
   ·rcases List.mem_cons.1 h with h|h
    ·rw[h,List.length_take];omega
    ·have:=ih _ _ h
     rw[List.length_drop] at this
     omega
theorem KV{P:Program}{G:eJ}{f tid:Nat}{fn:Func}(hP:P.funcs[f]?=some fn)(hname:(fn.name == "runtime.NumGoroutine")=false)(hb:fn.body.isSome=true)
  (h:∀(s:ByteArray) (b:UInt8) (w:World),s.size<4294967281→Calls P f #[.string s,.string ⟨#[b]⟩] w fun e w' =>
   e=.returned (.slice (some ⟨w.heap.size,0,none⟩) (Lib.countB s ⟨#[b]⟩+1) (Lib.countB s ⟨#[b]⟩+1))∧w'=w.alloc (.cells ((Lib.splitB ⟨#[b]⟩ 0 (Lib.countB s ⟨#[b]⟩) s).map Value.string).toArray tid)) :
  Holds P G f ⟨.pair .str (.pair .str .unit),.pair (.slice .str) .unit,fun x=>(xT x.1 x.2.1).map fun y=>(y,())⟩ where
 body:=by
  obtain⟨code,hc⟩:=Option.isSome_iff_exists.1 hb
  exact⟨fn,code,hP,hname,hc⟩
 calls:=by
  intro I w args x y hI hG hargs hspec
  obtain⟨s,sep,u⟩:=x
  change List UInt8 at s
  change List UInt8 at sep
  obtain⟨z,hz,rfl⟩:=Option.map_eq_some_iff.1 hspec
  change xT s sep=some z at hz
  have hsep:∃b,sep=[b]∧s.length<4294967281∧z=Lib.split s [b]:=by
   unfold xT at hz
   split at hz
   ·rename_i b
    split at hz
    ·rename_i hl
     exact⟨b,rfl,hl,(Option.some.inj hz).symm⟩
    ·cases hz
   ·cases hz
  obtain⟨b,rfl,hl,rfl⟩:=hsep
  obtain⟨cs,rest,hal,wq,J4,E3,KU,E4,zo⟩:=hargs
  obtain rfl:E3=[]:=zo
  obtain⟨rfl,S5⟩:=wq
  obtain⟨rfl,_⟩:=E4
  obtain rfl:args=#[.string ⟨s.toArray⟩,.string ⟨#[b]⟩]:=by
   apply Array.toList_inj.1
   rw[hal,KU]
   rfl
  refine(h ⟨s.toArray⟩ b w (by show s.toArray.size<_;simpa using hl)).mono ?_
  rintro e w' ⟨rfl,rfl⟩
  have WB:=Lib.splitB_data ⟨#[b]⟩ 0 (Lib.countB ⟨s.toArray⟩ ⟨#[b]⟩) ⟨s.toArray⟩
  have hlen:=Lib.splitB_all ⟨#[b]⟩ (Nat.le_refl _) 0 _ ⟨s.toArray⟩ rfl
  generalize hsb:Lib.splitB ⟨#[b]⟩ 0 (Lib.countB ⟨s.toArray⟩ ⟨#[b]⟩) ⟨s.toArray⟩=sb at WB hlen
  have hd:sb.map (·.data.toList)=Lib.split s [b]:=WB
  have hn:(Lib.split s [b]).length=Lib.countB ⟨s.toArray⟩ ⟨#[b]⟩+1:=by rw[←hd,List.length_map,hlen]
  have hbig:Lib.countB ⟨s.toArray⟩ ⟨#[b]⟩+1≤maxLen:=by
   have:=Lib.countB_le ⟨#[b]⟩ (Nat.le_refl _) s.length ⟨s.toArray⟩ (by show s.toArray.size≤_;simp)
   have e:(⟨s.toArray⟩:ByteArray).size=s.length:=by show s.toArray.size=_;simp
   rw[e] at this
   have:4294967281≤maxLen:=by decide
   omega
  refine⟨_,fun b o=>I b o∨b=w.heap.size,rfl,(Below.refl _ _).alloc (Nat.le_refl _) _,fun b o h=>.inl h,fun b o h=>?_,fun b o h1 h2=>?_,?_⟩
  ·have hsz:(w.alloc (.cells (sb.map Value.string).toArray tid)).heap.size=w.heap.size+1:=by simp
   rw[hsz]
   rcases h with h|h
   ·have:=hI b o h;omega
   ·omega
  ·rcases h1 with h1|h1
   ·exact absurd h1 h2
   ·omega
  ·refine⟨[.slice (some ⟨w.heap.size,0,none⟩) (Lib.countB ⟨s.toArray⟩ ⟨#[b]⟩+1) (Lib.countB ⟨s.toArray⟩ ⟨#[b]⟩+1)],?_,rfl⟩
   refine .inr ⟨w.heap.size,0,Lib.countB ⟨s.toArray⟩ ⟨#[b]⟩+1,?_,?_,hbig,fun i x hx=>?_⟩
   ·show _=[Value.slice _ (Lib.split s [b]).length _]
    rw[hn]
   ·show(Lib.split s [b]).length≤_
    omega
   ·have hx':(Lib.split s [b])[i]?=some x:=hx
    rw[←hd,List.getElem?_map] at hx'
    obtain⟨y,hy,rfl⟩:=Option.map_eq_some_iff.1 hx'
    refine⟨[.string y],rfl,fun j v hv=>?_,?_⟩
    ·cases j with
     | succ j=>cases hv
     | zero =>
       obtain rfl:=Option.some.inj hv
       refine⟨?_,.inr rfl⟩
       have hlt:=(List.getElem?_eq_some_iff.1 hy).1
       simp only[World.cell?,World.alloc,Nat.zero_add,Nat.add_zero]
       simp[Ty.size,hy]
    ·refine⟨?_,?_⟩
     ·have:y=⟨y.data.toList.toArray⟩:=(Lib.mk_data y).symm
      rw[←this]
     ·have hm:y.data.toList∈Lib.split s [b]:=List.mem_of_getElem? hx
      have:=Ph _ _ _ _ hm
      exact Nat.le_trans this S5
def BR(l:List (List UInt8))(sep:List UInt8):Option (List UInt8):=if l.length≤140737488355328∧(Lib.join l sep).length≤140737488355328 then some (Lib.join l sep) else none
theorem Nl{P:Program}{G:eJ}{f:Nat}{fn:Func}(hP:P.funcs[f]?=some fn)(hname:(fn.name == "runtime.NumGoroutine")=false)(hb:fn.body.isSome=true)
  (h0:∀(a:Option Addr) (c:Nat) (sep:ByteArray) (w:World),Calls P f #[.slice a 0 c,.string sep] w fun e w'=>e=.returned (.string ⟨#[]⟩)∧w'=w)
  (h:∀(bk o c:Nat) (xs:List ByteArray) (sep:ByteArray) (w:World),
  (∀(j:Nat) x,xs[j]?=some x→w.cell? ⟨bk,o+j,none⟩=some (.string x))→(bk<w.heap.size)→(xs.length≤140737488355328)→(xs.length≤c) →
  ((Lib.join (xs.map (·.data.toList)) sep.data.toList).length≤140737488355328) →
  Calls P f #[.slice (some ⟨bk,o,none⟩) xs.length c,.string sep] w fun e w'=>e=.returned (.string ⟨(Lib.join (xs.map (·.data.toList)) sep.data.toList).toArray⟩)∧Below w.heap.size w w') :
  Holds P G f ⟨.pair (.slice .str) (.pair .str .unit),.pair .str .unit,fun x=>(BR x.1 x.2.1).map fun y=>(y,())⟩ where
 body:=by
  obtain⟨code,hc⟩:=Option.isSome_iff_exists.1 hb
  exact⟨fn,code,hP,hname,hc⟩
 calls:=by
  intro I w args x y hI hG hargs hspec
  obtain⟨l,sep,u⟩:=x
  change List (List UInt8) at l
  change List UInt8 at sep
  obtain⟨z,hz,rfl⟩:=Option.map_eq_some_iff.1 hspec
  change BR l sep=some z at hz
  unfold BR at hz
  split at hz
  case isFalse=>cases hz
  rename_i hlen
  obtain⟨WC,hlen⟩:=hlen
  have S5:(Lib.join l sep).length≤maxLen:=Nat.le_trans hlen (by decide)
  obtain rfl:=Option.some.inj hz
  obtain⟨cs,rest,hal,wq,J4,E3,KU,E4,zo⟩:=hargs
  obtain rfl:E3=[]:=zo
  obtain⟨rfl,Uk⟩:=E4
  have fin:∀{v:Value},cs=[v]→∀{w'},Below w.heap.size w w'→∀{e:Ending},e=.returned (.string ⟨(Lib.join l sep).toArray⟩) →
    ∃v I',e=.returned v∧Below w.heap.size w w'∧(∀b o,I b o→I' b o)∧(∀b o,I' b o→b<w'.heap.size)∧(∀b o,I' b o→¬I b o→w.heap.size≤b)∧jJ w' I' (.pair .str .unit) (Lib.join l sep,()) v:=by
   intro v _ w' hw e he
   exact⟨_,I,he,hw,fun b o h=>h,fun b o h=>Nat.lt_of_lt_of_le (hI b o h) hw.size,fun b o h1 h2=>absurd h1 h2,[.string ⟨(Lib.join l sep).toArray⟩],⟨rfl,S5⟩,rfl⟩
  rcases wq with ⟨⟨base,rfl⟩,hl⟩|⟨blk,off,cap,rfl,hcap,hmax,hel⟩
  ·obtain rfl:l=[]:=hl
   obtain rfl:args=#[.slice base 0 0,.string ⟨sep.toArray⟩]:=by
    apply Array.toList_inj.1
    rw[hal,KU]
    rfl
   refine(h0 base 0 ⟨sep.toArray⟩ w).mono ?_
   rintro e w' ⟨rfl,rfl⟩
   exact fin rfl (Below.refl _ _) rfl
  ·change l.length≤cap at hcap
   obtain rfl:args=#[.slice (some ⟨blk,off,none⟩) l.length cap,.string ⟨sep.toArray⟩]:=by
    apply Array.toList_inj.1
    rw[hal,KU]
    rfl
   cases l with
   | nil =>
     refine(h0 (some ⟨blk,off,none⟩) cap ⟨sep.toArray⟩ w).mono ?_
     rintro e w' ⟨rfl,rfl⟩
     exact fin rfl (Below.refl _ _) rfl
   | cons a r =>
     have hcell:∀(j:Nat) x,(a::r)[j]?=some x→w.cell? ⟨blk,off+j,none⟩=some (.string ⟨x.toArray⟩)∧I blk (off+j):=by
      intro j x hx
      obtain⟨es,he,hc,hr⟩:=hel j x hx
      obtain⟨rfl,_⟩:=hr
      have:=hc 0 _ rfl
      simpa [Ty.size] using this
     have hbk:blk<w.heap.size:=hI _ _ (hcell 0 a rfl).2
     have e1:((a::r).map fun x:List UInt8=>(⟨x.toArray⟩:ByteArray)).map (·.data.toList)=a::r:=by
      rw[List.map_map]
      exact List.map_id'' (fun x=>rfl) _
     have:=h blk off cap ((a::r).map fun x=>⟨x.toArray⟩) ⟨sep.toArray⟩ w (fun j x hx=>by
      rw[List.getElem?_map] at hx
      obtain⟨y,hy,rfl⟩:=Option.map_eq_some_iff.1 hx
      exact(hcell j y hy).1) hbk (by rw[List.length_map];exact WC) (by rw[List.length_map];exact hcap) (by rw[e1];exact hlen)
     rw[e1,List.length_map] at this
     refine this.mono ?_
     rintro e w' ⟨rfl,hw⟩
     exact fin rfl hw rfl
end Go.Ge
namespace Go.Ge
set_option linter.unusedVariables false
set_option linter.unusedSimpArgs false
open RowKit
theorem Holds.weaken{P:Program}{G:eJ}{f:Nat}{A R:Ty}{spec spec':A.den→Option R.den}(h:Holds P G f ⟨A,R,spec⟩)(hs:∀x y,spec' x=some y→spec x=some y):Holds P G f ⟨A,R,spec'⟩ where
 body:=h.body
 calls:=fun I w args x y hI hG ha hx=>h.calls I w args x y hI hG ha (hs x y hx)
end Go.Ge
namespace Go.Ge
set_option linter.unusedVariables false
set_option linter.unusedSimpArgs false
open RowKit Go.Sort Go.Proofs
theorem qe.mk'{w w':World}{I:Nat→Nat→Prop}{X:Nat→Prop}(hos:w'.os=w.os)(ht:w'.tape=w.tape)(ho:w'.output=w.output)(hs:w.heap.size≤w'.heap.size)
  (hb:∀k,k<w.heap.size→¬X k→w'.heap[k]?=w.heap[k]?) (hI:∀b o,I b o→b<w.heap.size):qe w I X w' I where
 below:=⟨hos,ht,ho,hs,fun k hk=>hb k (Nat.lt_of_not_le fun q=>hk (.inl q)) fun q=>hk (.inr q)⟩
 held:=fun _ _ h=>h
 qu:=fun b o h=>Nat.lt_of_lt_of_le (hI b o h) hs
 nh:=fun b o h k=>absurd h k
end Go.Ge
namespace Go.Ge
open RowKit Go.Shelf Go.Lib Go.Proofs
theorem uW{P:Program}(w:World)(dT sT ty elem:TypeId)(b o dLen dCap:Nat)(a:Addr)(sLen sCap k:Nat)(cs:List Value){cur:Array Value}{tt:TypeId}{fr:Nat×Nat}
  (hu:P.underlying dT=some (.slice elem)) (hs:(P.info? elem).map (·.size)=some k) (hn:cs.length=Nat.min sLen dLen*k)
  (hsrc:∀j v,cs[j]?=some v→w.cell? (a.add j)=some v) (hg:w.heap[b]?=some (.cells cur tt fr)) (JY:l9 cur fr) (hle:o+cs.length≤cur.size) (h1:∀v∈cs,v.oneCell'=true) :
  (Builtin.copy_ #[dT,sT] ty #[.slice (some ⟨b,o,none⟩) dLen dCap,.slice (some a) sLen sCap]).run P w=.ok (goInt (Nat.min sLen dLen)) (w.setRow b (splice cur.toList o cs).toArray):=by
 have hl:=run_loadCells_list (P:=P) w a cs hsrc
 have hst:=dD (P:=P) b o tt fr cs 0 cur w hg JY (by simpa using hle) h1
 rw[Nat.add_zero] at hst
 cases hq:P.info? elem with
 | none=>simp[hq] at hs
 | some i =>
   have hi:i.size=k:=by simpa [hq] using hs
   simp[Builtin.copy_,run_underlying hu,Builtin.lenOf,Builtin.firstCells,sizeOf,typeInfo,hq,hi,←hn,hl,hst]
structure KW (P:Program) (ρ:Ren) (nm:String) (k:Nat):Prop where
 mixed:P.follows .mixedOrders=true
 f22:P.funcs[ρ.f 22]?=some { Body2.n22 ρ with name:=nm }
 ov:∀(xs:Array Value) (w:World),(callFunc (ρ.f 29) xs).run P w=((Extern.SlicesOverlaps.overlaps #[(ρ.t 24),(ρ.t 24)] #[(ρ.t 4)] xs).run P w).andThen fun v w'=>.ok (.value v) w'
 t3:P.underlying (ρ.t 3)=some (TypeDesc.int IntKind.i64)
 t4:P.underlying (ρ.t 4)=some TypeDesc.bool
 t24:P.underlying (ρ.t 24)=some (TypeDesc.slice (ρ.t 9))
 z9:∀w,(Go.sizeOf (ρ.t 9)).run P w=.ok k w
 i9:(P.info? (ρ.t 9)).map (·.size)=some k
variable {P:Program} {ρ:Ren} {nm:String} {k:Nat}
set_option maxHeartbeats 4000000 in
set_option maxRecDepth 100000 in
theorem Pj(L:KW P ρ nm k)(b n c i vb voff m vc:Nat)(_cs vs:List Value)(w:World){cur:Array Value}{tt:TypeId}{fr:Nat×Nat}(hi:i<n)(hm:0<m)(hroom:n+m≤c)(hc63:c≤9223372036854775807)(hvb:vb≠b)
  (hg:w.heap[b]?=some (.cells cur tt fr)) (JY:l9 cur fr) (hsz:cur.size=c*k) (h1c:∀v∈(cur.toList.take (n*k)),v.oneCell'=true)
  (hvl:vs.length=m*k) (hvs:∀j v,vs[j]?=some v→w.cell? ⟨vb,voff+j,none⟩=some v) (h1v:∀v∈vs,v.oneCell'=true)
  (hov:∀lb cb,(Extern.SlicesOverlaps.overlaps #[(ρ.t 24),(ρ.t 24)] #[(ρ.t 4)] #[.slice (some ⟨vb,voff,none⟩) m vc,.slice (some ⟨b,(i+m)*k,none⟩) lb cb]).run P w=.ok (.bool false) w) :
  Calls P (ρ.f 22) #[.slice (some ⟨b,0,none⟩) n c,.int .i64 i,.slice (some ⟨vb,voff,none⟩) m vc] w fun e w' =>
   e=.returned (.slice (some ⟨b,0,none⟩) (n+m) c) ∧
   w'=(w.drew.setRow b (splice cur.toList ((i+m)*k) ((cur.toList.take (n*k)).drop (i*k))).toArray).setRow b (splice (splice cur.toList ((i+m)*k) ((cur.toList.take (n*k)).drop (i*k))) (i*k) vs).toArray:=by
 have t3:=L.t3;have t4:=L.t4;have t24:=L.t24;have z9:=L.z9
 have u3:=run_underlying L.t3;have u4:=run_underlying L.t4;have X6:=run_underlying L.t24
 have mixed:=L.mixed
 have hz1:¬((m:Int)=0):=by omega
 have Xo:¬((i:Int)=(n:Int)):=by omega
 have X7:∀lb cb,(callFunc (ρ.f 29) #[.slice (some ⟨vb,voff,none⟩) m vc,.slice (some ⟨b,(i+m)*k,none⟩) lb cb]).run P w=.ok (.value (.bool false)) w:=fun lb cb=>by
  rw[L.ov,hov lb cb];rfl
 have hw1:IntKind.i64.wrap ((i:Int)+(m:Int))=(i:Int)+(m:Int):=by rw[IntKind.wrap_i64];omega
 have hb1:(0:Int)≤(i:Int)+(m:Int):=by omega
 have hin:i≤n:=by omega
 have htn:((i:Int)+(m:Int)).toNat=i+m:=by omega
 have hb2:¬(c=i+m):=by omega
 have hb3:(i:Int)≤(n:Int)+(m:Int):=by omega
 have hb4:¬(c=i):=by omega
 have IG:cur.toList.length=c*k:=by simpa using hsz
 have hnk:n*k≤c*k:=Nat.mul_le_mul_right _ (by omega)
 have hik:i*k≤n*k:=Nat.mul_le_mul_right _ (by omega)
 have Nn:(i+m)*k+(n-i)*k≤c*k:=by
  rw[←Nat.add_mul];exact Nat.mul_le_mul_right _ (by omega)
 have hl1:((cur.toList.take (n*k)).drop (i*k)).length=(n-i)*k:=by
  rw[List.length_drop,List.length_take,Nat.min_eq_left (by omega),Nat.sub_mul]
 have hs1:(splice cur.toList ((i+m)*k) ((cur.toList.take (n*k)).drop (i*k))).length=c*k:=by rw[bN (by rw[hl1,IG];exact Nn)];exact IG
 have QY:w.drew.heap[b]?=some (.cells cur tt fr):=hg
 have U2:∀ty dc sc,(Builtin.copy_ #[(ρ.t 24),(ρ.t 24)] ty #[.slice (some ⟨b,(i+m)*k,none⟩) (n+m-(i+m)) dc,.slice (some ⟨b,i*k,none⟩) (n+m-i) sc]).run P w.drew =
   .ok (goInt (Nat.min (n+m-i) (n+m-(i+m)))) (w.drew.setRow b (splice cur.toList ((i+m)*k) ((cur.toList.take (n*k)).drop (i*k))).toArray):=fun ty dc sc =>
  uW w.drew _ _ ty (ρ.t 9) b ((i+m)*k) (n+m-(i+m)) dc ⟨b,i*k,none⟩ (n+m-i) sc k ((cur.toList.take (n*k)).drop (i*k)) L.t24 L.i9 (by
    rw[hl1];congr 1;show n-i=min (n+m-i) (n+m-(i+m));omega)
   (fun j v hj=>by
    rw[Addr.add_lit,cell_of_heap QY]
    rw[List.getElem?_drop,List.getElem?_take] at hj
    split at hj
    ·simpa using hj
    ·cases hj) QY JY (by rw[hl1,hsz];exact Nn) (fun v hv=>h1c v (List.mem_of_mem_drop hv))
 obtain⟨C1,Y3⟩:∃C1,C1=splice cur.toList ((i+m)*k) ((cur.toList.take (n*k)).drop (i*k)):=⟨_,rfl⟩
 rw[←Y3] at U2 hs1⊢
 obtain⟨W1,SQ⟩:∃W1,W1=w.drew.setRow b C1.toArray:=⟨_,rfl⟩
 have UZ:W1.heap[b]?=some (.cells C1.toArray tt fr):=by rw[SQ];exact setRow_heap w.drew b cur _ tt fr QY
 have Xp:∀j v,vs[j]?=some v→W1.cell? ⟨vb,voff+j,none⟩=some v:=fun j v hj=>by
  rw[SQ]
  have h0:(w.drew.setRow b C1.toArray).heap[vb]?=w.drew.heap[vb]?:=setRow_other w.drew b vb _ (fun e=>hvb e)
  rw[cQ (a:=⟨vb,voff+j,none⟩) h0]
  exact hvs j v hj
 have X8:∀ty dc,(Builtin.copy_ #[(ρ.t 24),(ρ.t 24)] ty #[.slice (some ⟨b,i*k,none⟩) (n+m-i) dc,.slice (some ⟨vb,voff,none⟩) m vc]).run P W1=.ok (goInt (Nat.min m (n+m-i))) (W1.setRow b (splice C1 (i*k) vs).toArray):=fun ty dc=>by
  have:=uW (P:=P) W1 (ρ.t 24) (ρ.t 24) ty (ρ.t 9) b (i*k) (n+m-i) dc ⟨vb,voff,none⟩ m vc k vs L.t24 L.i9 (by rw[hvl];congr 1;show m=min m (n+m-i);omega)
   (fun j v hj=>by rw[Addr.add_lit];exact Xp j v hj) UZ (JY.same (by rw[List.size_toArray,hs1,hsz])) (by rw[hvl,List.size_toArray,hs1,←Nat.add_mul];exact Nat.mul_le_mul_right _ (by omega)) h1v
  simpa using this
 rw[←SQ] at U2⊢
 clear Y3 SQ UZ Xp QY hs1 hl1 Nn hik hnk IG hov
 go_enter L.f22,Body2.n22_ntmps ρ
 go_wp2_with (simp only[X7])
 go_region_law_o (refine step_copy_runI rfl _ _ (ρ.t 24) (ρ.t 24) rfl _ _ (by simp[Act.eval,Act.put]) (by simp[Act.eval,Act.put]) (U2 _ _ _) ?_)
 go_wp2_with (at_builtin;refine wpList_copy_runI _ rfl _ _ (ρ.t 24) (ρ.t 24) rfl _ _ rfl rfl (X8 _ _) ?_)
 go_ret
 exact⟨rfl,rfl⟩
set_option maxHeartbeats 4000000 in
set_option maxRecDepth 100000 in
theorem CG(L:KW P ρ nm k)(base Ol:Option Addr)(n c i vc:Nat)(w:World)(hi:i≤n)(_hnc:n≤c) :
  Calls P (ρ.f 22) #[.slice base n c,.int .i64 i,.slice Ol 0 vc] w fun e w'=>e=.returned (.slice base n c)∧w'=w:=by
 have t3:=L.t3;have t4:=L.t4;have t24:=L.t24;have z9:=L.z9
 have u3:=run_underlying L.t3;have u4:=run_underlying L.t4;have X6:=run_underlying L.t24
 have mixed:=L.mixed
 have hin:(i:Int)≤(n:Int):=by omega
 go_enter L.f22,Body2.n22_ntmps ρ
 go_wp2
 all_goals (go_ret;exact⟨rfl,rfl⟩)
set_option maxHeartbeats 4000000 in
set_option maxRecDepth 100000 in
theorem Jh(L:KW P ρ nm k)(base:Option Addr)(n c m vc:Nat)(Ol:Option Addr)(w w1:World)(v1:Value)(hm:0<m)(_hnc:n≤c)
  (hrun:(Builtin.append_ #[(ρ.t 24),(ρ.t 24)] (ρ.t 24) #[.slice base n c,.slice Ol m vc]).run P w=.ok v1 w1) :
  Calls P (ρ.f 22) #[.slice base n c,.int .i64 n,.slice Ol m vc] w fun e w'=>e=.returned v1∧w'=w1:=by
 have t3:=L.t3;have t4:=L.t4;have t24:=L.t24;have z9:=L.z9
 have u3:=run_underlying L.t3;have u4:=run_underlying L.t4;have X6:=run_underlying L.t24
 have mixed:=L.mixed
 have hz1:¬((m:Int)=0):=by omega
 have Xo:¬(m=0):=by omega
 go_enter L.f22,Body2.n22_ntmps ρ
 go_wp2_with (at_builtin;refine Lib.wpList_append_run _ rfl _ _ _ _ rfl _ _ rfl rfl _ _ hrun ?_)
 all_goals (go_ret;exact⟨rfl,rfl⟩)
set_option maxHeartbeats 4000000 in
set_option maxRecDepth 100000 in
theorem Rr(L:KW P ρ nm k)(b n c i vb voff m vc:Nat)(_cs vs:List Value)(w:World){cur:Array Value}{tt:TypeId}{fr:Nat×Nat}{ie:TypeInfo}{ze:Value}(hie:P.info? (ρ.t 9)=some ie)(X9:ie.size=k)(Z7:ie.zero=some ze)(SL:ze.cells.size=k)(hk0:0<k)(hby:ie.bytes≤32768)
  (hi:i<n) (hm:0<m) (_hnc:n≤c) (hroom:c<n+m) (hbig:n+m≤4294967296)
  (hg:w.heap[b]?=some (.cells cur tt fr)) (hsz:cur.size=c*k) (h1c:∀v∈(cur.toList.take (n*k)),v.oneCell'=true)
  (hvl:vs.length=m*k) (hvs:∀j v,vs[j]?=some v→w.cell? ⟨vb,voff+j,none⟩=some v) (hvb:vb<w.heap.size) (h1v:∀v∈vs,v.oneCell'=true) :
  Calls P (ρ.f 22) #[.slice (some ⟨b,0,none⟩) n c,.int .i64 i,.slice (some ⟨vb,voff,none⟩) m vc] w fun e w' =>
   ∃(G:Nat) (Z:List Value),n+m≤G∧G≤maxLen∧(cur.toList.take (i*k)++Z).length=G*k∧e=.returned (.slice (some ⟨w.heap.size,0,none⟩) (n+m) G) ∧
   w'=(((w.drew.alloc (.cells (cur.toList.take (i*k)++Z).toArray (ρ.t 9))).setRow w.heap.size (splice (cur.toList.take (i*k)++Z) (i*k) vs).toArray).drew).setRow w.heap.size (splice (splice (cur.toList.take (i*k)++Z) (i*k) vs) ((i+m)*k) ((cur.toList.take (n*k)).drop (i*k))).toArray:=by
 have t3:=L.t3;have t4:=L.t4;have t24:=L.t24;have z9:=L.z9
 have u3:=run_underlying L.t3;have u4:=run_underlying L.t4;have X6:=run_underlying L.t24
 have mixed:=L.mixed
 have hz1:¬((m:Int)=0):=by omega
 have Xo:¬((i:Int)=(n:Int)):=by omega
 have hz3:(c:Int)<(n:Int)+(m:Int):=by omega
 have IG:cur.toList.length=c*k:=by simpa using hsz
 have hnk:n*k≤c*k:=Nat.mul_le_mul_right _ (by omega)
 have hik:i*k≤n*k:=Nat.mul_le_mul_right _ (by omega)
 have hkk:(n:Int)+(m:Int)-(i:Int)=((n+m-i:Nat):Int):=by omega
 have Ya:i+(n+m-i)=n+m:=by omega
 have hbw:b<w.heap.size:=(Array.getElem?_eq_some_iff.1 hg).1
 have hold:(Builtin.firstCells ie.size i (.slice (some ⟨b,0,none⟩) i c)).run P w.drew=.ok (cur.toList.take (i*k)).toArray w.drew:=by
  rw[X9]
  exact run_firstCells_some w.drew k i ⟨b,0,none⟩ i c (cur.toList.take (i*k)) (by rw[List.length_take,Nat.min_eq_left (by omega)]) (fun j v hj=>by
   rw[Addr.add_lit]
   show w.cell? ⟨b,0+j,none⟩=some v
   rw[cell_of_heap hg]
   rw[List.getElem?_take] at hj
   split at hj
   ·simpa using hj
   ·cases hj)
 have Y4:(n+m)*ie.bytes≤140737488355328:=Nat.le_trans (Nat.mul_le_mul hbig hby) (by decide)
 have VT:∀ty,(Builtin.append_ #[(ρ.t 24),(ρ.t 3)] ty #[.slice (some ⟨b,0,none⟩) i c,.int .i64 ((n:Int)+(m:Int)-(i:Int))]).run P w =
   .ok (.slice (some ⟨w.heap.size,0,none⟩) (n+m) (grownCap w (n+m) c (ρ.t 9))) (w.drew.alloc (.cells ((cur.toList.take (i*k)).toArray++Builtin.zeroCells ze.cells (n+m-i)++Builtin.zeroCells ze.cells (grownCap w (n+m) c (ρ.t 9)-(n+m))) (ρ.t 9))):=fun ty=>by
  have h:=Lib.run_append_grow_zeros (P:=P) w (ρ.t 24) (ρ.t 3) ty (ρ.t 9) ie ze .i64 .i64 L.t24 L.t3 hie Z7 (some ⟨b,0,none⟩) i c (cur.toList.take (i*k)) hold (n+m-i) (by omega) (by omega) (by omega) (by omega) (by
   have:(n+m-i)*ie.bytes≤(n+m)*ie.bytes:=Nat.mul_le_mul_right _ (by omega)
   omega) (by rw[Ya];exact growslice_fits hroom Y4)
  rw[Ya] at h
  rw[hkk]
  exact h
 have hGn:=grownCap_ge w (n+m) c (ρ.t 9)
 have Xq:=grownCap_le_maxLen w (n+m) c (ρ.t 9) (by have:=zd;omega)
 obtain⟨G,hG⟩:∃G,G=grownCap w (n+m) c (ρ.t 9):=⟨_,rfl⟩
 rw[←hG] at VT hGn Xq
 obtain⟨Z,hZ⟩:∃Z:List Value,Z=(Builtin.zeroCells ze.cells (n+m-i)).toList++(Builtin.zeroCells ze.cells (G-(n+m))).toList:=⟨_,rfl⟩
 have hrow:(cur.toList.take (i*k)).toArray++Builtin.zeroCells ze.cells (n+m-i)++Builtin.zeroCells ze.cells (G-(n+m))=(cur.toList.take (i*k)++Z).toArray:=by
  rw[hZ];apply Array.toList_inj.1;simp
 rw[hrow] at VT
 have hzl:∀q,(Builtin.zeroCells ze.cells q).size=q*k:=fun q=>by simp[Builtin.zeroCells,SL]
 have Y5:Z.length=(n+m-i)*k+(G-(n+m))*k:=by
  rw[hZ,List.length_append,Array.length_toList,Array.length_toList,hzl,hzl]
 obtain⟨ROW,Rs⟩:∃ROW,ROW=cur.toList.take (i*k)++Z:=⟨_,rfl⟩
 have hRl:ROW.length=G*k:=by
  rw[Rs,List.length_append,List.length_take,Nat.min_eq_left (by omega),Y5,←Nat.add_assoc,←Nat.add_mul,←Nat.add_mul]
  congr 1;omega
 rw[←Rs] at VT
 have Z8:(n+m)*k≤G*k:=Nat.mul_le_mul_right _ hGn
 have Nn:i*k+m*k≤(n+m)*k:=by rw[←Nat.add_mul];exact Nat.mul_le_mul_right _ (by omega)
 have WD:(i+m)*k+(n-i)*k≤(n+m)*k:=by rw[←Nat.add_mul];exact Nat.mul_le_mul_right _ (by omega)
 have hl1:((cur.toList.take (n*k)).drop (i*k)).length=(n-i)*k:=by
  rw[List.length_drop,List.length_take,Nat.min_eq_left (by omega),Nat.sub_mul]
 have hs2:(splice ROW (i*k) vs).length=G*k:=by rw[bN (by rw[hvl,hRl];omega)];exact hRl
 obtain⟨N,hN⟩:∃N,N=w.heap.size:=⟨_,rfl⟩
 rw[←hN] at VT
 obtain⟨W1,SQ⟩:∃W1,W1=w.drew.alloc (.cells ROW.toArray (ρ.t 9)):=⟨_,rfl⟩
 have QY:W1.heap[N]?=some (.cells ROW.toArray (ρ.t 9) (0,0)):=by rw[SQ,hN];exact heap_alloc_new w.drew _
 have Rt:∀q,q<w.heap.size→W1.heap[q]?=w.heap[q]?:=fun q hq=>by rw[SQ];exact cr w.drew _ q hq
 have WE:∀ty dc,(Builtin.copy_ #[(ρ.t 24),(ρ.t 24)] ty #[.slice (some ⟨N,i*k,none⟩) (n+m-i) dc,.slice (some ⟨vb,voff,none⟩) m vc]).run P W1=.ok (goInt (Nat.min m (n+m-i))) (W1.setRow N (splice ROW (i*k) vs).toArray):=fun ty dc=>by
  have:=uW (P:=P) W1 (ρ.t 24) (ρ.t 24) ty (ρ.t 9) N (i*k) (n+m-i) dc ⟨vb,voff,none⟩ m vc k vs L.t24 L.i9 (by rw[hvl];congr 1;show m=min m (n+m-i);omega)
   (fun j v hj=>by rw[Addr.add_lit,cQ (a:=⟨vb,voff+j,none⟩) (Rt vb hvb)];exact hvs j v hj) QY (pP _) (by rw[hvl,List.size_toArray,hRl];omega) h1v
  simpa using this
 obtain⟨W2,WG⟩:∃W2,W2=W1.setRow N (splice ROW (i*k) vs).toArray:=⟨_,rfl⟩
 have UZ:W2.drew.heap[N]?=some (.cells (splice ROW (i*k) vs).toArray (ρ.t 9) (0,0)):=by rw[WG];exact setRow_heap W1 N ROW.toArray _ _ _ QY
 have hgb:W2.drew.heap[b]?=some (.cells cur tt fr):=by
  show W2.heap[b]?=_
  rw[WG,setRow_other W1 N b _ (by omega),Rt b hbw];exact hg
 have Yb:∀ty dc sc,(Builtin.copy_ #[(ρ.t 24),(ρ.t 24)] ty #[.slice (some ⟨N,(i+m)*k,none⟩) (n+m-(i+m)) dc,.slice (some ⟨b,i*k,none⟩) (n-i) sc]).run P W2.drew =
   .ok (goInt (Nat.min (n-i) (n+m-(i+m)))) (W2.drew.setRow N (splice (splice ROW (i*k) vs) ((i+m)*k) ((cur.toList.take (n*k)).drop (i*k))).toArray):=fun ty dc sc=>by
  have:=uW (P:=P) W2.drew (ρ.t 24) (ρ.t 24) ty (ρ.t 9) N ((i+m)*k) (n+m-(i+m)) dc ⟨b,i*k,none⟩ (n-i) sc k ((cur.toList.take (n*k)).drop (i*k)) L.t24 L.i9 (by
    rw[hl1];congr 1;show n-i=min (n-i) (n+m-(i+m));omega)
   (fun j v hj=>by
    rw[Addr.add_lit,cell_of_heap hgb]
    rw[List.getElem?_drop,List.getElem?_take] at hj
    split at hj
    ·simpa using hj
    ·cases hj) UZ (pP _) (by rw[hl1,List.size_toArray,hs2];omega) (fun v hv=>h1c v (List.mem_of_mem_drop hv))
  simpa using this
 have hG63:G≤9223372036854775807:=by have:=Xq;unfold maxLen at this;omega
 have hGi:¬(G=i):=by omega
 have Z9:¬(G=i+m):=by omega
 have hci:¬(c=i):=by omega
 have hw1:IntKind.i64.wrap ((i:Int)+(m:Int))=(i:Int)+(m:Int):=by rw[IntKind.wrap_i64];omega
 have hb1:(0:Int)≤(i:Int)+(m:Int):=by omega
 have hin:i≤n:=by omega
 have htn:((i:Int)+(m:Int)).toNat=i+m:=by omega
 have hb3:(i:Int)≤(n:Int):=by omega
 have fin:∀(e:Ending) (w':World),(e=.returned (.slice (some ⟨N,0,none⟩) (n+m) G)∧w'=W2.drew.setRow N (splice (splice ROW (i*k) vs) ((i+m)*k) ((cur.toList.take (n*k)).drop (i*k))).toArray) →
   ∃(G:Nat) (Z:List Value),n+m≤G∧G≤maxLen∧(cur.toList.take (i*k)++Z).length=G*k∧e=.returned (.slice (some ⟨w.heap.size,0,none⟩) (n+m) G) ∧
   w'=(((w.drew.alloc (.cells (cur.toList.take (i*k)++Z).toArray (ρ.t 9))).setRow w.heap.size (splice (cur.toList.take (i*k)++Z) (i*k) vs).toArray).drew).setRow w.heap.size (splice (splice (cur.toList.take (i*k)++Z) (i*k) vs) ((i+m)*k) ((cur.toList.take (n*k)).drop (i*k))).toArray:=by
  rintro e w' ⟨rfl,rfl⟩
  refine⟨G,Z,hGn,Xq,by rw[←Rs];exact hRl,by rw[hN],?_⟩
  rw[←Rs,←hN,WG,SQ]
 refine Calls.mono ?_ fin
 rw[←SQ] at VT
 rw[←WG] at WE
 clear QY Rt UZ hgb SQ WG hs2 hl1 Nn WD Z8 hRl Rs Y5 hzl hrow hZ hG hGn Xq Y4 hold hkk Ya hik hnk IG fin hN hbw
 go_enter L.f22,Body2.n22_ntmps ρ
 go_wp2_with (first
  | (at_builtin;refine Lib.wpList_append_run _ rfl _ _ _ _ rfl _ _ rfl rfl _ _ (VT _) ?_)
  | (at_builtin;refine wpList_copy_runI _ rfl _ _ (ρ.t 24) (ρ.t 24) rfl _ _ rfl rfl (WE _ _) ?_))
 go_region_law_o (refine step_copy_runI rfl _ _ (ρ.t 24) (ρ.t 24) rfl _ _ (by simp[Act.eval,Act.put]) (by simp[Act.eval,Act.put]) (Yb _ _ _) ?_)
 go_wp2
 go_ret
 exact⟨rfl,rfl⟩
end Go.Ge
namespace Go.Ge
open RowKit Go.Shelf Go.Lib Go.Proofs
theorem cX{cs es:List Value}{o:Nat}(h:o+es.length≤cs.length)(j:Nat):(splice cs o es)[j]?=if j<o then cs[j]? else if j<o+es.length then es[j-o]? else cs[j]?:=by
 unfold splice
 rw[List.append_assoc,List.getElem?_append]
 have hl:(cs.take o).length=o:=by rw[List.length_take];omega
 rw[hl]
 by_cases h1:j<o
 ·rw[if_pos h1,if_pos h1,List.getElem?_take,if_pos h1]
 ·rw[if_neg h1,if_neg h1,List.getElem?_append]
  by_cases h2:j<o+es.length
  ·rw[if_pos (by omega),if_pos h2]
  ·rw[if_neg (by omega),if_neg h2,List.getElem?_drop]
   congr 1;omega
theorem BS{L L':List Value}{p p' s:Nat}(h:∀j,j<s→L[p+j]?=L'[p'+j]?):(L.drop p).take s=(L'.drop p').take s:=by
 apply List.ext_getElem?
 intro j
 rw[List.getElem?_take,List.getElem?_take]
 by_cases hj:j<s
 ·rw[if_pos hj,if_pos hj,List.getElem?_drop,List.getElem?_drop];exact h j hj
 ·rw[if_neg hj,if_neg hj]
theorem HN{w:World}{I:Nat→Nat→Prop}{e:Ty}{l ml:List e.den}{cur vs F:List Value}{i n m:Nat}(QE:l.length=n)(hml:ml.length=m)(hi:i≤n)(h1:∀(q:Nat) (x:e.den),l[q]?=some x→bE w I e x ((cur.drop (q*e.size)).take e.size))(h2:dS w I e ml vs)
  (hF1:∀j,j<i*e.size→F[j]?=cur[j]?) (hF2:∀j,j<m*e.size→F[i*e.size+j]?=vs[j]?) (hF3:∀j,j<(n-i)*e.size→F[(i+m)*e.size+j]?=cur[i*e.size+j]?) :
  ∀(q:Nat) (x:e.den),(l.take i++ml++l.drop i)[q]?=some x→bE w I e x ((F.drop (q*e.size)).take e.size):=by
 intro q x hx
 have Yc:(l.take i).length=i:=by rw[List.length_take];omega
 have step:∀{a b:Nat},a<b→∀j,j<e.size→a*e.size+j<b*e.size:=fun {a b} hab j hj=>by
  have:(a+1)*e.size≤b*e.size:=Nat.mul_le_mul_right _ hab
  rw[Nat.add_mul,Nat.one_mul] at this
  omega
 rw[List.append_assoc,List.getElem?_append,Yc] at hx
 split at hx
 ·rename_i hq
  rw[List.getElem?_take,if_pos hq] at hx
  rw[BS (L':=cur) (p':=q*e.size) fun j hj=>hF1 _ (step hq j hj)]
  exact h1 q x hx
 ·rename_i hq
  obtain⟨r,rfl⟩:∃r,q=i+r:=⟨q-i,by omega⟩
  rw[show i+r-i=r by omega,List.getElem?_append,hml] at hx
  split at hx
  ·rename_i hr
   rw[BS (L':=vs) (p':=r*e.size) fun j hj=>by
    rw[Nat.add_mul,Nat.add_assoc];exact hF2 _ (step hr j hj)]
   exact h2 r x hx
  ·rename_i hr
   obtain⟨u,rfl⟩:∃u,r=m+u:=⟨r-m,by omega⟩
   rw[show m+u-m=u by omega,List.getElem?_drop] at hx
   have hu:i+u<n:=by rw[←QE];exact(List.getElem?_eq_some_iff.1 hx).1
   rw[BS (L':=cur) (p':=(i+u)*e.size) fun j hj=>by
    have:=hF3 (u*e.size+j) (step (show u<n-i by omega) j hj)
    rw[show(i+(m+u))*e.size+j=(i+m)*e.size+(u*e.size+j) by rw[←Nat.add_assoc i m u,Nat.add_mul (i+m) u,Nat.add_assoc],this]
    congr 1;rw[Nat.add_mul];omega]
   exact h1 (i+u) x hx
theorem Dv{P:Program}(w:World)(tS tR e:TypeId)(ht:P.underlying tS=some (.slice e))(size:Nat)(hz:∀w,(Go.sizeOf e).run P w=.ok size w)
  (a b:Addr) (la ca lb cb:Nat) (hne:a.block≠b.block) (tA tB:TypeId) (kA kB:Nat)
  (hsa:w.shape? a.block=some (tA,kA)) (hsb:w.shape? b.block=some (tB,kB)) (hkA:kA≠0)
  (hfb:w.frozen? b=false) (hfe:w.frozen? { block:=b.block,off:=kB }=false) :
  (Extern.SlicesOverlaps.overlaps #[tS,tS] #[tR] #[.slice (some a) la ca,.slice (some b) lb cb]).run P w=.ok (.bool false) w:=by
 have hnb:(a.block != b.block)=true:=by simpa using hne
 have Yd:(a.block==b.block)=false:=by simpa using hne
 change Sem.run P (α:=Value) (do
  let some t:=(#[tS,tS]:Array TypeId)[0]?|stuck "slices.overlaps: no parameter types"
  let .slice elem ←underlying t|stuck "slices.overlaps: slice type expected"
  let size ←sizeOf elem
  match(some a:Option Addr),(some b:Option Addr) with
  | some a,some b =>
    if la=0∨lb=0∨size=0 then pure (Value.bool false)
    else if a.block != b.block&&(←frozen a)&&(←frozen b) then unsupported .addressObserved
    else do
     if a.block != b.block then do
      noView a;noView b
      if ←mayBeOne a b then return Value.bool ((←choose (.extern "sameAddr.stringBytes" 2))==1)
     pure (Value.bool (a.block==b.block&&a.off<b.off+lb*size&&b.off<a.off+la*size))
  | _,_=>pure (Value.bool false)) w=_
 by_cases h0:la=0∨lb=0∨size=0
 ·simp[run_underlying ht,hz,h0]
 ·cases kA with
  | zero=>exact absurd rfl hkA
  | succ kA =>
    cases hfa:w.frozen? a<;>cases Ye:w.frozen? { block:=a.block,off:=kA+1 } <;>
     simp[run_underlying ht,hz,h0,hnb,Yd,frozen,noView,viewAt,mayBeOne,stringish,shape,Sem.run,hsa,hsb,hfa,Ye,hfb,hfe]
def Ru{α:Type}(l:List α)(i:Int)(m:List α):Option (List α):=bif inside 0 i (len l)&&fits (plus (len l) (len m)) then some (l.take i.toNat++m++l.drop i.toNat) else none
variable {P:Program} {ρ:Ren} {nm:String}
theorem HO{w:World}{b o:Nat}{cur:Array Value}{tt:TypeId}{fr:Nat×Nat}(hg:w.heap[b]?=some (.cells cur tt fr))(h:¬(fr.1≤o∧o<fr.2)):w.frozen? ⟨b,o,none⟩=false:=by
 obtain⟨f1,f2⟩:=fr
 simp only[World.frozen?,hg]
 simp only[not_and,Nat.not_lt] at h
 simp
 exact h
theorem Om{e:Ty}(L:KW P ρ nm e.size)(hnm:(nm == "runtime.NumGoroutine")=false)(he:Den P e (ρ.t 9))(hby:BA P (ρ.t 9)=true)(hpos:0<e.size)(hint:e.isInt=false) :
  nu P (ρ.f 22) (.own e (.pair (.int .i64) (.pair (.slice e) .unit)) true fun l x=>Ru (α:=e.den) l x.1 x.2.1):=by
 refine⟨⟨_,_,L.f22,hnm,rfl⟩,fun I w args v rest l l' L0 x hI hargs hown sJ hspec=>?_⟩
 obtain⟨xi,ml,xu⟩:=x
 change Int at xi
 change List e.den at ml
 obtain⟨N4,r1,rfl,QN,J4,r2,rfl,hc2,rfl⟩:=sJ
 obtain⟨QN,hmin,hmax⟩:=QN
 subst QN
 change Ru (α:=e.den) l xi ml=some l' at hspec
 have hsp:(inside 0 xi (len l)&&fits (plus (len l) (len ml)))=true∧l'=l.take xi.toNat++ml++l.drop xi.toNat:=by
  unfold Ru at hspec
  cases hq:(inside 0 xi (len l)&&fits (plus (len l) (len ml))) with
  | true=>rw[hq] at hspec;exact⟨rfl,(Option.some.inj hspec).symm⟩
  | false=>rw[hq] at hspec;cases hspec
 obtain⟨On,rfl⟩:=hsp
 simp only[Bool.and_eq_true] at On
 obtain⟨_,hx0,hxl⟩:=iS On.1
 have hfit:l.length+ml.length≤4294967296:=by
  have:fits (((l.length+ml.length:Nat)):Int)=true:=by rw[←On.2];simp[plus,len]
  exact Em this
 obtain⟨i,rfl⟩:∃i:Nat,xi=i:=⟨xi.toNat,by omega⟩
 have Wh:i≤l.length:=by simp only[len] at hxl;omega
 rw[Int.toNat_natCast]
 obtain⟨v2,rfl⟩:∃v2,J4=[v2]:=by
  rcases hc2 with ⟨⟨base,q⟩,_⟩|⟨_,_,_,q,_⟩<;>exact⟨_,q⟩
 have U3:args=#[v,.int .i64 i,v2]:=by apply Array.toList_inj.1;rw[hargs];rfl
 subst U3
 obtain⟨ie,ze,e1,e2,e3,e4⟩:=he.info
 have hbs:=wB hby e1
 have SL:ze.cells.size=e.size:=by rw[←dF e,←e4];simp
 have Rv:∀{w':World},w'=w→∃I',qe w I (fun k=>∃c,L0=some (k,c)) w' I'∧I'=I:=fun {w'} hw=>⟨I,by subst hw;exact qe.mk' rfl rfl rfl (Nat.le_refl _) (fun _ _ _=>rfl) hI,rfl⟩
 rcases hc2 with ⟨⟨Ul,q2⟩,Rw⟩|⟨vb,voff,vc,q2,hvc,L5,Ta⟩
 ·
  obtain rfl:v2=.slice Ul 0 0:=by simpa using q2
  have Rw:ml=[]:=Rw
  subst Rw
  have hres:l.take i++([]:List e.den)++l.drop i=l:=by simp
  obtain⟨base,n,c,hv,QJ,hnc⟩:∃base n c,v=.slice base n c∧n=l.length∧n≤c:=by
   rcases hown with ⟨_,rfl,rfl⟩|⟨blk,cap,cur,tid,fr,_,rfl,_,_,q5,_⟩
   ·exact⟨none,0,0,rfl,rfl,Nat.le_refl _⟩
   ·exact⟨_,_,_,rfl,rfl,q5⟩
  subst hv
  refine(CG L base Ul n c i 0 w (by omega) hnc).mono fun q w' hw=>?_
  obtain⟨rfl,rfl⟩:=hw
  obtain⟨I',L4,rfl⟩:=Rv rfl
  refine⟨I',L4,_,L0,rfl,?_,fun blk c h=>.inl ⟨c,h⟩⟩
  rw[hres];exact hown
 ·have Ta:∀(i:Nat) (x:e.den),ml[i]?=some x→_:=Ta
  obtain rfl:v2=.slice (some ⟨vb,voff,none⟩) ml.length vc:=by simpa using q2
  obtain⟨news,n1,n2,n3,n4⟩:=za (w:=w) (I:=I) (l:=ml) (blk:=vb) (off:=voff) fun i x hx=>by
   obtain⟨es,a1,a2,a3⟩:=Ta i x hx
   exact⟨es,a1,fun j c hj=>(a2 j c hj).1,a3⟩
  have hel:dS w I e ml news:=n4
  rcases Nat.eq_zero_or_pos ml.length with hm0|hm0
  ·
   have Rw:ml=[]:=List.length_eq_zero_iff.1 hm0
   subst Rw
   have hres:l.take i++([]:List e.den)++l.drop i=l:=by simp
   obtain⟨base,n,c,hv,QJ,hnc⟩:∃base n c,v=.slice base n c∧n=l.length∧n≤c:=by
    rcases hown with ⟨_,rfl,rfl⟩|⟨blk,cap,cur,tid,fr,_,rfl,_,_,q5,_⟩
    ·exact⟨none,0,0,rfl,rfl,Nat.le_refl _⟩
    ·exact⟨_,_,_,rfl,rfl,q5⟩
   subst hv
   refine(CG L base (some ⟨vb,voff,none⟩) n c i vc w (by omega) hnc).mono fun q w' hw=>?_
   obtain⟨rfl,rfl⟩:=hw
   obtain⟨I',L4,rfl⟩:=Rv rfl
   refine⟨I',L4,_,L0,rfl,?_,fun blk c h=>.inl ⟨c,h⟩⟩
   rw[hres];exact hown
  ·
   have Yf:I vb voff∧vb<w.heap.size∧∃A tA Xr,w.heap[vb]?=some (.cells A tA Xr)∧A.size≠0:=by
    obtain⟨x0,hx0'⟩:∃x0,ml[0]?=some x0:=⟨_,List.getElem?_eq_getElem hm0⟩
    obtain⟨es,a1,a2,a3⟩:=Ta 0 x0 hx0'
    have Qg:0<es.length:=by omega
    obtain⟨b1,b2⟩:=a2 0 es[0] (List.getElem?_eq_getElem Qg)
    simp only[Nat.zero_mul,Nat.add_zero] at b1 b2
    refine⟨b2,hI _ _ b2,?_⟩
    simp only[World.cell?] at b1
    split at b1
    ·rename_i A tA Xr hA
     refine⟨A,tA,Xr,hA,fun h0=>?_⟩
     simp at b1
     have:=(Array.getElem?_eq_some_iff.1 b1).1
     omega
    ·cases b1
   obtain⟨Yf,Xp,A,tA,Xr,hA,hA0⟩:=Yf
   have hsrc:Src P e.size (ρ.t 24) (.slice (some ⟨vb,voff,none⟩) ml.length vc) ml.length news w:=Src.ofSlice w L.t24 ⟨vb,voff,none⟩ ml.length vc news n1 (fun j u hj=>by rw[addr_add];exact n2 j u hj) n3
   have nh:∀{w':World} {cap:Nat} {cells:Array Value} {blk:Nat} {fr':Nat×Nat},w'.os=w.os→w'.tape=w.tape→w'.output=w.output→w.heap.size≤w'.heap.size→(∀q,q<w.heap.size→w'.heap[q]?=w.heap[q]?) →
     blk=w.heap.size→w'.heap[blk]?=some (.cells cells (ρ.t 9) (0,0))→l.length+ml.length≤cap→cap≤maxLen→cells.size=cap*e.size →
     (∀(q:Nat) (x:e.den),(l.take i++ml++l.drop i)[q]?=some x→bE w I e x ((cells.toList.drop (q*e.size)).take e.size)) →
     ∃I',qe w I (fun k=>∃c,L0=some (k,c)) w' I'∧∃v' L',Ending.returned (.slice (some ⟨w.heap.size,0,none⟩) (l.length+ml.length) cap)=.returned v'∧ud w' I' e (l.take i++ml++l.drop i) L' v'∧∀blk c,L'=some (blk,c)→(∃c,L0=some (blk,c))∨w.heap.size≤blk:=by
    intro w' cap cells blk fr' o1 o2 o3 o4 o5 hbk hnew QN hc2 VQ U4
    subst hbk
    have hlen:(l.take i++ml++l.drop i).length=l.length+ml.length:=by simp;omega
    refine⟨I,qe.mk' o1 o2 o3 o4 (fun q hq _=>o5 q hq) hI,_,some (w.heap.size,cap),rfl,.inr ⟨w.heap.size,cap,cells,ρ.t 9,(0,0),rfl,by rw[hlen],hnew,tY _ _,by rw[hlen];exact QN,hc2,VQ,fun o hi=>by have:=hI _ _ hi;omega,fun q x hx=>?_⟩,fun blk c h=>by
     obtain⟨rfl,_⟩:=Prod.mk.inj (Option.some.inj h)
     exact .inr (Nat.le_refl _)⟩
    exact bE.mono (fun _ _ h=>h) (fun b o hi=>cQ (o5 b (hI b o hi))) (U4 q x hx)
   rcases hown with ⟨rfl,rfl,rfl⟩|⟨blk,cap,cur,tid,fr,rfl,rfl,q3,q4,q5,q6,q7,q8,q9⟩
   ·
    obtain rfl:i=0:=by simpa using Wh
    obtain⟨cap,cells,g1,g2,g3,g4,g5⟩:=wE (P:=P) (I:=I) (ty:=ρ.t 24) (l:=([]:List e.den)) (base:=none) (sCap:=0) (olds:=[]) L.t24 he hby (by simpa using run_firstCells_none w.drew e.size 0 0 0) (by simp) (fun i x hx=>by cases hx) hsrc hel
     (by simpa using hm0) (by simpa using hfit)
    simp only[List.length_nil,Nat.zero_add,List.nil_append] at g1 g2 g5
    refine(Jh L none 0 0 ml.length vc (some ⟨vb,voff,none⟩) w _ _ hm0 (Nat.le_refl _) g1).mono fun q w' hw=>?_
    obtain⟨rfl,rfl⟩:=hw
    have:=nh (w':=w.drew.alloc (.cells cells (ρ.t 9))) (fr':=(0,0)) rfl rfl rfl (by simp) (fun q hq=>cr w.drew _ q hq) rfl (heap_alloc_new w.drew _) (by simpa using g2) g3 g4 (fun q x hx=>g5 q x (by simpa using hx))
    simpa using this
   ·have Qz:blk<w.heap.size:=(Array.getElem?_eq_some_iff.1 q3).1
    have hcl:cur.toList.length=cap*e.size:=by simpa using q7
    have hlk:l.length*e.size≤cap*e.size:=Nat.mul_le_mul_right _ q5
    have hne:vb≠blk:=fun h=>q8 voff (h▸Yf)
    have hone:∀v∈cur.toList.take (l.length*e.size),v.oneCell'=true:=by
     intro v hv
     obtain⟨j,hj⟩:=List.mem_iff_getElem?.1 hv
     rw[List.getElem?_take] at hj
     split at hj
     ·rename_i hjl
      have hd:j / e.size<l.length:=by rw[Nat.div_lt_iff_lt_mul hpos];exact hjl
      have hm:=q9 (j / e.size) l[j / e.size] (List.getElem?_eq_getElem hd)
      refine hm.one v ?_
      have hmod:=Nat.mod_lt j hpos
      have hjj:j / e.size*e.size+j % e.size=j:=by rw[Nat.mul_comm];exact Nat.div_add_mod j e.size
      refine List.mem_of_getElem? (i:=j % e.size) ?_
      rw[List.getElem?_take,if_pos hmod,List.getElem?_drop,hjj];exact hj
     ·cases hj
    have Um:∀{w':World} {F:List Value},w'.os=w.os→w'.tape=w.tape→w'.output=w.output→w.heap.size≤w'.heap.size→(∀q,q<w.heap.size→q≠blk→w'.heap[q]?=w.heap[q]?) →
      w'.heap[blk]?=some (.cells F.toArray tid fr)→F.length=cap*e.size→l.length+ml.length≤cap →
      (∀(q:Nat) (x:e.den),(l.take i++ml++l.drop i)[q]?=some x→bE w I e x ((F.drop (q*e.size)).take e.size)) →
      ∃I',qe w I (fun k=>∃c,some (blk,cap)=some (k,c)) w' I'∧∃v' L',Ending.returned (.slice (some ⟨blk,0,none⟩) (l.length+ml.length) cap)=.returned v'∧ud w' I' e (l.take i++ml++l.drop i) L' v'∧∀b c,L'=some (b,c)→(∃c,some (blk,cap)=some (b,c))∨w.heap.size≤b:=by
     intro w' F o1 o2 o3 o4 o5 hnew hF hroom U4
     have hlen:(l.take i++ml++l.drop i).length=l.length+ml.length:=by simp;omega
     have hsz:F.toArray.size=cur.size:=by rw[List.size_toArray,hF,q7]
     refine⟨I,qe.mk' o1 o2 o3 o4 (fun q hq hn=>o5 q hq fun e=>hn ⟨cap,by rw[e]⟩) hI,_,some (blk,cap),rfl,.inr ⟨blk,cap,F.toArray,tid,fr,rfl,by rw[hlen],hnew,q4.same hsz,by rw[hlen];exact hroom,q6,by rw[hsz];exact q7,q8,fun q x hx=>?_⟩,fun b c h=>.inl ⟨c,h⟩⟩
     refine bE.mono (fun _ _ h=>h) (fun b o hi=>cQ (o5 b (hI b o hi) fun e=>?_)) (U4 q x hx)
     subst e
     exact q8 o hi
    rcases Nat.lt_or_ge i l.length with hin|hin
    ·rcases Nat.lt_or_ge cap (l.length+ml.length) with hroom|hroom
     ·
      refine(Rr L blk l.length cap i vb voff ml.length vc [] news w e1 e2 e3 SL hpos hbs hin hm0 q5 hroom hfit q3 q7 hone n1 n2 Xp n3).mono fun q w' hw=>?_
      obtain⟨G,Z,Wq,hG2,hZ,rfl,rfl⟩:=hw
      have hRk:(l.length+ml.length)*e.size≤G*e.size:=Nat.mul_le_mul_right _ Wq
      have hb1:i*e.size+news.length≤(cur.toList.take (i*e.size)++Z).length:=by
       rw[hZ,n1,←Nat.add_mul];exact Nat.mul_le_mul_right _ (by omega)
      have hs1:=bN hb1
      have hl1:((cur.toList.take (l.length*e.size)).drop (i*e.size)).length=(l.length-i)*e.size:=by
       rw[List.length_drop,List.length_take,Nat.min_eq_left (by omega),Nat.sub_mul]
      have hb2:(i+ml.length)*e.size+((cur.toList.take (l.length*e.size)).drop (i*e.size)).length≤(splice (cur.toList.take (i*e.size)++Z) (i*e.size) news).length:=by
       rw[hs1,hZ,hl1,←Nat.add_mul];exact Nat.mul_le_mul_right _ (by omega)
      have hs2:=bN hb2
      have hik:i*e.size≤l.length*e.size:=Nat.mul_le_mul_right _ (by omega)
      have Yc:(cur.toList.take (i*e.size)).length=i*e.size:=by rw[List.length_take];omega
      have hnew:(((w.drew.alloc (.cells (cur.toList.take (i*e.size)++Z).toArray (ρ.t 9))).setRow w.heap.size (splice (cur.toList.take (i*e.size)++Z) (i*e.size) news).toArray).drew.setRow w.heap.size (splice (splice (cur.toList.take (i*e.size)++Z) (i*e.size) news) ((i+ml.length)*e.size) ((cur.toList.take (l.length*e.size)).drop (i*e.size))).toArray).heap[w.heap.size]? =
        some (.cells (splice (splice (cur.toList.take (i*e.size)++Z) (i*e.size) news) ((i+ml.length)*e.size) ((cur.toList.take (l.length*e.size)).drop (i*e.size))).toArray (ρ.t 9) (0,0)) :=
       setRow_heap _ _ _ _ _ _ (show((w.drew.alloc (.cells (cur.toList.take (i*e.size)++Z).toArray (ρ.t 9))).setRow w.heap.size (splice (cur.toList.take (i*e.size)++Z) (i*e.size) news).toArray).drew.heap[w.heap.size]?=_ from setRow_heap _ _ _ _ _ _ (heap_alloc_new w.drew _))
      refine nh (fr':=(0,0)) rfl rfl rfl (by simp) (fun q hq=>?_) rfl hnew Wq hG2 (by rw[List.size_toArray,hs2,hs1,hZ]) ?_
      ·rw[setRow_other _ _ _ _ (by omega)]
       show((w.drew.alloc _).setRow w.heap.size _).heap[q]?=_
       rw[setRow_other _ _ _ _ (by omega)]
       exact cr w.drew _ q hq
      ·refine HN (cur:=cur.toList) (vs:=news) (n:=l.length) (m:=ml.length) rfl rfl Wh q9 hel (fun j hj=>?_) (fun j hj=>?_) (fun j hj=>?_)
       ·rw[cX hb2,if_pos (by rw[Nat.add_mul];omega),cX hb1,if_pos hj,List.getElem?_append_left (by rw[Yc];exact hj),List.getElem?_take,if_pos hj]
       ·rw[cX hb2,if_pos (by rw[Nat.add_mul];omega),cX hb1,if_neg (by omega),if_pos (by rw[n1];omega)]
        congr 1;omega
       ·rw[cX hb2,if_neg (by omega),if_pos (by rw[hl1];omega),List.getElem?_drop,List.getElem?_take,if_pos (by
         have:i*e.size+(l.length-i)*e.size=l.length*e.size:=by rw[←Nat.add_mul];congr 1;omega
         omega)]
        congr 1;omega
     ·
      have hmk:(l.length+ml.length)*e.size≤cap*e.size:=Nat.mul_le_mul_right _ hroom
      have Nn:(i+ml.length)*e.size≤cap*e.size:=Nat.mul_le_mul_right _ (by omega)
      refine(Pj L blk l.length cap i vb voff ml.length vc [] news w hin hm0 hroom (by unfold maxLen at q6;omega) hne q3 q4.th q7 hone n1 n2 n3 (fun lb cb=>?_)).mono fun q w' hw=>?_
      ·refine Dv w _ _ (ρ.t 9) L.t24 e.size L.z9 ⟨vb,voff,none⟩ ⟨blk,(i+ml.length)*e.size,none⟩ ml.length vc lb cb hne tA tid A.size cur.size (by simp[World.shape?,hA]) (by simp[World.shape?,q3]) hA0 ?_ ?_
       ·refine HO q3 ?_
        rcases Nat.lt_or_ge ((i+ml.length)*e.size) cur.size with hlt|hge
        ·exact q4.th _ hlt
        ·have:(i+ml.length)*e.size=cur.size:=by omega
         rw[this];exact q4.um hint
       ·exact HO q3 (q4.um hint)
      ·obtain⟨rfl,rfl⟩:=hw
       have hik:i*e.size≤l.length*e.size:=Nat.mul_le_mul_right _ (by omega)
       have hl1:((cur.toList.take (l.length*e.size)).drop (i*e.size)).length=(l.length-i)*e.size:=by
        rw[List.length_drop,List.length_take,Nat.min_eq_left (by omega),Nat.sub_mul]
       have hb1:(i+ml.length)*e.size+((cur.toList.take (l.length*e.size)).drop (i*e.size)).length≤cur.toList.length:=by
        rw[hl1,hcl,←Nat.add_mul];exact Nat.mul_le_mul_right _ (by omega)
       have hs1:=bN hb1
       have hb2:i*e.size+news.length≤(splice cur.toList ((i+ml.length)*e.size) ((cur.toList.take (l.length*e.size)).drop (i*e.size))).length:=by
        rw[hs1,hcl,n1,←Nat.add_mul];exact Nn
       have hs2:=bN hb2
       refine Um rfl rfl rfl (by simp) (fun q hq U5=>?_) (setRow_heap _ _ _ _ _ _ (setRow_heap w.drew blk cur _ tid fr q3)) (by rw[hs2,hs1,hcl]) hroom ?_
       ·rw[setRow_other _ _ _ _ U5,setRow_other _ _ _ _ U5];rfl
       ·refine HN (cur:=cur.toList) (vs:=news) (n:=l.length) (m:=ml.length) rfl rfl Wh q9 hel (fun j hj=>?_) (fun j hj=>?_) (fun j hj=>?_)
        ·rw[cX hb2,if_pos hj,cX hb1,if_pos (by rw[Nat.add_mul];omega)]
        ·rw[cX hb2,if_neg (by omega),if_pos (by rw[n1];omega)]
         congr 1;omega
        ·rw[cX hb2,if_neg (by rw[Nat.add_mul];omega),if_neg (by rw[n1,Nat.add_mul];omega),cX hb1,if_neg (by omega),if_pos (by rw[hl1];omega),List.getElem?_drop,List.getElem?_take,if_pos (by
          have:i*e.size+(l.length-i)*e.size=l.length*e.size:=by rw[←Nat.add_mul];congr 1;omega
          omega)]
         congr 1;omega
    ·
     obtain rfl:i=l.length:=by omega
     have hres:l.take l.length++ml++l.drop l.length=l++ml:=by simp
     rcases Nat.lt_or_ge cap (l.length+ml.length) with hroom|hroom
     ·have XH:=run_firstCells_some (P:=P) w.drew e.size l.length ⟨blk,0,none⟩ l.length cap (cur.toList.take (l.length*e.size)) (by rw[List.length_take];omega) (fun j v hj=>by
       rw[addr_add]
       show w.cell? ⟨blk,0+j,none⟩=some v
       rw[cell_of_heap q3]
       rw[List.getElem?_take] at hj
       split at hj
       ·simpa using hj
       ·cases hj)
      obtain⟨cap2,cells,g1,g2,g3,g4,g5⟩:=wE (P:=P) (I:=I) (ty:=ρ.t 24) (l:=l) (base:=some ⟨blk,0,none⟩) (sCap:=cap) L.t24 he hby XH (by rw[List.length_take];omega) (dS.front (n:=l.length*e.size) q9 (Nat.le_refl _) (by omega)) hsrc hel hroom hfit
      refine(Jh L _ l.length cap ml.length vc _ w _ _ hm0 q5 g1).mono fun q w' hw=>?_
      obtain⟨rfl,rfl⟩:=hw
      exact nh (w':=w.drew.alloc (.cells cells (ρ.t 9))) (fr':=(0,0)) rfl rfl rfl (by simp) (fun q hq=>cr w.drew _ q hq) rfl (heap_alloc_new w.drew _) g2 g3 g4 (by rw[hres];exact g5)
     ·have QJ:=hsrc.newsLen
      have hmul:(l.length+ml.length)*e.size≤cap*e.size:=Nat.mul_le_mul_right _ hroom
      rw[Nat.add_mul] at hmul
      have hlen:l.length*e.size+news.length≤cur.toList.length:=by rw[QJ,hcl];exact hmul
      have hrun:=nr (P:=P) (t:=ρ.t 24) (tx:=ρ.t 24) (ty:=ρ.t 24) (sCap:=cap) L.t24 (L.z9 w) hsrc q3 q4.th hroom (by simpa using hlen)
      refine(Jh L _ l.length cap ml.length vc _ w _ _ hm0 q5 hrun).mono fun q w' hw=>?_
      obtain⟨rfl,rfl⟩:=hw
      refine Um rfl rfl rfl (by simp) (fun q hq U5=>setRow_other _ _ _ _ U5) (setRow_heap w blk cur _ tid fr q3) (by rw[bN hlen,hcl]) hroom ?_
      rw[hres]
      have:=(dS.front (n:=l.length*e.size) q9 (Nat.le_refl _) (by omega)).append (rest:=cur.toList.drop (l.length*e.size+news.length)) hel (by rw[List.length_take];omega) QJ
      exact this
end Go.Ge
namespace Go.Ge
open RowKit Go.Shelf Go.Lib Go.Proofs
structure Y6 (P:Program) (ρ:Ren) (nm:String) (k:Nat) (z:Value):Prop where
 mixed:P.follows .mixedOrders=true
 f24:P.funcs[ρ.f 24]?=some { Body2.n24 ρ with name:=nm }
 t3:P.underlying (ρ.t 3)=some (TypeDesc.int IntKind.i64)
 t4:P.underlying (ρ.t 4)=some TypeDesc.bool
 t24:P.underlying (ρ.t 24)=some (TypeDesc.slice (ρ.t 9))
 z9:∀w,(Go.sizeOf (ρ.t 9)).run P w=.ok k w
 v9:∀w,(zeroValue (ρ.t 9)).run P w=.ok z w
variable {P:Program} {ρ:Ren} {nm:String} {k:Nat} {z:Value}
end Go.Ge
namespace Go.Ge
set_option linter.unusedVariables false
def Dw{α:Type}(a b:Option α):Prop:=∀y,a=some y→b=some y
theorem Dw.refl{α:Type}(a:Option α):Dw a a:=fun _ h=>h
theorem Dw.ah{α β:Type}{a a':Option α}{f f':α→Option β}(h:Dw a a')(k:∀x,Dw (f x) (f' x)):Dw (ah a f) (ah a' f'):=fun y hy=>by
 cases a with
 | none=>cases hy
 | some x=>rw[h x rfl];exact k x y hy
theorem Dw.au{α:Type}{c:Bool}{a a' b b':Option α}(h:Dw a a')(k:Dw b b'):Dw (au c a b) (au c a' b'):=by cases c<;>assumption
theorem Dw.cond{α:Type}{c:Bool}{a a' b b':Option α}(h:Dw a a')(k:Dw b b'):Dw (cond c a b) (cond c a' b'):=by cases c<;>assumption
theorem Dw.jj{S:Type}{a b:Option (S⊕(Nat×S))}(h:Dw a b):Dw (jj a) (jj b):=fun y hy=>by
 cases a with
 | none=>cases hy
 | some x=>rw[h x rfl];exact hy
theorem Dw.pick{α β γ:Type}{f f':α→Option γ}{g g':β→Option γ}{x:α⊕β}(h:∀y,Dw (f y) (f' y))(k:∀y,Dw (g y) (g' y)):Dw (pick f g x) (pick f' g' x):=by
 cases x with
 | inl y=>exact h y
 | inr y=>exact k y
def WH{S R:Type}(f:S→Option (S⊕R))(s:S):Option R:=rounds f 100000 s
theorem Dw.loop{S R:Type}{f g:S→Option (S⊕R)}{s:S}(h:∀s,Dw (f s) (g s)):Dw (WH f s) (Loop g s):=by
 have key:∀(n:Nat) (s:S),Dw (rounds f n s) (rounds g n s):=by
  intro n
  induction n with
  | zero=>intro s y hy;cases hy
  | succ n ih =>
    intro s y hy
    unfold rounds at hy⊢
    cases hf:f s with
    | none=>rw[hf] at hy;cases hy
    | some x =>
      rw[h s x hf]
      rw[hf] at hy
      cases x with
      | inl s'=>exact ih s' y hy
      | inr r=>exact hy
 exact fun y hy=>mY (key _ s y hy)
end Go.Ge
namespace Go.Ge
set_option linter.unusedVariables false
abbrev Sig:=Nat×Ty×Ty
end Go.Ge
