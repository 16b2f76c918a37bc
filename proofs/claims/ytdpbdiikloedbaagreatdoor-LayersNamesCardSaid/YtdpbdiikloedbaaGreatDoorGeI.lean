/- A ghost interpreter of the model's code, and that it tells the truth: part 9. It says of a function of plain data what a call of it comes to. -/
import Derived.Test.YtdpbdiikloedbaaGreatDoorGeH
import Derived.Shelf.Strings.SplitCore
import Derived.Shelf.Strings.Search3
import Derived.Shelf.Strings.Count
import Derived.Lib.SplitLaws
import Derived.Lib.Join
import Derived.Lib.IndexBytes
import Derived.Shelf.Strconv.Itoa3
import Derived.Shelf.Strconv.ErrVarParseInt
import Derived.Lib.AppendIntMem
import Derived.Lib.ItoaLen
import Derived.Lib.LaidTab
import Derived.LaidSub
import Derived.Sort.EncStr
import Derived.Sort.Grow
import Derived.Lib.SlicesCompact
import Derived.Shelf.Spec.SlicesInsertGrow
import Derived.Deep.RegionLaw
import Derived.Shelf.RegionOpenPlain
set_option linter.unusedVariables false
set_option linter.unusedSimpArgs false
set_option linter.unusedSectionVars false
namespace Go.Ge
open RowKit Go.Proofs Go.Shelf
theorem Any.Vz(s:ByteArray)(c:UInt8):((Lib.countByte s.data.toList c:Nat):Int)=((Lib.countB s ⟨#[c]⟩:Nat):Int):=by
 show((s.data.toList.count c:Nat):Int)=((Lib.count s.data.toList [c]:Nat):Int)
 rw[Lib.count_one]
set_option maxHeartbeats 1000000 in
theorem Any.Ej{P:Program}{ρ:Ren}(L:Lays.n146 P ρ)(hi9:(P.info? (ρ.t 9)).map (fun i=>(i.zero,i.size,i.bytes))=some (some (.string ByteArray.empty),1,16))(s:ByteArray)(b:UInt8)(w:World)
  (hs:s.size<4294967281) :
  Calls P (ρ.f 146) #[.string s,.string ⟨#[b]⟩] w fun e w' =>
   e=.returned (.slice (some ⟨w.heap.size,0,none⟩) (Lib.countB s ⟨#[b]⟩+1) (Lib.countB s ⟨#[b]⟩+1))∧w'=w.alloc (.cells ((Lib.splitB ⟨#[b]⟩ 0 (Lib.countB s ⟨#[b]⟩) s).map Value.string).toArray (ρ.t 9)):=by
 have h1:1≤(⟨#[b]⟩:ByteArray).size:=mq _;generalize hsep:(⟨#[b]⟩:ByteArray)=sep at h1;have hle:=Lib.countB_le sep h1 s.size s (mq _);have hlen:=Lib.splitB_all sep h1 0 _ s rfl;have c:=Proofs.Any.strings_genSplit_core { L with } hi9 s sep 0 (-1) (Lib.countB s sep+1) w hs h1 (w9 _)
  (fun x c hx=>by
   subst hsep;refine(Proofs.Any.strings_Index_one { L with } x b _).mono fun e w' ⟨he,hw⟩=>⟨?_,hw⟩;rw[he];show _=Ending.returned (Value.int .i64 (Lib.index x.data.toList [b]))
   rw[Lib.index_one])
  (by
   subst hsep;refine(Proofs.Any.strings_Count_one { L with } s b w).mono fun e w' ⟨he,hw⟩=>⟨?_,hw⟩;rw[he,Any.Vz])
  (by decide) (by decide) (by rw[bG (by decide)];omega)
 rw[Nat.add_sub_cancel,hlen] at c;have e2:Lib.cellsOf (Lib.splitB sep 0 (Lib.countB s sep) s) (Lib.countB s sep+1)=((Lib.splitB sep 0 (Lib.countB s sep) s).map Value.string).toArray:=by rw[←hlen];exact Lib.cellsOf_full _
 rw[e2] at c;have t3:=L.t3;have t9:=L.t9;have t31:=L.t31;have a3:=L.a3;have a9:=L.a9;have a31:=L.a31;have z3:=L.z3;have v3:=L.v3;have z9:=L.z9;have v9:=L.v9;have z31:=L.z31;have v31:=L.v31;have ajK:∀args w,(callFunc (ρ.f 221) args).run P w=.ok (.enter (ρ.f 221) args) w:=enters_of L.f221 (by kernel_rfl) rfl
 go_enter L.f146,Body.n146_ntmps ρ
 go_wp2_with (go_at_fn (ρ.f 221);refine c.mono ?_;rintro e w' ⟨rfl,hw⟩;rw[hw])
 go_ret
 exact⟨rfl,rfl⟩
def KY(s sep:List UInt8):Option (List (List UInt8)):=match sep with
 | [b]=>if s.length<4294967281 then some (Lib.split s [b]) else none
 | _=>none
theorem XS(sep:List UInt8):∀(k:Nat) (s x:List UInt8),x∈Lib.splitK sep 0 k s→x.length≤s.length:=by
 intro k;induction k with
 | zero=>intro s x h;simp[Lib.splitK] at h;rw[h];exact mq _
 | succ k ih =>
   intro s x h;unfold Lib.splitK at h;split at h
   ·simp at h;rw[h];exact mq _
   ·rcases List.mem_cons.1 h with h|h
    ·rw[h,o6];omega
    ·have:=ih _ _ h;rw[w8] at this;omega
theorem S8{P:Program}{G:fo}{f tid:Nat}{fn:Func}(hP:P.funcs[f]?=some fn)(hname:(fn.name == "runtime.NumGoroutine")=false)(hb:fn.body.isSome=true)
  (h:∀(s:ByteArray) (b:UInt8) (w:World),s.size<4294967281→Calls P f #[.string s,.string ⟨#[b]⟩] w fun e w' =>
   e=.returned (.slice (some ⟨w.heap.size,0,none⟩) (Lib.countB s ⟨#[b]⟩+1) (Lib.countB s ⟨#[b]⟩+1))∧w'=w.alloc (.cells ((Lib.splitB ⟨#[b]⟩ 0 (Lib.countB s ⟨#[b]⟩) s).map Value.string).toArray tid)) :
  Holds P G f ⟨.pair .str (.pair .str .unit),.pair (.slice .str) .unit,fun x=>(KY x.1 x.2.1).map fun y=>(y,())⟩ where
 body:=by
  obtain⟨code,hc⟩:=Option.isSome_iff_exists.1 hb;exact⟨fn,code,hP,hname,hc⟩
 calls:=by
  intro I w args x y hI hG hargs hspec;obtain⟨s,sep,u⟩:=x;change List UInt8 at s;change List UInt8 at sep;obtain⟨z,hz,rfl⟩:=Option.map_eq_some_iff.1 hspec;change KY s sep=some z at hz;have hsep:∃b,sep=[b]∧s.length<4294967281∧z=Lib.split s [b]:=by
   unfold KY at hz;split at hz
   ·rename_i b;split at hz
    ·rename_i hl;exact⟨b,rfl,hl,(aG hz).symm⟩
    ·cases hz
   ·cases hz
  obtain⟨b,rfl,hl,rfl⟩:=hsep;obtain⟨cs,rest,hal,Bc,RA,Ms,S7,Mt,Ei⟩:=hargs;obtain rfl:Ms=[]:=Ei;obtain⟨rfl,Xw⟩:=Bc;obtain⟨rfl,_⟩:=Mt;obtain rfl:args=#[.string ⟨s.toArray⟩,.string ⟨#[b]⟩]:=by
   apply Array.toList_inj.1;rw[hal,S7];rfl
  refine(h ⟨s.toArray⟩ b w (by show s.toArray.size<_;simpa using hl)).mono ?_;rintro e w' ⟨rfl,rfl⟩;have afM:=Lib.splitB_data ⟨#[b]⟩ 0 (Lib.countB ⟨s.toArray⟩ ⟨#[b]⟩) ⟨s.toArray⟩;have hlen:=Lib.splitB_all ⟨#[b]⟩ (mq _) 0 _ ⟨s.toArray⟩ rfl;generalize hsb:Lib.splitB ⟨#[b]⟩ 0 (Lib.countB ⟨s.toArray⟩ ⟨#[b]⟩) ⟨s.toArray⟩=sb at afM hlen;have hd:sb.map (·.data.toList)=Lib.split s [b]:=afM;have hn:(Lib.split s [b]).length=Lib.countB ⟨s.toArray⟩ ⟨#[b]⟩+1:=by rw[←hd,La,hlen]
  have hbig:Lib.countB ⟨s.toArray⟩ ⟨#[b]⟩+1≤maxLen:=by
   have:=Lib.countB_le ⟨#[b]⟩ (mq _) s.length ⟨s.toArray⟩ (by show s.toArray.size≤_;simp);have e:(⟨s.toArray⟩:ByteArray).size=s.length:=by show s.toArray.size=_;simp
   rw[e] at this;have:4294967281≤maxLen:=by decide
   omega
  refine⟨_,fun b o=>I b o∨b=w.heap.size,rfl,(Below.refl _ _).alloc (mq _) _,fun b o h=>.inl h,fun b o h=>?_,fun b o h1 h2=>?_,?_⟩
  ·have hsz:(w.alloc (.cells (sb.map Value.string).toArray tid)).heap.size=w.heap.size+1:=by simp
   rw[hsz];rcases h with h|h
   ·have:=hI b o h;omega
   ·omega
  ·rcases h1 with h1|h1
   ·exact absurd h1 h2
   ·omega
  ·refine⟨[.slice (some ⟨w.heap.size,0,none⟩) (Lib.countB ⟨s.toArray⟩ ⟨#[b]⟩+1) (Lib.countB ⟨s.toArray⟩ ⟨#[b]⟩+1)],?_,rfl⟩;refine .inr ⟨w.heap.size,0,Lib.countB ⟨s.toArray⟩ ⟨#[b]⟩+1,?_,?_,hbig,fun i x hx=>?_⟩
   ·show _=[Value.slice _ (Lib.split s [b]).length _]
    rw[hn]
   ·show(Lib.split s [b]).length≤_
    omega
   ·have hx':(Lib.split s [b])[i]?=some x:=hx;rw[←hd,RI] at hx';obtain⟨y,hy,rfl⟩:=Option.map_eq_some_iff.1 hx';refine⟨[.string y],rfl,fun j v hv=>?_,?_⟩
    ·cases j with
     | succ j=>cases hv
     | zero =>
       obtain rfl:=aG hv;refine⟨?_,.inr rfl⟩;have hlt:=(List.getElem?_eq_some_iff.1 hy).1;simp only[World.cell?,World.alloc,uW,yf];simp[Ty.size,hy]
    ·refine⟨?_,?_⟩
     ·have:y=⟨y.data.toList.toArray⟩:=(Lib.mk_data y).symm;rw[←this]
     ·have hm:y.data.toList∈Lib.split s [b]:=yc hx;have:=XS _ _ _ _ hm;exact jl this Xw
def Qx(l:List (List UInt8))(sep:List UInt8):Option (List UInt8):=if l.length≤140737488355328∧(Lib.join l sep).length≤140737488355328 then some (Lib.join l sep) else none
theorem VA{P:Program}{G:fo}{f:Nat}{fn:Func}(hP:P.funcs[f]?=some fn)(hname:(fn.name == "runtime.NumGoroutine")=false)(hb:fn.body.isSome=true)
  (h0:∀(a:Option Addr) (c:Nat) (sep:ByteArray) (w:World),Calls P f #[.slice a 0 c,.string sep] w fun e w'=>e=.returned (.string ⟨#[]⟩)∧w'=w)
  (h:∀(bk o c:Nat) (xs:List ByteArray) (sep:ByteArray) (w:World),
  (∀(j:Nat) x,xs[j]?=some x→w.cell? ⟨bk,o+j,none⟩=some (.string x))→(bk<w.heap.size)→(xs.length≤140737488355328)→(xs.length≤c) →
  ((Lib.join (xs.map (·.data.toList)) sep.data.toList).length≤140737488355328) →
  Calls P f #[.slice (some ⟨bk,o,none⟩) xs.length c,.string sep] w fun e w'=>e=.returned (.string ⟨(Lib.join (xs.map (·.data.toList)) sep.data.toList).toArray⟩)∧Below w.heap.size w w') :
  Holds P G f ⟨.pair (.slice .str) (.pair .str .unit),.pair .str .unit,fun x=>(Qx x.1 x.2.1).map fun y=>(y,())⟩ where
 body:=by
  obtain⟨code,hc⟩:=Option.isSome_iff_exists.1 hb;exact⟨fn,code,hP,hname,hc⟩
 calls:=by
  intro I w args x y hI hG hargs hspec;obtain⟨l,sep,u⟩:=x;change List (List UInt8) at l;change List UInt8 at sep;obtain⟨z,hz,rfl⟩:=Option.map_eq_some_iff.1 hspec;change Qx l sep=some z at hz;unfold Qx at hz;split at hz
  case isFalse=>cases hz
  rename_i hlen;obtain⟨afN,hlen⟩:=hlen;have Xw:(Lib.join l sep).length≤maxLen:=jl hlen (by decide);obtain rfl:=aG hz;obtain⟨cs,rest,hal,Bc,RA,Ms,S7,Mt,Ei⟩:=hargs;obtain rfl:Ms=[]:=Ei;obtain⟨rfl,hsm⟩:=Mt;have fin:∀{v:Value},cs=[v]→∀{w'},Below w.heap.size w w'→∀{e:Ending},e=.returned (.string ⟨(Lib.join l sep).toArray⟩) →
    ∃v I',e=.returned v∧Below w.heap.size w w'∧(∀b o,I b o→I' b o)∧(∀b o,I' b o→b<w'.heap.size)∧(∀b o,I' b o→¬I b o→w.heap.size≤b)∧kV w' I' (.pair .str .unit) (Lib.join l sep,()) v:=by
   intro v _ w' hw e he;exact⟨_,I,he,hw,fun b o h=>h,fun b o h=>DX (hI b o h) hw.size,fun b o h1 h2=>absurd h1 h2,[.string ⟨(Lib.join l sep).toArray⟩],⟨rfl,Xw⟩,rfl⟩
  rcases Bc with ⟨⟨base,rfl⟩,hl⟩|⟨blk,off,cap,rfl,hcap,hmax,hel⟩
  ·obtain rfl:l=[]:=hl;obtain rfl:args=#[.slice base 0 0,.string ⟨sep.toArray⟩]:=by
    apply Array.toList_inj.1;rw[hal,S7];rfl
   refine(h0 base 0 ⟨sep.toArray⟩ w).mono ?_;rintro e w' ⟨rfl,rfl⟩;exact fin rfl (Below.refl _ _) rfl
  ·change l.length≤cap at hcap;obtain rfl:args=#[.slice (some ⟨blk,off,none⟩) l.length cap,.string ⟨sep.toArray⟩]:=by
    apply Array.toList_inj.1;rw[hal,S7];rfl
   cases l with
   | nil =>
     refine(h0 (some ⟨blk,off,none⟩) cap ⟨sep.toArray⟩ w).mono ?_;rintro e w' ⟨rfl,rfl⟩;exact fin rfl (Below.refl _ _) rfl
   | cons a r =>
     have hcell:∀(j:Nat) x,(a::r)[j]?=some x→w.cell? ⟨blk,off+j,none⟩=some (.string ⟨x.toArray⟩)∧I blk (off+j):=by
      intro j x hx;obtain⟨es,he,hc,hr⟩:=hel j x hx;obtain⟨rfl,_⟩:=hr;have:=hc 0 _ rfl;simpa [Ty.size] using this
     have hbk:blk<w.heap.size:=hI _ _ (hcell 0 a rfl).2;have e1:((a::r).map fun x:List UInt8=>(⟨x.toArray⟩:ByteArray)).map (·.data.toList)=a::r:=by
      rw[List.map_map];exact List.map_id'' (fun x=>rfl) _
     have:=h blk off cap ((a::r).map fun x=>⟨x.toArray⟩) ⟨sep.toArray⟩ w (fun j x hx=>by
      rw[RI] at hx;obtain⟨y,hy,rfl⟩:=Option.map_eq_some_iff.1 hx;exact(hcell j y hy).1) hbk (by rw[La];exact afN) (by rw[La];exact hcap) (by rw[e1];exact hlen)
     rw[e1,La] at this;refine this.mono ?_;rintro e w' ⟨rfl,hw⟩;exact fin rfl hw rfl
end Go.Ge
namespace Go.Ge
open RowKit
theorem Holds.weaken{P:Program}{G:fo}{f:Nat}{A R:Ty}{spec spec':A.den→Option R.den}(h:Holds P G f ⟨A,R,spec⟩)(hs:∀x y,spec' x=some y→spec x=some y):Holds P G f ⟨A,R,spec'⟩ where
 body:=h.body
 calls:=fun I w args x y hI hG ha hx=>h.calls I w args x y hI hG ha (hs x y hx)
end Go.Ge
namespace Go.Ge
open RowKit Go.Sort Go.Proofs
theorem jZ.mk'{w w':World}{I:Nat→Nat→Prop}{X:Nat→Prop}(hos:w'.os=w.os)(ht:w'.tape=w.tape)(ho:w'.output=w.output)(hs:w.heap.size≤w'.heap.size)
  (hb:∀k,k<w.heap.size→¬X k→w'.heap[k]?=w.heap[k]?) (hI:∀b o,I b o→b<w.heap.size):jZ w I X w' I where
 below:=⟨hos,ht,ho,hs,fun k hk=>hb k (Wk fun q=>hk (.inl q)) fun q=>hk (.inr q)⟩
 held:=fun _ _ h=>h
 tN:=fun b o h=>DX (hI b o h) hs
 pE:=fun b o h k=>absurd h k
theorem N7{α:Type}{L:List α}{i:Nat}{y:α}(h:L[i]?=some y):(L.drop i).take 1=[y]:=by
 obtain⟨hi,hy⟩:=List.getElem?_eq_some_iff.1 h;rw[Y1 hi];simp[hy]
theorem S9{w:World}{I:Nat→Nat→Prop}{l:List (List UInt8)}{blk:Nat}{cur:Array Value}{tid:TypeId}{fr:Nat×Nat}(hg:w.heap[blk]?=some (.cells cur tid fr))(Ls:kU cur fr)(hsz:l.length≤cur.size)
  (hel:∀(i:Nat) (x:List UInt8),l[i]?=some x→bt w I .str x ((cur.toList.drop (i*(Ty.str).size)).take (Ty.str).size)):Sort.Holds encStr w blk 0 l.toArray:=by
 intro j hj;have hj':j<l.length:=by simpa using hj
 obtain⟨h1,h2⟩:=hel j l[j] (ru hj');have hc:cur[j]?=some (Value.string ⟨(l[j]).toArray⟩):=by
  have:((cur.toList.drop (j*1)).take 1)[0]?=some (Value.string ⟨(l[j]).toArray⟩):=by
   have h1':(cur.toList.drop (j*1)).take 1=_:=h1;rw[h1'];rfl
  simpa [uo,ni] using this
 have acD:l.toArray[j]! = l[j]:=by simp[hj']
 refine⟨?_,?_⟩
 ·rw[acD];simp only[World.cell?,hg,uW];exact hc
 ·have:=Ls j (by omega);simp only[World.frozen?,hg,uW];simp only[not_and,Nat.not_lt] at this;simp;exact this
theorem WM{w w':World}{I:Nat→Nat→Prop}(hI:∀b o,I b o→b<w.heap.size){l l':List (List UInt8)}{blk cap:Nat}{cur:Array Value}{tid:TypeId}{fr:Nat×Nat}(hg:w.heap[blk]?=some (.cells cur tid fr))(Ls:ThB .str cur fr)
  (JP:cur.size=cap*(Ty.str).size) (hfree:∀o,¬I blk o) {d:List (List UInt8)} (hd:d.length=l.length) (hl:l.length≤cap) (hcap:cap≤maxLen) (hl':l'.length≤l.length) (hpre:∀(i:Nat) (x:List UInt8),l'[i]?=some x→d[i]?=some x∧List.length x≤maxLen) {n:Nat} {os:Array Obj}
  (hw:w'=grow (putRow encStr (Sort.ahead w n) blk 0 d.toArray) os) :
  jZ w I (fun k=>∃c,some (blk,cap)=some (k,c)) w' I∧wg w' I .str l' (some (blk,cap)) (.slice (some ⟨blk,0,none⟩) l'.length cap):=by
 have hlt:blk<w.heap.size:=(Array.getElem?_eq_some_iff.1 hg).1;have hsize:w'.heap.size=w.heap.size+os.size:=by rw[hw];simp
 have acD:∀k,k<w.heap.size→w'.heap[k]?=if k=blk then some (.cells (putCells encStr 0 d.toArray cur) tid fr) else w.heap[k]?:=by
  intro k hk;subst hw;simp only[grow,putRow,mapBlock];rw[ado (by simpa using hk),YU];by_cases e:blk=k
  ·subst e;simp[hg,onCells]
  ·simp[e,Lc e]
 have hblk:=acD blk hlt;rw[bG rfl] at hblk;have hE:jZ w I (fun k=>∃c,some (blk,cap)=some (k,c)) w' I:=jZ.mk' (by rw[hw];rfl) (by rw[hw];rfl) (by rw[hw];rfl) (by omega) (fun k hk hn=>by
  rw[acD k hk,bH fun e=>hn ⟨cap,by rw[e]⟩]) hI
 refine⟨hE,.inr ⟨blk,cap,putCells encStr 0 d.toArray cur,tid,fr,rfl,rfl,hblk,Ls.same (by simp[putCells]),jl hl' hl,hcap,by simp[putCells,JP],hfree,fun i x hi=>?_⟩⟩;obtain⟨hdi,hx⟩:=hpre i x hi;have hi':i<l'.length:=(List.getElem?_eq_some_iff.1 hi).1;have hid:i<d.length:=by omega
 have hcs:i<cur.size:=by rw[JP];show i<cap*1;omega
 have hc:(putCells encStr 0 d.toArray cur)[i]?=some (.string ⟨x.toArray⟩):=by
  have hdx:d[i]=x:=by rw[ru hid] at hdi;exact aG hdi
  have h5:d.toArray[i]! = d[i]:=by simp[hid]
  rw[show(putCells encStr 0 d.toArray cur)[i]?=some (encStr d.toArray[i]!) from by simp[putCells,hcs,hid],h5,hdx]
 have:((putCells encStr 0 d.toArray cur).toList.drop (i*(Ty.str).size)).take (Ty.str).size=[.string ⟨x.toArray⟩]:=by
  show((putCells encStr 0 d.toArray cur).toList.drop (i*1)).take 1=_
  rw[NC];exact N7 (by simpa using hc)
 exact⟨this,hx⟩
def lR(l:List (List UInt8)):List (List UInt8):=l.mergeSort fun x y=>decide (x≤y)
theorem XT:lR []=[]:=by simp[lR]
theorem Pm(l:List (List UInt8)):(lR l).length=l.length:=by simp[lR]
theorem aaq{P:Program}{f:Nat}{fn:Func}(h1:P.funcs[f]?=some fn)(h2:(fn.name == "runtime.NumGoroutine")=false)(h3:fn.body.isSome=true)
  (hc:∀(blk off cap:Nat) (ss:List (List UInt8)) (w:World),Sort.Holds encStr w blk off ss.toArray→blk<w.heap.size→ss.length<4611686018427387904 →
   Calls P f #[.slice (some ⟨blk,off,none⟩) ss.length cap] w fun e w'=>e=.returned (.tuple #[])∧∃n os,w'=grow (putRow encStr (Sort.ahead w n) blk off (ss.mergeSort fun x y=>decide (x≤y)).toArray) os)
  (hn:∀(p:Option Addr) (cap:Nat) (w:World),Calls P f #[.slice p 0 cap] w fun e w'=>e=.returned (.tuple #[])∧w'=w) :
  gz P f (.own .str .unit false fun l _=>bif fits (len (α:=List UInt8) l) then some (lR l) else none):=by
 obtain⟨code,h3⟩:=Option.isSome_iff_exists.1 h3;refine⟨⟨fn,code,h1,h2,h3⟩,fun I w args v rest l l' L x hI hargs hown oK hspec=>?_⟩;change List (List UInt8) at l;change List (List UInt8) at l';obtain rfl:rest=[]:=oK;have Ek:args=#[v]:=by apply Array.toList_inj.1;rw[hargs]
 subst Ek;have hfit:fits (len l)=true∧l'=lR l:=by
  change (bif fits (len l) then some (lR l) else none)=some l' at hspec;cases hq:fits (len l) with
  | true=>rw[hq] at hspec;exact⟨rfl,(aG hspec).symm⟩
  | false=>rw[hq] at hspec;cases hspec
 obtain⟨hfit,rfl⟩:=hfit;have hlen:=E8 hfit;rcases hown with ⟨rfl,rfl,rfl⟩|⟨blk,cap,cur,tid,fr,rfl,rfl,q3,q4,q5,q6,q7,q8,q9⟩
 ·refine(hn none 0 w).mono fun e w' hw=>?_;obtain⟨rfl,rfl⟩:=hw;exact⟨I,jZ.mk' rfl rfl rfl (mq _) (fun _ _ _=>rfl) hI,rfl,Pm [],.inl ⟨rfl,XT,rfl⟩⟩
 ·have q5':List.length (α:=List UInt8) l≤cap:=q5;have q7':cur.size=cap*1:=q7;refine(hc blk 0 cap l w (S9 q3 q4.th (by rw[q7',NC];exact q5') q9) (Array.getElem?_eq_some_iff.1 q3).1 (by omega)).mono fun e w' hw=>?_;obtain⟨rfl,n,os,hw⟩:=hw;have hls:(lR l).length=l.length:=by simp[lR]
  obtain⟨k1,k2⟩:=WM hI q3 q4 q7 q8 (l:=l) (l':=lR l) (d:=lR l) hls q5 q6 (NB hls) (fun i x hi=>⟨hi,by
   have hm:x∈lR l:=yc hi;have hm':x∈l:=by simpa [lR] using hm
   obtain⟨j,hj⟩:=List.mem_iff_getElem?.1 hm';exact(q9 j x hj).2⟩) hw
  rw[hls] at k2;exact⟨I,k1,rfl,hls,k2⟩
theorem Ta{P:Program}{f:Nat}{fn:Func}(h1:P.funcs[f]?=some fn)(h2:(fn.name == "runtime.NumGoroutine")=false)(h3:fn.body.isSome=true)
  (hc:∀(blk off cap:Nat) (zs:List (List UInt8)) (w:World),Sort.Holds encStr w blk off zs.toArray→zs.length≤9223372036854775807→zs.length≤cap →
   Calls P f #[.slice (some ⟨blk,off,none⟩) zs.length cap] w fun e w'=>e=.returned (.slice (some ⟨blk,off,none⟩) (Lib.compact zs).length cap)∧∃q,w'=putRow encStr (Sort.ahead w q) blk off (Lib.compact zs++List.replicate (zs.length-(Lib.compact zs).length) []).toArray)
  (hn:∀(a:Option Addr) (cap:Nat) (w:World),Calls P f #[.slice a 0 cap] w fun e w'=>e=.returned (.slice a 0 cap)∧w'=w) (hle:∀zs:List (List UInt8),(Lib.compact zs).length≤zs.length∧∀x∈Lib.compact zs,x∈zs) :
  gz P f (.own .str .unit true fun l _=>some (Lib.compact (α:=List UInt8) l)):=by
 obtain⟨code,h3⟩:=Option.isSome_iff_exists.1 h3;refine⟨⟨fn,code,h1,h2,h3⟩,fun I w args v rest l l' L x hI hargs hown oK hspec=>?_⟩;change List (List UInt8) at l;change List (List UInt8) at l';obtain rfl:rest=[]:=oK;have Ek:args=#[v]:=by apply Array.toList_inj.1;rw[hargs]
 subst Ek;obtain rfl:Lib.compact l=l':=aG hspec;rcases hown with ⟨rfl,rfl,rfl⟩|⟨blk,cap,cur,tid,fr,rfl,rfl,q3,q4,q5,q6,q7,q8,q9⟩
 ·refine(hn none 0 w).mono fun e w' hw=>?_;obtain⟨rfl,rfl⟩:=hw;have h0:Lib.compact ([]:List (List UInt8))=[]:=List.length_eq_zero_iff.1 (Nat.le_zero.1 (hle []).1);exact⟨I,jZ.mk' rfl rfl rfl (mq _) (fun _ _ _=>rfl) hI,_,none,rfl,.inl ⟨rfl,h0,rfl⟩,fun _ _ h=>by cases h⟩
 ·have q5':List.length (α:=List UInt8) l≤cap:=q5;have q7':cur.size=cap*1:=q7;refine(hc blk 0 cap l w (S9 q3 q4.th (by rw[q7',NC];exact q5') q9) (jl q5 q6) q5).mono fun e w' hw=>?_;obtain⟨rfl,n,hw⟩:=hw;obtain⟨k1,k2⟩:=WM hI q3 q4 q7 q8 (l:=l) (l':=Lib.compact l) (d:=Lib.compact l++List.replicate (l.length-(Lib.compact l).length) []) (by have:=(hle l).1;simp;omega) q5 q6 (hle l).1 (fun i x hi=>⟨by
    rw[Um (List.getElem?_eq_some_iff.1 hi).1];exact hi,by
   have hm':x∈l:=(hle l).2 x (yc hi);obtain⟨j,hj⟩:=List.mem_iff_getElem?.1 hm';exact(q9 j x hj).2⟩) (n:=n) (os:=#[]) (w':=w') (by rw[hw];simp)
  exact⟨I,k1,_,_,rfl,k2,fun b c h=>.inl ⟨c,h⟩⟩
theorem VB(zs:List (List UInt8)):(Lib.compact zs).length≤zs.length∧∀x∈Lib.compact zs,x∈zs:=by
 constructor
 ·unfold Lib.compact Lib.compactUpTo;rw[La];exact jl (adw _ _) (by simp)
 ·intro x hx;unfold Lib.compact Lib.compactUpTo at hx;rw[List.mem_map] at hx;obtain⟨j,hj,rfl⟩:=hx;have hj':j<zs.length:=List.mem_range.1 (List.mem_filter.1 hj).1;simp[hj']
end Go.Ge
namespace Go.Ge
variable [Lp]
open RowKit Go.Shelf Go.Lib Go.Proofs
theorem zz{P:Program}(w:World)(dT sT ty elem:TypeId)(b o dLen dCap:Nat)(a:Addr)(sLen sCap k:Nat)(cs:List Value){cur:Array Value}{tt:TypeId}{fr:Nat×Nat}
  (hu:P.underlying dT=some (.slice elem)) (hs:(P.info? elem).map (·.size)=some k) (hn:cs.length=Nat.min sLen dLen*k)
  (hsrc:∀j v,cs[j]?=some v→w.cell? (a.add j)=some v) (hg:w.heap[b]?=some (.cells cur tt fr)) (Ls:kU cur fr) (hle:o+cs.length≤cur.size) (h1:∀v∈cs,v.oneCell'=true) :
  (Builtin.copy_ #[dT,sT] ty #[.slice (some ⟨b,o,none⟩) dLen dCap,.slice (some a) sLen sCap]).run P w=.ok (goInt (Nat.min sLen dLen)) (w.setRow b (splice cur.toList o cs).toArray):=by
 have hl:=run_loadCells_list (P:=P) w a cs hsrc;have hst:=cv (P:=P) b o tt fr cs 0 cur w hg Ls (by simpa using hle) h1;rw[yf] at hst;cases hq:P.info? elem with
 | none=>simp[hq] at hs
 | some i =>
   have hi:i.size=k:=by simpa [hq] using hs
   simp[Builtin.copy_,run_underlying hu,Builtin.lenOf,Builtin.firstCells,sizeOf,typeInfo,hq,hi,←hn,hl,hst]
structure Tb (P:Program) (ρ:Ren) (nm:String) (k:Nat):Prop where
 mixed:P.follows .mixedOrders=true
 f22:P.funcs[ρ.f 22]?=some { Body2.n22 ρ with name:=nm }
 ov:∀(xs:Array Value) (w:World),(callFunc (ρ.f 29) xs).run P w=((Extern.SlicesOverlaps.overlaps #[(ρ.t 24),(ρ.t 24)] #[(ρ.t 4)] xs).run P w).andThen fun v w'=>.ok (.value v) w'
 t3:P.underlying (ρ.t 3)=some (TypeDesc.int IntKind.i64)
 t4:P.underlying (ρ.t 4)=some TypeDesc.bool
 t24:P.underlying (ρ.t 24)=some (TypeDesc.slice (ρ.t 9))
 z9:∀w,(Go.sizeOf (ρ.t 9)).run P w=.ok k w
 i9:(P.info? (ρ.t 9)).map (·.size)=some k
variable {P:Program} {ρ:Ren} {nm:String} {k:Nat}
set_option maxHeartbeats 4000000 in
set_option maxRecDepth 100000 in
theorem XU(L:Tb P ρ nm k)(b n c i vb voff m vc:Nat)(_cs vs:List Value)(w:World){cur:Array Value}{tt:TypeId}{fr:Nat×Nat}(hi:i<n)(hm:0<m)(hroom:n+m≤c)(hc63:c≤9223372036854775807)(hvb:vb≠b)
  (hg:w.heap[b]?=some (.cells cur tt fr)) (Ls:kU cur fr) (hsz:cur.size=c*k) (h1c:∀v∈(cur.toList.take (n*k)),v.oneCell'=true)
  (hvl:vs.length=m*k) (hvs:∀j v,vs[j]?=some v→w.cell? ⟨vb,voff+j,none⟩=some v) (h1v:∀v∈vs,v.oneCell'=true)
  (hov:∀lb cb,(Extern.SlicesOverlaps.overlaps #[(ρ.t 24),(ρ.t 24)] #[(ρ.t 4)] #[.slice (some ⟨vb,voff,none⟩) m vc,.slice (some ⟨b,(i+m)*k,none⟩) lb cb]).run P w=.ok (.bool false) w) :
  Calls P (ρ.f 22) #[.slice (some ⟨b,0,none⟩) n c,.int .i64 i,.slice (some ⟨vb,voff,none⟩) m vc] w fun e w' =>
   e=.returned (.slice (some ⟨b,0,none⟩) (n+m) c) ∧
   w'=(w.drew.setRow b (splice cur.toList ((i+m)*k) ((cur.toList.take (n*k)).drop (i*k))).toArray).setRow b (splice (splice cur.toList ((i+m)*k) ((cur.toList.take (n*k)).drop (i*k))) (i*k) vs).toArray:=by
 have t3:=L.t3;have t4:=L.t4;have t24:=L.t24;have z9:=L.z9;have u3:=run_underlying L.t3;have u4:=run_underlying L.t4;have u24:=run_underlying L.t24;have mixed:=L.mixed;have hz1:¬((m:Int)=0):=by omega
 have hz2:¬((i:Int)=(n:Int)):=by omega
 have ahB:∀lb cb,(callFunc (ρ.f 29) #[.slice (some ⟨vb,voff,none⟩) m vc,.slice (some ⟨b,(i+m)*k,none⟩) lb cb]).run P w=.ok (.value (.bool false)) w:=fun lb cb=>by
  rw[L.ov,hov lb cb];rfl
 have hw1:IntKind.i64.wrap ((i:Int)+(m:Int))=(i:Int)+(m:Int):=by rw[IntKind.wrap_i64];omega
 have hb1:(0:Int)≤(i:Int)+(m:Int):=by omega
 have hin:i≤n:=by omega
 have htn:((i:Int)+(m:Int)).toNat=i+m:=by omega
 have hb2:¬(c=i+m):=by omega
 have hb3:(i:Int)≤(n:Int)+(m:Int):=by omega
 have hb4:¬(c=i):=by omega
 have JP:cur.toList.length=c*k:=by simpa using hsz
 have hnk:n*k≤c*k:=sS _ (by omega);have hik:i*k≤n*k:=sS _ (by omega);have VC:(i+m)*k+(n-i)*k≤c*k:=by
  rw[←gi];exact sS _ (by omega)
 have hl1:((cur.toList.take (n*k)).drop (i*k)).length=(n-i)*k:=by
  rw[w8,o6,sV (by omega),RU]
 have hs1:(splice cur.toList ((i+m)*k) ((cur.toList.take (n*k)).drop (i*k))).length=c*k:=by rw[bA (by rw[hl1,JP];exact VC)];exact JP
 have Wx:w.drew.heap[b]?=some (.cells cur tt fr):=hg;have aer:∀ty dc sc,(Builtin.copy_ #[(ρ.t 24),(ρ.t 24)] ty #[.slice (some ⟨b,(i+m)*k,none⟩) (n+m-(i+m)) dc,.slice (some ⟨b,i*k,none⟩) (n+m-i) sc]).run P w.drew =
   .ok (goInt (Nat.min (n+m-i) (n+m-(i+m)))) (w.drew.setRow b (splice cur.toList ((i+m)*k) ((cur.toList.take (n*k)).drop (i*k))).toArray):=fun ty dc sc =>
  zz w.drew _ _ ty (ρ.t 9) b ((i+m)*k) (n+m-(i+m)) dc ⟨b,i*k,none⟩ (n+m-i) sc k ((cur.toList.take (n*k)).drop (i*k)) L.t24 L.i9 (by
    rw[hl1];congr 1;show n-i=min (n+m-i) (n+m-(i+m));omega)
   (fun j v hj=>by
    rw[Addr.add_lit,cell_of_heap Wx];rw[ni,uo] at hj;split at hj
    ·simpa using hj
    ·cases hj) Wx Ls (by rw[hl1,hsz];exact VC) (fun v hv=>h1c v (Y6 hv))
 obtain⟨C1,hC1⟩:∃C1,C1=splice cur.toList ((i+m)*k) ((cur.toList.take (n*k)).drop (i*k)):=⟨_,rfl⟩;rw[←hC1] at aer hs1⊢;obtain⟨W1,hW1⟩:∃W1,W1=w.drew.setRow b C1.toArray:=⟨_,rfl⟩;have hg2:W1.heap[b]?=some (.cells C1.toArray tt fr):=by rw[hW1];exact setRow_heap w.drew b cur _ tt fr Wx
 have hvw:∀j v,vs[j]?=some v→W1.cell? ⟨vb,voff+j,none⟩=some v:=fun j v hj=>by
  rw[hW1];have h0:(w.drew.setRow b C1.toArray).heap[vb]?=w.drew.heap[vb]?:=setRow_other w.drew b vb _ (fun e=>hvb e);rw[cH (a:=⟨vb,voff+j,none⟩) h0];exact hvs j v hj
 have ahC:∀ty dc,(Builtin.copy_ #[(ρ.t 24),(ρ.t 24)] ty #[.slice (some ⟨b,i*k,none⟩) (n+m-i) dc,.slice (some ⟨vb,voff,none⟩) m vc]).run P W1=.ok (goInt (Nat.min m (n+m-i))) (W1.setRow b (splice C1 (i*k) vs).toArray):=fun ty dc=>by
  have:=zz (P:=P) W1 (ρ.t 24) (ρ.t 24) ty (ρ.t 9) b (i*k) (n+m-i) dc ⟨vb,voff,none⟩ m vc k vs L.t24 L.i9 (by rw[hvl];congr 1;show m=min m (n+m-i);omega)
   (fun j v hj=>by rw[Addr.add_lit];exact hvw j v hj) hg2 (Ls.same (by rw[JC,hs1,hsz])) (by rw[hvl,JC,hs1,←gi];exact sS _ (by omega)) h1v
  simpa using this
 rw[←hW1] at aer⊢;clear hC1 hW1 hg2 hvw Wx hs1 hl1 VC hik hnk JP hov
 go_enter L.f22,Body2.n22_ntmps ρ
 go_wp2_with (simp only[ahB])
 go_region_law_o (refine step_copy_runI rfl _ _ (ρ.t 24) (ρ.t 24) rfl _ _ (by simp[Act.eval,Act.put]) (by simp[Act.eval,Act.put]) (aer _ _ _) ?_)
 go_wp2_with (at_builtin;refine wpList_copy_runI _ rfl _ _ (ρ.t 24) (ρ.t 24) rfl _ _ rfl rfl (ahC _ _) ?_)
 go_ret
 exact⟨rfl,rfl⟩
set_option maxHeartbeats 4000000 in
set_option maxRecDepth 100000 in
theorem I3(L:Tb P ρ nm k)(base WN:Option Addr)(n c i vc:Nat)(w:World)(hi:i≤n)(_hnc:n≤c) :
  Calls P (ρ.f 22) #[.slice base n c,.int .i64 i,.slice WN 0 vc] w fun e w'=>e=.returned (.slice base n c)∧w'=w:=by
 have t3:=L.t3;have t4:=L.t4;have t24:=L.t24;have z9:=L.z9;have u3:=run_underlying L.t3;have u4:=run_underlying L.t4;have u24:=run_underlying L.t24;have mixed:=L.mixed;have hin:(i:Int)≤(n:Int):=by omega
 go_enter L.f22,Body2.n22_ntmps ρ
 go_wp2
 all_goals (go_ret;exact⟨rfl,rfl⟩)
set_option maxHeartbeats 4000000 in
set_option maxRecDepth 100000 in
theorem Qy(L:Tb P ρ nm k)(base:Option Addr)(n c m vc:Nat)(WN:Option Addr)(w w1:World)(v1:Value)(hm:0<m)(_hnc:n≤c)
  (hrun:(Builtin.append_ #[(ρ.t 24),(ρ.t 24)] (ρ.t 24) #[.slice base n c,.slice WN m vc]).run P w=.ok v1 w1) :
  Calls P (ρ.f 22) #[.slice base n c,.int .i64 n,.slice WN m vc] w fun e w'=>e=.returned v1∧w'=w1:=by
 have t3:=L.t3;have t4:=L.t4;have t24:=L.t24;have z9:=L.z9;have u3:=run_underlying L.t3;have u4:=run_underlying L.t4;have u24:=run_underlying L.t24;have mixed:=L.mixed;have hz1:¬((m:Int)=0):=by omega
 have hz2:¬(m=0):=by omega
 go_enter L.f22,Body2.n22_ntmps ρ
 go_wp2_with (at_builtin;refine Lib.wpList_append_run _ rfl _ _ _ _ rfl _ _ rfl rfl _ _ hrun ?_)
 all_goals (go_ret;exact⟨rfl,rfl⟩)
set_option maxHeartbeats 4000000 in
set_option maxRecDepth 100000 in
theorem aar(L:Tb P ρ nm k)(b n c i vb voff m vc:Nat)(_cs vs:List Value)(w:World){cur:Array Value}{tt:TypeId}{fr:Nat×Nat}{ie:TypeInfo}{ze:Value}(hie:P.info? (ρ.t 9)=some ie)(ahD:ie.size=k)(hze:ie.zero=some ze)(hzc:ze.cells.size=k)(hk0:0<k)(hby:ie.bytes≤32768)
  (hi:i<n) (hm:0<m) (_hnc:n≤c) (hroom:c<n+m) (hbig:n+m≤4294967296)
  (hg:w.heap[b]?=some (.cells cur tt fr)) (hsz:cur.size=c*k) (h1c:∀v∈(cur.toList.take (n*k)),v.oneCell'=true)
  (hvl:vs.length=m*k) (hvs:∀j v,vs[j]?=some v→w.cell? ⟨vb,voff+j,none⟩=some v) (hvb:vb<w.heap.size) (h1v:∀v∈vs,v.oneCell'=true) :
  Calls P (ρ.f 22) #[.slice (some ⟨b,0,none⟩) n c,.int .i64 i,.slice (some ⟨vb,voff,none⟩) m vc] w fun e w' =>
   ∃(G:Nat) (Z:List Value),n+m≤G∧G≤maxLen∧(cur.toList.take (i*k)++Z).length=G*k∧e=.returned (.slice (some ⟨w.heap.size,0,none⟩) (n+m) G) ∧
   w'=(((w.drew.alloc (.cells (cur.toList.take (i*k)++Z).toArray (ρ.t 9))).setRow w.heap.size (splice (cur.toList.take (i*k)++Z) (i*k) vs).toArray).drew).setRow w.heap.size (splice (splice (cur.toList.take (i*k)++Z) (i*k) vs) ((i+m)*k) ((cur.toList.take (n*k)).drop (i*k))).toArray:=by
 have t3:=L.t3;have t4:=L.t4;have t24:=L.t24;have z9:=L.z9;have u3:=run_underlying L.t3;have u4:=run_underlying L.t4;have u24:=run_underlying L.t24;have mixed:=L.mixed;have hz1:¬((m:Int)=0):=by omega
 have hz2:¬((i:Int)=(n:Int)):=by omega
 have hz3:(c:Int)<(n:Int)+(m:Int):=by omega
 have JP:cur.toList.length=c*k:=by simpa using hsz
 have hnk:n*k≤c*k:=sS _ (by omega);have hik:i*k≤n*k:=sS _ (by omega);have hkk:(n:Int)+(m:Int)-(i:Int)=((n+m-i:Nat):Int):=by omega
 have hii:i+(n+m-i)=n+m:=by omega
 have hbw:b<w.heap.size:=(Array.getElem?_eq_some_iff.1 hg).1;have hold:(Builtin.firstCells ie.size i (.slice (some ⟨b,0,none⟩) i c)).run P w.drew=.ok (cur.toList.take (i*k)).toArray w.drew:=by
  rw[ahD];exact run_firstCells_some w.drew k i ⟨b,0,none⟩ i c (cur.toList.take (i*k)) (by rw[o6,sV (by omega)]) (fun j v hj=>by
   rw[Addr.add_lit];show w.cell? ⟨b,0+j,none⟩=some v
   rw[cell_of_heap hg];rw[uo] at hj;split at hj
   ·simpa using hj
   ·cases hj)
 have hbn:(n+m)*ie.bytes≤140737488355328:=jl (Nat.mul_le_mul hbig hby) (by decide);have hrz:∀ty,(Builtin.append_ #[(ρ.t 24),(ρ.t 3)] ty #[.slice (some ⟨b,0,none⟩) i c,.int .i64 ((n:Int)+(m:Int)-(i:Int))]).run P w =
   .ok (.slice (some ⟨w.heap.size,0,none⟩) (n+m) (grownCap w (n+m) c (ρ.t 9))) (w.drew.alloc (.cells ((cur.toList.take (i*k)).toArray++Builtin.zeroCells ze.cells (n+m-i)++Builtin.zeroCells ze.cells (grownCap w (n+m) c (ρ.t 9)-(n+m))) (ρ.t 9))):=fun ty=>by
  have h:=Lib.run_append_grow_zeros (P:=P) w (ρ.t 24) (ρ.t 3) ty (ρ.t 9) ie ze .i64 .i64 L.t24 L.t3 hie hze (some ⟨b,0,none⟩) i c (cur.toList.take (i*k)) hold (n+m-i) (by omega) (by omega) (by omega) (by omega) (by
   have:(n+m-i)*ie.bytes≤(n+m)*ie.bytes:=sS _ (by omega);omega) (by rw[hii];exact growslice_fits hroom hbn)
  rw[hii] at h;rw[hkk];exact h
 have hGn:=grownCap_ge w (n+m) c (ρ.t 9);have hGm:=grownCap_le_maxLen w (n+m) c (ρ.t 9) (by have:=D8;omega);obtain⟨G,hG⟩:∃G,G=grownCap w (n+m) c (ρ.t 9):=⟨_,rfl⟩;rw[←hG] at hrz hGn hGm;obtain⟨Z,hZ⟩:∃Z:List Value,Z=(Builtin.zeroCells ze.cells (n+m-i)).toList++(Builtin.zeroCells ze.cells (G-(n+m))).toList:=⟨_,rfl⟩;have hrow:(cur.toList.take (i*k)).toArray++Builtin.zeroCells ze.cells (n+m-i)++Builtin.zeroCells ze.cells (G-(n+m))=(cur.toList.take (i*k)++Z).toArray:=by
  rw[hZ];apply Array.toList_inj.1;simp
 rw[hrow] at hrz;have hzl:∀q,(Builtin.zeroCells ze.cells q).size=q*k:=fun q=>by simp[Builtin.zeroCells,hzc]
 have hZl:Z.length=(n+m-i)*k+(G-(n+m))*k:=by
  rw[hZ,uV,Un,Un,hzl,hzl]
 obtain⟨ROW,aas⟩:∃ROW,ROW=cur.toList.take (i*k)++Z:=⟨_,rfl⟩;have hRl:ROW.length=G*k:=by
  rw[aas,uV,o6,sV (by omega),hZl,←AR,←gi,←gi]
  congr 1;omega
 rw[←aas] at hrz;have hGk:(n+m)*k≤G*k:=sS _ hGn;have VC:i*k+m*k≤(n+m)*k:=by rw[←gi];exact sS _ (by omega)
 have afP:(i+m)*k+(n-i)*k≤(n+m)*k:=by rw[←gi];exact sS _ (by omega)
 have hl1:((cur.toList.take (n*k)).drop (i*k)).length=(n-i)*k:=by
  rw[w8,o6,sV (by omega),RU]
 have hs2:(splice ROW (i*k) vs).length=G*k:=by rw[bA (by rw[hvl,hRl];omega)];exact hRl
 obtain⟨N,hN⟩:∃N,N=w.heap.size:=⟨_,rfl⟩;rw[←hN] at hrz;obtain⟨W1,hW1⟩:∃W1,W1=w.drew.alloc (.cells ROW.toArray (ρ.t 9)):=⟨_,rfl⟩;have Wx:W1.heap[N]?=some (.cells ROW.toArray (ρ.t 9) (0,0)):=by rw[hW1,hN];exact heap_alloc_new w.drew _
 have aat:∀q,q<w.heap.size→W1.heap[q]?=w.heap[q]?:=fun q hq=>by rw[hW1];exact cu w.drew _ q hq
 have afQ:∀ty dc,(Builtin.copy_ #[(ρ.t 24),(ρ.t 24)] ty #[.slice (some ⟨N,i*k,none⟩) (n+m-i) dc,.slice (some ⟨vb,voff,none⟩) m vc]).run P W1=.ok (goInt (Nat.min m (n+m-i))) (W1.setRow N (splice ROW (i*k) vs).toArray):=fun ty dc=>by
  have:=zz (P:=P) W1 (ρ.t 24) (ρ.t 24) ty (ρ.t 9) N (i*k) (n+m-i) dc ⟨vb,voff,none⟩ m vc k vs L.t24 L.i9 (by rw[hvl];congr 1;show m=min m (n+m-i);omega)
   (fun j v hj=>by rw[Addr.add_lit,cH (a:=⟨vb,voff+j,none⟩) (aat vb hvb)];exact hvs j v hj) Wx (sj _) (by rw[hvl,JC,hRl];omega) h1v
  simpa using this
 obtain⟨W2,hW2⟩:∃W2,W2=W1.setRow N (splice ROW (i*k) vs).toArray:=⟨_,rfl⟩;have hg2:W2.drew.heap[N]?=some (.cells (splice ROW (i*k) vs).toArray (ρ.t 9) (0,0)):=by rw[hW2];exact setRow_heap W1 N ROW.toArray _ _ _ Wx
 have hgb:W2.drew.heap[b]?=some (.cells cur tt fr):=by
  show W2.heap[b]?=_
  rw[hW2,setRow_other W1 N b _ (by omega),aat b hbw];exact hg
 have ahE:∀ty dc sc,(Builtin.copy_ #[(ρ.t 24),(ρ.t 24)] ty #[.slice (some ⟨N,(i+m)*k,none⟩) (n+m-(i+m)) dc,.slice (some ⟨b,i*k,none⟩) (n-i) sc]).run P W2.drew =
   .ok (goInt (Nat.min (n-i) (n+m-(i+m)))) (W2.drew.setRow N (splice (splice ROW (i*k) vs) ((i+m)*k) ((cur.toList.take (n*k)).drop (i*k))).toArray):=fun ty dc sc=>by
  have:=zz (P:=P) W2.drew (ρ.t 24) (ρ.t 24) ty (ρ.t 9) N ((i+m)*k) (n+m-(i+m)) dc ⟨b,i*k,none⟩ (n-i) sc k ((cur.toList.take (n*k)).drop (i*k)) L.t24 L.i9 (by
    rw[hl1];congr 1;show n-i=min (n-i) (n+m-(i+m));omega)
   (fun j v hj=>by
    rw[Addr.add_lit,cell_of_heap hgb];rw[ni,uo] at hj;split at hj
    ·simpa using hj
    ·cases hj) hg2 (sj _) (by rw[hl1,JC,hs2];omega) (fun v hv=>h1c v (Y6 hv))
  simpa using this
 have hG63:G≤9223372036854775807:=by have:=hGm;unfold maxLen at this;omega
 have hGi:¬(G=i):=by omega
 have ajN:¬(G=i+m):=by omega
 have hci:¬(c=i):=by omega
 have hw1:IntKind.i64.wrap ((i:Int)+(m:Int))=(i:Int)+(m:Int):=by rw[IntKind.wrap_i64];omega
 have hb1:(0:Int)≤(i:Int)+(m:Int):=by omega
 have hin:i≤n:=by omega
 have htn:((i:Int)+(m:Int)).toNat=i+m:=by omega
 have hb3:(i:Int)≤(n:Int):=by omega
 have fin:∀(e:Ending) (w':World),(e=.returned (.slice (some ⟨N,0,none⟩) (n+m) G)∧w'=W2.drew.setRow N (splice (splice ROW (i*k) vs) ((i+m)*k) ((cur.toList.take (n*k)).drop (i*k))).toArray) →
   ∃(G:Nat) (Z:List Value),n+m≤G∧G≤maxLen∧(cur.toList.take (i*k)++Z).length=G*k∧e=.returned (.slice (some ⟨w.heap.size,0,none⟩) (n+m) G) ∧
   w'=(((w.drew.alloc (.cells (cur.toList.take (i*k)++Z).toArray (ρ.t 9))).setRow w.heap.size (splice (cur.toList.take (i*k)++Z) (i*k) vs).toArray).drew).setRow w.heap.size (splice (splice (cur.toList.take (i*k)++Z) (i*k) vs) ((i+m)*k) ((cur.toList.take (n*k)).drop (i*k))).toArray:=by
  rintro e w' ⟨rfl,rfl⟩;refine⟨G,Z,hGn,hGm,by rw[←aas];exact hRl,by rw[hN],?_⟩;rw[←aas,←hN,hW2,hW1]
 refine Calls.mono ?_ fin;rw[←hW1] at hrz;rw[←hW2] at afQ;clear Wx aat hg2 hgb hW1 hW2 hs2 hl1 VC afP hGk hRl aas hZl hzl hrow hZ hG hGn hGm hbn hold hkk hii hik hnk JP fin hN hbw
 go_enter L.f22,Body2.n22_ntmps ρ
 go_wp2_with (first
  | (at_builtin;refine Lib.wpList_append_run _ rfl _ _ _ _ rfl _ _ rfl rfl _ _ (hrz _) ?_)
  | (at_builtin;refine wpList_copy_runI _ rfl _ _ (ρ.t 24) (ρ.t 24) rfl _ _ rfl rfl (afQ _ _) ?_))
 go_region_law_o (refine step_copy_runI rfl _ _ (ρ.t 24) (ρ.t 24) rfl _ _ (by simp[Act.eval,Act.put]) (by simp[Act.eval,Act.put]) (ahE _ _ _) ?_)
 go_wp2
 go_ret
 exact⟨rfl,rfl⟩
end Go.Ge
namespace Go.Ge
variable [Lp]
open RowKit Go.Shelf Go.Lib Go.Proofs
theorem b5{cs es:List Value}{o:Nat}(h:o+es.length≤cs.length)(j:Nat):(splice cs o es)[j]?=if j<o then cs[j]? else if j<o+es.length then es[j-o]? else cs[j]?:=by
 unfold splice;rw[qm,RH];have hl:(cs.take o).length=o:=by rw[o6];omega
 rw[hl];by_cases h1:j<o
 ·rw[bG h1,bG h1,uo,bG h1]
 ·rw[bH h1,bH h1,RH];by_cases h2:j<o+es.length
  ·rw[bG (by omega),bG h2]
  ·rw[bH (by omega),bH h2,ni]
   congr 1;omega
theorem yF{L L':List Value}{p p' s:Nat}(h:∀j,j<s→L[p+j]?=L'[p'+j]?):(L.drop p).take s=(L'.drop p').take s:=by
 apply NA;intro j;rw[uo,uo];by_cases hj:j<s
 ·rw[bG hj,bG hj,ni,ni];exact h j hj
 ·rw[bH hj,bH hj]
theorem Pn{w:World}{I:Nat→Nat→Prop}{e:Ty}{l ml:List e.den}{cur vs F:List Value}{i n m:Nat}(Xv:l.length=n)(hml:ml.length=m)(hi:i≤n)(h1:∀(q:Nat) (x:e.den),l[q]?=some x→bt w I e x ((cur.drop (q*e.size)).take e.size))(h2:eA w I e ml vs)
  (hF1:∀j,j<i*e.size→F[j]?=cur[j]?) (hF2:∀j,j<m*e.size→F[i*e.size+j]?=vs[j]?) (hF3:∀j,j<(n-i)*e.size→F[(i+m)*e.size+j]?=cur[i*e.size+j]?) :
  ∀(q:Nat) (x:e.den),(l.take i++ml++l.drop i)[q]?=some x→bt w I e x ((F.drop (q*e.size)).take e.size):=by
 intro q x hx;have hti:(l.take i).length=i:=by rw[o6];omega
 have step:∀{a b:Nat},a<b→∀j,j<e.size→a*e.size+j<b*e.size:=fun {a b} hab j hj=>by
  have:(a+1)*e.size≤b*e.size:=sS _ hab;rw[gi,Nat.one_mul] at this;omega
 rw[qm,RH,hti] at hx;split at hx
 ·rename_i hq;rw[uo,bG hq] at hx;rw[yF (L':=cur) (p':=q*e.size) fun j hj=>hF1 _ (step hq j hj)];exact h1 q x hx
 ·rename_i hq;obtain⟨r,rfl⟩:∃r,q=i+r:=⟨q-i,by omega⟩;rw[show i+r-i=r by omega,RH,hml] at hx;split at hx
  ·rename_i hr;rw[yF (L':=vs) (p':=r*e.size) fun j hj=>by
    rw[gi,AR];exact hF2 _ (step hr j hj)]
   exact h2 r x hx
  ·rename_i hr;obtain⟨u,rfl⟩:∃u,r=m+u:=⟨r-m,by omega⟩;rw[show m+u-m=u by omega,ni] at hx;have hu:i+u<n:=by rw[←Xv];exact(List.getElem?_eq_some_iff.1 hx).1
   rw[yF (L':=cur) (p':=(i+u)*e.size) fun j hj=>by
    have:=hF3 (u*e.size+j) (step (show u<n-i by omega) j hj);rw[show(i+(m+u))*e.size+j=(i+m)*e.size+(u*e.size+j) by rw[←AR i m u,gi (i+m) u,AR],this]
    congr 1;rw[gi];omega]
   exact h1 (i+u) x hx
theorem JY{P:Program}(w:World)(tS tR e:TypeId)(ht:P.underlying tS=some (.slice e))(size:Nat)(hz:∀w,(Go.sizeOf e).run P w=.ok size w)
  (a b:Addr) (la ca lb cb:Nat) (hne:a.block≠b.block) (tA tB:TypeId) (kA kB:Nat)
  (hsa:w.shape? a.block=some (tA,kA)) (hsb:w.shape? b.block=some (tB,kB)) (hkA:kA≠0)
  (hfb:w.frozen? b=false) (hfe:w.frozen? { block:=b.block,off:=kB }=false) :
  (Extern.SlicesOverlaps.overlaps #[tS,tS] #[tR] #[.slice (some a) la ca,.slice (some b) lb cb]).run P w=.ok (.bool false) w:=by
 have hnb:(a.block != b.block)=true:=by simpa using hne
 have ahI:(a.block==b.block)=false:=by simpa using hne
 change Sem.run P (α:=Value) (do
  let some t:=(#[tS,tS]:Array TypeId)[0]?|stuck "slices.overlaps: no parameter types"
  let .slice elem ←underlying t|stuck "slices.overlaps: slice type expected"
  let size ←sizeOf elem
  match(some a:Option Addr),(some b:Option Addr) with
  | some a,some b =>
    if la=0∨lb=0∨size=0 then pure (Value.bool false)
    else if a.block != b.block&&(←frozen a)&&(←frozen b) then unsupported .addressObserved
    else do
     if a.block != b.block then do
      noView a;noView b
      if ←mayBeOne a b then return Value.bool ((←choose (.extern "sameAddr.stringBytes" 2))==1)
     pure (Value.bool (a.block==b.block&&a.off<b.off+lb*size&&b.off<a.off+la*size))
  | _,_=>pure (Value.bool false)) w=_
 by_cases h0:la=0∨lb=0∨size=0
 ·simp[run_underlying ht,hz,h0]
 ·cases kA with
  | zero=>exact absurd rfl hkA
  | succ kA =>
    cases hfa:w.frozen? a<;>cases ahJ:w.frozen? { block:=a.block,off:=kA+1 } <;>
     simp[run_underlying ht,hz,h0,hnb,ahI,frozen,noView,viewAt,mayBeOne,stringish,shape,Sem.run,hsa,hsb,hfa,ahJ,hfb,hfe]
def JZ{α:Type}(l:List α)(i:Int)(m:List α):Option (List α):=bif inside 0 i (len l)&&fits (plus (len l) (len m)) then some (l.take i.toNat++m++l.drop i.toNat) else none
variable {P:Program} {ρ:Ren} {nm:String}
theorem Po{w:World}{b o:Nat}{cur:Array Value}{tt:TypeId}{fr:Nat×Nat}(hg:w.heap[b]?=some (.cells cur tt fr))(h:¬(fr.1≤o∧o<fr.2)):w.frozen? ⟨b,o,none⟩=false:=by
 obtain⟨f1,f2⟩:=fr;simp only[World.frozen?,hg];simp only[not_and,Nat.not_lt] at h;simp;exact h
theorem Fz{e:Ty}(L:Tb P ρ nm e.size)(hnm:(nm == "runtime.NumGoroutine")=false)(he:Den P e (ρ.t 9))(hby:Hf P (ρ.t 9)=true)(hpos:0<e.size)(hint:e.isInt=false) :
  gz P (ρ.f 22) (.own e (.pair (.int .i64) (.pair (.slice e) .unit)) true fun l x=>JZ (α:=e.den) l x.1 x.2.1):=by
 refine⟨⟨_,_,L.f22,hnm,rfl⟩,fun I w args v rest l l' L0 x hI hargs hown oK hspec=>?_⟩;obtain⟨xi,ml,xu⟩:=x;change Int at xi;change List e.den at ml;obtain⟨UA,r1,rfl,hc1,RA,r2,rfl,hc2,rfl⟩:=oK;obtain⟨hc1,hmin,hmax⟩:=hc1;subst hc1;change JZ (α:=e.den) l xi ml=some l' at hspec;have hsp:(inside 0 xi (len l)&&fits (plus (len l) (len ml)))=true∧l'=l.take xi.toNat++ml++l.drop xi.toNat:=by
  unfold JZ at hspec;cases hq:(inside 0 xi (len l)&&fits (plus (len l) (len ml))) with
  | true=>rw[hq] at hspec;exact⟨rfl,(aG hspec).symm⟩
  | false=>rw[hq] at hspec;cases hspec
 obtain⟨Pp,rfl⟩:=hsp;simp only[dW] at Pp;obtain⟨_,hx0,hxl⟩:=iE Pp.1;have hfit:l.length+ml.length≤4294967296:=by
  have:fits (((l.length+ml.length:Nat)):Int)=true:=by rw[←Pp.2];simp[plus,len]
  exact E8 this
 obtain⟨i,rfl⟩:∃i:Nat,xi=i:=⟨xi.toNat,by omega⟩;have hil:i≤l.length:=by simp only[len] at hxl;omega
 rw[zg];obtain⟨v2,rfl⟩:∃v2,RA=[v2]:=by
  rcases hc2 with ⟨⟨base,q⟩,_⟩|⟨_,_,_,q,_⟩<;>exact⟨_,q⟩
 have Ek:args=#[v,.int .i64 i,v2]:=by apply Array.toList_inj.1;rw[hargs];rfl
 subst Ek;obtain⟨ie,ze,e1,e2,e3,e4⟩:=he.info;have hbs:=Bh hby e1;have hzc:ze.cells.size=e.size:=by rw[←dy e,←e4];simp
 have aau:∀{w':World},w'=w→∃I',jZ w I (fun k=>∃c,L0=some (k,c)) w' I'∧I'=I:=fun {w'} hw=>⟨I,by subst hw;exact jZ.mk' rfl rfl rfl (mq _) (fun _ _ _=>rfl) hI,rfl⟩;rcases hc2 with ⟨⟨adL,q2⟩,aav⟩|⟨vb,voff,vc,q2,hvc,hvm,hvx⟩
 ·
  obtain rfl:v2=.slice adL 0 0:=by simpa using q2
  have aav:ml=[]:=aav;subst aav;have hres:l.take i++([]:List e.den)++l.drop i=l:=by simp
  obtain⟨base,n,c,hv,hnl,hnc⟩:∃base n c,v=.slice base n c∧n=l.length∧n≤c:=by
   rcases hown with ⟨_,rfl,rfl⟩|⟨blk,cap,cur,tid,fr,_,rfl,_,_,q5,_⟩
   ·exact⟨none,0,0,rfl,rfl,mq _⟩
   ·exact⟨_,_,_,rfl,rfl,q5⟩
  subst hv;refine(I3 L base adL n c i 0 w (by omega) hnc).mono fun q w' hw=>?_;obtain⟨rfl,rfl⟩:=hw;obtain⟨I',Uk,rfl⟩:=aau rfl;refine⟨I',Uk,_,L0,rfl,?_,fun blk c h=>.inl ⟨c,h⟩⟩;rw[hres];exact hown
 ·have hvx:∀(i:Nat) (x:e.den),ml[i]?=some x→_:=hvx;obtain rfl:v2=.slice (some ⟨vb,voff,none⟩) ml.length vc:=by simpa using q2
  obtain⟨news,n1,n2,n3,n4⟩:=D6 (w:=w) (I:=I) (l:=ml) (blk:=vb) (off:=voff) fun i x hx=>by
   obtain⟨es,a1,a2,a3⟩:=hvx i x hx;exact⟨es,a1,fun j c hj=>(a2 j c hj).1,a3⟩
  have hel:eA w I e ml news:=n4;rcases YY ml.length with hm0|hm0
  ·
   have aav:ml=[]:=List.length_eq_zero_iff.1 hm0;subst aav;have hres:l.take i++([]:List e.den)++l.drop i=l:=by simp
   obtain⟨base,n,c,hv,hnl,hnc⟩:∃base n c,v=.slice base n c∧n=l.length∧n≤c:=by
    rcases hown with ⟨_,rfl,rfl⟩|⟨blk,cap,cur,tid,fr,_,rfl,_,_,q5,_⟩
    ·exact⟨none,0,0,rfl,rfl,mq _⟩
    ·exact⟨_,_,_,rfl,rfl,q5⟩
   subst hv;refine(I3 L base (some ⟨vb,voff,none⟩) n c i vc w (by omega) hnc).mono fun q w' hw=>?_;obtain⟨rfl,rfl⟩:=hw;obtain⟨I',Uk,rfl⟩:=aau rfl;refine⟨I',Uk,_,L0,rfl,?_,fun blk c h=>.inl ⟨c,h⟩⟩;rw[hres];exact hown
  ·
   have hvI:I vb voff∧vb<w.heap.size∧∃A tA frA,w.heap[vb]?=some (.cells A tA frA)∧A.size≠0:=by
    obtain⟨x0,hx0'⟩:∃x0,ml[0]?=some x0:=⟨_,ru hm0⟩;obtain⟨es,a1,a2,a3⟩:=hvx 0 x0 hx0';have YK:0<es.length:=by omega
    obtain⟨b1,b2⟩:=a2 0 es[0] (ru YK);simp only[OY,yf] at b1 b2;refine⟨b2,hI _ _ b2,?_⟩;simp only[World.cell?] at b1;split at b1
    ·rename_i A tA frA hA;refine⟨A,tA,frA,hA,fun h0=>?_⟩;simp at b1;have:=(Array.getElem?_eq_some_iff.1 b1).1;omega
    ·cases b1
   obtain⟨hvI,hvw,A,tA,frA,hA,hA0⟩:=hvI;have hsrc:Src P e.size (ρ.t 24) (.slice (some ⟨vb,voff,none⟩) ml.length vc) ml.length news w:=Src.ofSlice w L.t24 ⟨vb,voff,none⟩ ml.length vc news n1 (fun j u hj=>by rw[addr_add];exact n2 j u hj) n3;have pE:∀{w':World} {cap:Nat} {cells:Array Value} {blk:Nat} {fr':Nat×Nat},w'.os=w.os→w'.tape=w.tape→w'.output=w.output→w.heap.size≤w'.heap.size→(∀q,q<w.heap.size→w'.heap[q]?=w.heap[q]?) →
     blk=w.heap.size→w'.heap[blk]?=some (.cells cells (ρ.t 9) (0,0))→l.length+ml.length≤cap→cap≤maxLen→cells.size=cap*e.size →
     (∀(q:Nat) (x:e.den),(l.take i++ml++l.drop i)[q]?=some x→bt w I e x ((cells.toList.drop (q*e.size)).take e.size)) →
     ∃I',jZ w I (fun k=>∃c,L0=some (k,c)) w' I'∧∃v' L',Ending.returned (.slice (some ⟨w.heap.size,0,none⟩) (l.length+ml.length) cap)=.returned v'∧wg w' I' e (l.take i++ml++l.drop i) L' v'∧∀blk c,L'=some (blk,c)→(∃c,L0=some (blk,c))∨w.heap.size≤blk:=by
    intro w' cap cells blk fr' o1 o2 o3 o4 o5 hbk hnew hc1 hc2 hc3 aes;subst hbk;have hlen:(l.take i++ml++l.drop i).length=l.length+ml.length:=by simp;omega
    refine⟨I,jZ.mk' o1 o2 o3 o4 (fun q hq _=>o5 q hq) hI,_,some (w.heap.size,cap),rfl,.inr ⟨w.heap.size,cap,cells,ρ.t 9,(0,0),rfl,by rw[hlen],hnew,yw _ _,by rw[hlen];exact hc1,hc2,hc3,fun o hi=>by have:=hI _ _ hi;omega,fun q x hx=>?_⟩,fun blk c h=>by
     obtain⟨rfl,_⟩:=ec (aG h);exact .inr (mq _)⟩
    exact bt.mono (fun _ _ h=>h) (fun b o hi=>cH (o5 b (hI b o hi))) (aes q x hx)
   rcases hown with ⟨rfl,rfl,rfl⟩|⟨blk,cap,cur,tid,fr,rfl,rfl,q3,q4,q5,q6,q7,q8,q9⟩
   ·
    obtain rfl:i=0:=by simpa using hil
    obtain⟨cap,cells,g1,g2,g3,g4,g5⟩:=Bi (P:=P) (I:=I) (ty:=ρ.t 24) (l:=([]:List e.den)) (base:=none) (sCap:=0) (olds:=[]) L.t24 he hby (by simpa using run_firstCells_none w.drew e.size 0 0 0) (by simp) (fun i x hx=>by cases hx) hsrc hel
     (by simpa using hm0) (by simpa using hfit)
    simp only[vS,uW,Up] at g1 g2 g5;refine(Qy L none 0 0 ml.length vc (some ⟨vb,voff,none⟩) w _ _ hm0 (mq _) g1).mono fun q w' hw=>?_;obtain⟨rfl,rfl⟩:=hw;have:=pE (w':=w.drew.alloc (.cells cells (ρ.t 9))) (fr':=(0,0)) rfl rfl rfl (by simp) (fun q hq=>cu w.drew _ q hq) rfl (heap_alloc_new w.drew _) (by simpa using g2) g3 g4 (fun q x hx=>g5 q x (by simpa using hx));simpa using this
   ·have hblk:blk<w.heap.size:=(Array.getElem?_eq_some_iff.1 q3).1;have hcl:cur.toList.length=cap*e.size:=by simpa using q7
    have hlk:l.length*e.size≤cap*e.size:=sS _ q5;have hne:vb≠blk:=fun h=>q8 voff (h▸hvI);have hone:∀v∈cur.toList.take (l.length*e.size),v.oneCell'=true:=by
     intro v hv;obtain⟨j,hj⟩:=List.mem_iff_getElem?.1 hv;rw[uo] at hj;split at hj
     ·rename_i hjl;have hd:j / e.size<l.length:=by rw[Wh hpos];exact hjl
      have hm:=q9 (j / e.size) l[j / e.size] (ru hd);refine hm.one v ?_;have hmod:=A4 j hpos;have hjj:j / e.size*e.size+j % e.size=j:=by rw[RR];exact RP j e.size
      refine yc (i:=j % e.size) ?_;rw[uo,bG hmod,ni,hjj];exact hj
     ·cases hj
    have adM:∀{w':World} {F:List Value},w'.os=w.os→w'.tape=w.tape→w'.output=w.output→w.heap.size≤w'.heap.size→(∀q,q<w.heap.size→q≠blk→w'.heap[q]?=w.heap[q]?) →
      w'.heap[blk]?=some (.cells F.toArray tid fr)→F.length=cap*e.size→l.length+ml.length≤cap →
      (∀(q:Nat) (x:e.den),(l.take i++ml++l.drop i)[q]?=some x→bt w I e x ((F.drop (q*e.size)).take e.size)) →
      ∃I',jZ w I (fun k=>∃c,some (blk,cap)=some (k,c)) w' I'∧∃v' L',Ending.returned (.slice (some ⟨blk,0,none⟩) (l.length+ml.length) cap)=.returned v'∧wg w' I' e (l.take i++ml++l.drop i) L' v'∧∀b c,L'=some (b,c)→(∃c,some (blk,cap)=some (b,c))∨w.heap.size≤b:=by
     intro w' F o1 o2 o3 o4 o5 hnew hF hroom aes;have hlen:(l.take i++ml++l.drop i).length=l.length+ml.length:=by simp;omega
     have hsz:F.toArray.size=cur.size:=by rw[JC,hF,q7]
     refine⟨I,jZ.mk' o1 o2 o3 o4 (fun q hq hn=>o5 q hq fun e=>hn ⟨cap,by rw[e]⟩) hI,_,some (blk,cap),rfl,.inr ⟨blk,cap,F.toArray,tid,fr,rfl,by rw[hlen],hnew,q4.same hsz,by rw[hlen];exact hroom,q6,by rw[hsz];exact q7,q8,fun q x hx=>?_⟩,fun b c h=>.inl ⟨c,h⟩⟩;refine bt.mono (fun _ _ h=>h) (fun b o hi=>cH (o5 b (hI b o hi) fun e=>?_)) (aes q x hx);subst e;exact q8 o hi
    rcases yg i l.length with hin|hin
    ·rcases yg cap (l.length+ml.length) with hroom|hroom
     ·
      refine(aar L blk l.length cap i vb voff ml.length vc [] news w e1 e2 e3 hzc hpos hbs hin hm0 q5 hroom hfit q3 q7 hone n1 n2 hvw n3).mono fun q w' hw=>?_;obtain⟨G,Z,hG1,hG2,hZ,rfl,rfl⟩:=hw;have hRk:(l.length+ml.length)*e.size≤G*e.size:=sS _ hG1;have hb1:i*e.size+news.length≤(cur.toList.take (i*e.size)++Z).length:=by
       rw[hZ,n1,←gi];exact sS _ (by omega)
      have hs1:=bA hb1;have hl1:((cur.toList.take (l.length*e.size)).drop (i*e.size)).length=(l.length-i)*e.size:=by
       rw[w8,o6,sV (by omega),RU]
      have hb2:(i+ml.length)*e.size+((cur.toList.take (l.length*e.size)).drop (i*e.size)).length≤(splice (cur.toList.take (i*e.size)++Z) (i*e.size) news).length:=by
       rw[hs1,hZ,hl1,←gi];exact sS _ (by omega)
      have hs2:=bA hb2;have hik:i*e.size≤l.length*e.size:=sS _ (by omega);have hti:(cur.toList.take (i*e.size)).length=i*e.size:=by rw[o6];omega
      have hnew:(((w.drew.alloc (.cells (cur.toList.take (i*e.size)++Z).toArray (ρ.t 9))).setRow w.heap.size (splice (cur.toList.take (i*e.size)++Z) (i*e.size) news).toArray).drew.setRow w.heap.size (splice (splice (cur.toList.take (i*e.size)++Z) (i*e.size) news) ((i+ml.length)*e.size) ((cur.toList.take (l.length*e.size)).drop (i*e.size))).toArray).heap[w.heap.size]? =
        some (.cells (splice (splice (cur.toList.take (i*e.size)++Z) (i*e.size) news) ((i+ml.length)*e.size) ((cur.toList.take (l.length*e.size)).drop (i*e.size))).toArray (ρ.t 9) (0,0)) :=
       setRow_heap _ _ _ _ _ _ (show((w.drew.alloc (.cells (cur.toList.take (i*e.size)++Z).toArray (ρ.t 9))).setRow w.heap.size (splice (cur.toList.take (i*e.size)++Z) (i*e.size) news).toArray).drew.heap[w.heap.size]?=_ from setRow_heap _ _ _ _ _ _ (heap_alloc_new w.drew _))
      refine pE (fr':=(0,0)) rfl rfl rfl (by simp) (fun q hq=>?_) rfl hnew hG1 hG2 (by rw[JC,hs2,hs1,hZ]) ?_
      ·rw[setRow_other _ _ _ _ (by omega)];show((w.drew.alloc _).setRow w.heap.size _).heap[q]?=_
       rw[setRow_other _ _ _ _ (by omega)];exact cu w.drew _ q hq
      ·refine Pn (cur:=cur.toList) (vs:=news) (n:=l.length) (m:=ml.length) rfl rfl hil q9 hel (fun j hj=>?_) (fun j hj=>?_) (fun j hj=>?_)
       ·rw[b5 hb2,bG (by rw[gi];omega),b5 hb1,bG hj,Um (by rw[hti];exact hj),uo,bG hj]
       ·rw[b5 hb2,bG (by rw[gi];omega),b5 hb1,bH (by omega),bG (by rw[n1];omega)]
        congr 1;omega
       ·rw[b5 hb2,bH (by omega),bG (by rw[hl1];omega),ni,uo,bG (by
         have:i*e.size+(l.length-i)*e.size=l.length*e.size:=by rw[←gi];congr 1;omega
         omega)]
        congr 1;omega
     ·
      have hmk:(l.length+ml.length)*e.size≤cap*e.size:=sS _ hroom;have VC:(i+ml.length)*e.size≤cap*e.size:=sS _ (by omega);refine(XU L blk l.length cap i vb voff ml.length vc [] news w hin hm0 hroom (by unfold maxLen at q6;omega) hne q3 q4.th q7 hone n1 n2 n3 (fun lb cb=>?_)).mono fun q w' hw=>?_
      ·refine JY w _ _ (ρ.t 9) L.t24 e.size L.z9 ⟨vb,voff,none⟩ ⟨blk,(i+ml.length)*e.size,none⟩ ml.length vc lb cb hne tA tid A.size cur.size (by simp[World.shape?,hA]) (by simp[World.shape?,q3]) hA0 ?_ ?_
       ·refine Po q3 ?_;rcases yg ((i+ml.length)*e.size) cur.size with hlt|hge
        ·exact q4.th _ hlt
        ·have:(i+ml.length)*e.size=cur.size:=by omega
         rw[this];exact q4.um hint
       ·exact Po q3 (q4.um hint)
      ·obtain⟨rfl,rfl⟩:=hw;have hik:i*e.size≤l.length*e.size:=sS _ (by omega);have hl1:((cur.toList.take (l.length*e.size)).drop (i*e.size)).length=(l.length-i)*e.size:=by
        rw[w8,o6,sV (by omega),RU]
       have hb1:(i+ml.length)*e.size+((cur.toList.take (l.length*e.size)).drop (i*e.size)).length≤cur.toList.length:=by
        rw[hl1,hcl,←gi];exact sS _ (by omega)
       have hs1:=bA hb1;have hb2:i*e.size+news.length≤(splice cur.toList ((i+ml.length)*e.size) ((cur.toList.take (l.length*e.size)).drop (i*e.size))).length:=by
        rw[hs1,hcl,n1,←gi];exact VC
       have hs2:=bA hb2;refine adM rfl rfl rfl (by simp) (fun q hq hqb=>?_) (setRow_heap _ _ _ _ _ _ (setRow_heap w.drew blk cur _ tid fr q3)) (by rw[hs2,hs1,hcl]) hroom ?_
       ·rw[setRow_other _ _ _ _ hqb,setRow_other _ _ _ _ hqb];rfl
       ·refine Pn (cur:=cur.toList) (vs:=news) (n:=l.length) (m:=ml.length) rfl rfl hil q9 hel (fun j hj=>?_) (fun j hj=>?_) (fun j hj=>?_)
        ·rw[b5 hb2,bG hj,b5 hb1,bG (by rw[gi];omega)]
        ·rw[b5 hb2,bH (by omega),bG (by rw[n1];omega)]
         congr 1;omega
        ·rw[b5 hb2,bH (by rw[gi];omega),bH (by rw[n1,gi];omega),b5 hb1,bH (by omega),bG (by rw[hl1];omega),ni,uo,bG (by
          have:i*e.size+(l.length-i)*e.size=l.length*e.size:=by rw[←gi];congr 1;omega
          omega)]
         congr 1;omega
    ·
     obtain rfl:i=l.length:=by omega
     have hres:l.take l.length++ml++l.drop l.length=l++ml:=by simp
     rcases yg cap (l.length+ml.length) with hroom|hroom
     ·have hfc:=run_firstCells_some (P:=P) w.drew e.size l.length ⟨blk,0,none⟩ l.length cap (cur.toList.take (l.length*e.size)) (by rw[o6];omega) (fun j v hj=>by
       rw[addr_add];show w.cell? ⟨blk,0+j,none⟩=some v
       rw[cell_of_heap q3];rw[uo] at hj;split at hj
       ·simpa using hj
       ·cases hj)
      obtain⟨cap2,cells,g1,g2,g3,g4,g5⟩:=Bi (P:=P) (I:=I) (ty:=ρ.t 24) (l:=l) (base:=some ⟨blk,0,none⟩) (sCap:=cap) L.t24 he hby hfc (by rw[o6];omega) (eA.front (n:=l.length*e.size) q9 (mq _) (by omega)) hsrc hel hroom hfit;refine(Qy L _ l.length cap ml.length vc _ w _ _ hm0 q5 g1).mono fun q w' hw=>?_;obtain⟨rfl,rfl⟩:=hw;exact pE (w':=w.drew.alloc (.cells cells (ρ.t 9))) (fr':=(0,0)) rfl rfl rfl (by simp) (fun q hq=>cu w.drew _ q hq) rfl (heap_alloc_new w.drew _) g2 g3 g4 (by rw[hres];exact g5)
     ·have hnl:=hsrc.newsLen;have hmul:(l.length+ml.length)*e.size≤cap*e.size:=sS _ hroom;rw[gi] at hmul;have hlen:l.length*e.size+news.length≤cur.toList.length:=by rw[hnl,hcl];exact hmul
      have hrun:=jY (P:=P) (t:=ρ.t 24) (tx:=ρ.t 24) (ty:=ρ.t 24) (sCap:=cap) L.t24 (L.z9 w) hsrc q3 q4.th hroom (by simpa using hlen);refine(Qy L _ l.length cap ml.length vc _ w _ _ hm0 q5 hrun).mono fun q w' hw=>?_;obtain⟨rfl,rfl⟩:=hw;refine adM rfl rfl rfl (by simp) (fun q hq hqb=>setRow_other _ _ _ _ hqb) (setRow_heap w blk cur _ tid fr q3) (by rw[bA hlen,hcl]) hroom ?_;rw[hres];have:=(eA.front (n:=l.length*e.size) q9 (mq _) (by omega)).append (rest:=cur.toList.drop (l.length*e.size+news.length)) hel (by rw[o6];omega) hnl;exact this
end Go.Ge
namespace Go.Ge
variable [Lp]
open RowKit Go.Shelf Go.Lib Go.Proofs
theorem J0{P:Program}{ops:Array Oper}{o:Oper}{a:Act}{w:World}{K:Act→World→Prop}{Q:Exit→Act→World→Prop}{E:Prop}
  (hg:o.guard=none) (s x:Operand) (t:TypeId) (hop:o.op=Op.call { callee:=Callee.builtin Builtin.append,args:=#[s,x],argTypes:=#[t,t] })
  (vs vx v:Value) (w1:World) (hs:a.eval s=vs) (hx:a.eval x=vx) (hrun:(Builtin.append_ #[t,t] o.type #[vs,vx]).run P w=.ok v w1) (hK:K (a.put o.dst v) w1) :
  if Region.wanted o (yielded ops a.tmps)=true then Oper.wp P o a w K Q else E:=by
 have hw:Region.wanted o (yielded ops a.tmps)=true:=by simp[Region.wanted,hg]
 rw[bG hw];unfold Oper.wp;simp[execOp,hop,resolve,invoke,builtin,hs,hx,hrun,Result.andThen];exact hK
theorem Tc{P:Program}(w:World)(sT ty elem:TypeId)(b o n cap:Nat){z:Value}{cur:Array Value}{tt:TypeId}{fr:Nat×Nat}
  (hu:P.underlying sT=some (.slice elem)) (hv:∀w,(zeroValue elem).run P w=.ok z w) (h1:∀u∈(Builtin.zeroCells z.cells n).toList,u.oneCell'=true) (hn:0<n)
  (hg:w.heap[b]?=some (.cells cur tt fr)) (Ls:kU cur fr) (hle:o+(Builtin.zeroCells z.cells n).size≤cur.size) :
  (Builtin.clear_ #[sT] ty #[.slice (some ⟨b,o,none⟩) n cap]).run P w=.ok (.tuple #[]) (w.setRow b (splice cur.toList o (Builtin.zeroCells z.cells n).toList).toArray):=by
 have hst:=cv (P:=P) b o tt fr (Builtin.zeroCells z.cells n).toList 0 cur w hg Ls (by simpa using hle) h1;rw[yf] at hst;obtain⟨m,rfl⟩:∃m,n=m+1:=⟨n-1,by omega⟩;simp[Builtin.clear_,run_underlying hu,hv,hst]
structure aaw (P:Program) (ρ:Ren) (nm:String) (k:Nat) (z:Value):Prop where
 mixed:P.follows .mixedOrders=true
 f24:P.funcs[ρ.f 24]?=some { Body2.n24 ρ with name:=nm }
 t3:P.underlying (ρ.t 3)=some (TypeDesc.int IntKind.i64)
 t4:P.underlying (ρ.t 4)=some TypeDesc.bool
 t24:P.underlying (ρ.t 24)=some (TypeDesc.slice (ρ.t 9))
 z9:∀w,(Go.sizeOf (ρ.t 9)).run P w=.ok k w
 v9:∀w,(zeroValue (ρ.t 9)).run P w=.ok z w
variable {P:Program} {ρ:Ren} {nm:String} {k:Nat} {z:Value}
set_option maxHeartbeats 4000000 in
set_option maxRecDepth 100000 in
theorem Td(L:aaw P ρ nm k z)(base:Option Addr)(n c i:Nat)(w:World)(hi:i≤n)(hnc:n≤c) :
  Calls P (ρ.f 24) #[.slice base n c,.int .i64 i,.int .i64 i] w fun e w'=>e=.returned (.slice base n c)∧w'=w:=by
 have t3:=L.t3;have t4:=L.t4;have t24:=L.t24;have z9:=L.z9;have u3:=run_underlying L.t3;have u4:=run_underlying L.t4;have u24:=run_underlying L.t24;have mixed:=L.mixed;have hin:(i:Int)≤(n:Int):=by omega
 go_enter L.f24,Body2.n24_ntmps ρ
 go_wp2
 all_goals (go_ret;exact⟨rfl,rfl⟩)
set_option maxHeartbeats 4000000 in
set_option maxRecDepth 100000 in
theorem aax(L:aaw P ρ nm k z)(b n c i j:Nat)(w w1 w2:World)(hij:i<j)(hj:j≤n)(hnc:n≤c)(_hc63:c≤9223372036854775807)
  (hap:∀A,(A=⟨b,j*k,none⟩∨(c=j∧A=⟨b,0,none⟩))→(Builtin.append_ #[ρ.t 24,ρ.t 24] (ρ.t 24) #[.slice (some ⟨b,0,none⟩) i c,.slice (some A) (n-j) (c-j)]).run P w.drew=.ok (.slice (some ⟨b,0,none⟩) (i+(n-j)) c) w1)
  (hcl:∀ty,(Builtin.clear_ #[ρ.t 24] ty #[.slice (some ⟨b,(i+(n-j))*k,none⟩) (n-(i+(n-j))) (c-(i+(n-j)))]).run P w1=.ok (.tuple #[]) w2) :
  Calls P (ρ.f 24) #[.slice (some ⟨b,0,none⟩) n c,.int .i64 i,.int .i64 j] w fun e w'=>e=.returned (.slice (some ⟨b,0,none⟩) (i+(n-j)) c)∧w'=w2:=by
 have t3:=L.t3;have t4:=L.t4;have t24:=L.t24;have z9:=L.z9;have u3:=run_underlying L.t3;have u4:=run_underlying L.t4;have u24:=run_underlying L.t24;have mixed:=L.mixed;obtain⟨A,hA,hA2⟩:∃A:Addr,(if c=j then some (⟨b,0,none⟩:Addr) else some ⟨b,j*k,none⟩)=some A∧(A=⟨b,j*k,none⟩∨(c=j∧A=⟨b,0,none⟩)):=by
  by_cases h:c=j
  ·exact⟨⟨b,0,none⟩,by simp[h],.inr ⟨h,rfl⟩⟩
  ·exact⟨⟨b,j*k,none⟩,by simp[h],.inl rfl⟩
 have ahL:=hap A hA2;clear hap;have hic:i≤c:=by omega
 have hjc:j≤c:=by omega
 have hb4:¬(c=i+(n-j)):=by omega
 go_enter L.f24,Body2.n24_ntmps ρ
 go_wp2_with fail
 go_region_law_o (refine J0 rfl (.tmp 22) (.tmp 25) (ρ.t 24) rfl (.slice (some ⟨b,0,none⟩) i c) (.slice (some A) (n-j) (c-j)) _ w1 (by simp[Act.eval,Act.put]) (by simp[Act.eval,Act.put]) ahL ?_)
 go_wp2
 go_ret
 exact⟨rfl,rfl⟩
def aay{α:Type}(l:List α)(i j:Int):Option (List α):=bif inside i j (len l) then some (l.take i.toNat++l.drop j.toNat) else none
theorem XV{w:World}{I:Nat→Nat→Prop}{e:Ty}{l:List e.den}{cur F:List Value}{i j n:Nat}(Xv:l.length=n)(hij:i≤j)(hj:j≤n)(h1:∀(q:Nat) (x:e.den),l[q]?=some x→bt w I e x ((cur.drop (q*e.size)).take e.size))
  (hF1:∀t,t<i*e.size→F[t]?=cur[t]?) (hF2:∀t,t<(n-j)*e.size→F[i*e.size+t]?=cur[j*e.size+t]?) :
  ∀(q:Nat) (x:e.den),(l.take i++l.drop j)[q]?=some x→bt w I e x ((F.drop (q*e.size)).take e.size):=by
 intro q x hx;have hti:(l.take i).length=i:=by rw[o6];omega
 have step:∀{a b:Nat},a<b→∀t,t<e.size→a*e.size+t<b*e.size:=fun {a b} hab t ht=>by
  have:(a+1)*e.size≤b*e.size:=sS _ hab;rw[gi,Nat.one_mul] at this;omega
 rw[RH,hti] at hx;split at hx
 ·rename_i hq;rw[uo,bG hq] at hx;rw[yF (L':=cur) (p':=q*e.size) fun t ht=>hF1 _ (step hq t ht)];exact h1 q x hx
 ·rename_i hq;obtain⟨r,rfl⟩:∃r,q=i+r:=⟨q-i,by omega⟩;rw[show i+r-i=r by omega,ni] at hx;have hr:j+r<n:=by rw[←Xv];exact(List.getElem?_eq_some_iff.1 hx).1
  rw[yF (L':=cur) (p':=(j+r)*e.size) fun t ht=>by
   have:=hF2 (r*e.size+t) (step (show r<n-j by omega) t ht);rw[show(i+r)*e.size+t=i*e.size+(r*e.size+t) by rw[gi,AR],this]
   congr 1;rw[gi];omega]
  exact h1 (j+r) x hx
theorem WO{e:Ty}(L:aaw P ρ nm e.size z)(hnm:(nm == "runtime.NumGoroutine")=false)(hz:z.cells.toList=ew e)(hpos:0<e.size) :
  gz P (ρ.f 24) (.own e (.pair (.int .i64) (.pair (.int .i64) .unit)) true fun l x=>aay (α:=e.den) l x.1 x.2.1):=by
 refine⟨⟨_,_,L.f24,hnm,rfl⟩,fun I w args v rest l l' L0 x hI hargs hown oK hspec=>?_⟩;have hz1:∀u∈ew e,u.oneCell'=true:=fun u hu=>(mB w I e).one u hu;obtain⟨xi,xj,xu⟩:=x;change Int at xi;change Int at xj;obtain⟨UA,r1,rfl,hc1,RA,r2,rfl,hc2,rfl⟩:=oK;obtain⟨hc1,_,_⟩:=hc1;obtain⟨hc2,_,_⟩:=hc2;subst hc1 hc2;change aay (α:=e.den) l xi xj=some l' at hspec;have hsp:inside xi xj (len l)=true∧l'=l.take xi.toNat++l.drop xj.toNat:=by
  unfold aay at hspec;cases hq:inside xi xj (len l) with
  | true=>rw[hq] at hspec;exact⟨rfl,(aG hspec).symm⟩
  | false=>rw[hq] at hspec;cases hspec
 obtain⟨Pp,rfl⟩:=hsp;obtain⟨hx0,hxl,hxn⟩:=iE Pp;simp only[len] at hxn;obtain⟨i,rfl⟩:∃i:Nat,xi=i:=⟨xi.toNat,by omega⟩;obtain⟨j,rfl⟩:∃j:Nat,xj=j:=⟨xj.toNat,by omega⟩;have hij:i≤j:=by omega
 have hj:j≤l.length:=by omega
 rw[zg,zg];have Ek:args=#[v,.int .i64 i,.int .i64 j]:=by apply Array.toList_inj.1;rw[hargs];rfl
 subst Ek;rcases yg i j with hlt|hge
 ·rcases hown with ⟨rfl,rfl,rfl⟩|⟨blk,cap,cur,tid,fr,rfl,rfl,q3,q4,q5,q6,q7,q8,q9⟩
  ·simp at hj;omega
  ·have hcl:cur.toList.length=cap*e.size:=by simpa using q7
   have hlk:l.length*e.size≤cap*e.size:=sS _ q5;have hjk:j*e.size≤l.length*e.size:=sS _ hj;have hone:∀v∈cur.toList.take (l.length*e.size),v.oneCell'=true:=by
    intro v hv;obtain⟨t,ht⟩:=List.mem_iff_getElem?.1 hv;rw[uo] at ht;split at ht
    ·rename_i htl;have hd:t / e.size<l.length:=by rw[Wh hpos];exact htl
     have hm:=q9 (t / e.size) l[t / e.size] (ru hd);refine hm.one v ?_;have hmod:=A4 t hpos;have htt:t / e.size*e.size+t % e.size=t:=by rw[RR];exact RP t e.size
     refine yc (i:=t % e.size) ?_;rw[uo,bG hmod,ni,htt];exact ht
    ·cases ht
   obtain⟨news,hnews⟩:∃news,news=(cur.toList.take (l.length*e.size)).drop (j*e.size):=⟨_,rfl⟩;have hnl:news.length=(l.length-j)*e.size:=by
    rw[hnews,w8,o6,sV (by omega),RU]
   have hn1:∀v∈news,v.oneCell'=true:=fun v hv=>hone v (by rw[hnews] at hv;exact Y6 hv);have hsum:i*e.size+(l.length-j)*e.size≤cap*e.size:=by rw[←gi];exact sS _ (by omega)
   have hb1:i*e.size+news.length≤cur.toList.length:=by rw[hnl,hcl];exact hsum
   have hs1:=bA hb1;obtain⟨Z,hZ⟩:∃Z,Z=(Builtin.zeroCells z.cells (l.length-(i+(l.length-j)))).toList:=⟨_,rfl⟩;have hzs:z.cells.size=e.size:=by rw[←dy e,←hz];simp
   have hZl:Z.length=(l.length-(i+(l.length-j)))*e.size:=by rw[hZ];simp[Builtin.zeroCells,hzs]
   have hZ1:∀u∈(Builtin.zeroCells z.cells (l.length-(i+(l.length-j)))).toList,u.oneCell'=true:=by
    intro u hu;simp only[Builtin.zeroCells] at hu;obtain⟨t,ht⟩:=List.mem_iff_getElem?.1 hu;simp at ht;obtain⟨t1,_,ht2⟩:=ht;have hmod:t1 % z.cells.size<z.cells.size:=A4 _ (by omega);refine hz1 u ?_;rw[←hz,←ht2,getElem!_pos z.cells _ hmod];simp
   have hb2:(i+(l.length-j))*e.size+Z.length≤(splice cur.toList (i*e.size) news).length:=by
    rw[hs1,hcl,hZl,←gi];exact sS _ (by omega)
   have hs2:=bA hb2;have hgd:w.drew.heap[blk]?=some (.cells cur tid fr):=q3;have Wx:(w.drew.setRow blk (splice cur.toList (i*e.size) news).toArray).heap[blk]?=some (.cells (splice cur.toList (i*e.size) news).toArray tid fr):=setRow_heap w.drew blk cur _ tid fr hgd;have ahM:kU (splice cur.toList (i*e.size) news).toArray fr:=q4.th.same (by rw[JC,hs1];simp);have ahN:=fun ty=>Tc (P:=P) (w.drew.setRow blk (splice cur.toList (i*e.size) news).toArray) (ρ.t 24) ty (ρ.t 9) blk ((i+(l.length-j))*e.size) (l.length-(i+(l.length-j))) (cap-(i+(l.length-j))) L.t24 L.v9 hZ1 (by omega) Wx ahM (by
    rw[JC,←Un,←hZ];exact hb2)
   refine(aax L blk l.length cap i j w _ _ hlt hj q5 (by unfold maxLen at q6;omega) (fun A hA=>?_) ahN).mono fun q w' hw=>?_
   ·have hsrc:Src P e.size (ρ.t 24) (.slice (some A) (l.length-j) (cap-j)) (l.length-j) news w.drew:=Src.ofSlice w.drew L.t24 A (l.length-j) (cap-j) news hnl (fun t u ht=>by
     rcases hA with rfl|⟨hc,rfl⟩
     ·rw[addr_add,cell_of_heap hgd];rw[hnews,ni,uo] at ht;split at ht
      ·simpa using ht
      ·cases ht
     ·have h0:news.length=0:=by rw[hnl,show l.length-j=0 by omega];simp
      rw[List.length_eq_zero_iff.1 h0] at ht;cases ht) hn1
    exact jY (P:=P) (t:=ρ.t 24) (tx:=ρ.t 24) (ty:=ρ.t 24) (sCap:=cap) L.t24 (L.z9 w.drew) hsrc hgd q4.th (by omega) (by simpa using hb1)
   ·obtain⟨rfl,rfl⟩:=hw;have hlen:(l.take i++l.drop j).length=i+(l.length-j):=by simp;omega
    have hsz:(splice (splice cur.toList (i*e.size) news) ((i+(l.length-j))*e.size) Z).toArray.size=cur.size:=by rw[JC,hs2,hs1];simp
    rw[←hZ];refine⟨I,jZ.mk' rfl rfl rfl (by simp) (fun q hq hn=>?_) hI,_,some (blk,cap),rfl,.inr ⟨blk,cap,(splice (splice cur.toList (i*e.size) news) ((i+(l.length-j))*e.size) Z).toArray,tid,fr,rfl,by rw[hlen],setRow_heap _ _ _ _ _ _ Wx,q4.same hsz,by rw[hlen];omega,q6,by rw[hsz];exact q7,q8,fun q x hx=>?_⟩,fun b c h=>.inl ⟨c,h⟩⟩
    ·have hqb:q≠blk:=fun e=>hn ⟨cap,by rw[e]⟩;rw[setRow_other _ _ _ _ hqb,setRow_other _ _ _ _ hqb];rfl
    ·refine bt.mono (fun _ _ h=>h) (fun b o hi=>cH (by
      have hqb:b≠blk:=fun e=>q8 o (e▸hi);rw[setRow_other _ _ _ _ hqb,setRow_other _ _ _ _ hqb];rfl)) (XV (cur:=cur.toList) (n:=l.length) rfl hij hj q9 (fun t ht=>?_) (fun t ht=>?_) q x hx)
     ·rw[b5 hb2,bG (by rw[gi];omega),b5 hb1,bG ht]
     ·rw[b5 hb2,bG (by rw[gi];omega),b5 hb1,bH (by omega),bG (by rw[hnl];omega),hnews,ni,uo,bG (by
       have:j*e.size+(l.length-j)*e.size=l.length*e.size:=by rw[←gi];congr 1;omega
       omega)]
      congr 1;omega
 ·obtain rfl:i=j:=by omega
  have hres:l.take i++l.drop i=l:=RG i l;obtain⟨base,n,c,hv,hnl,hnc⟩:∃base n c,v=.slice base n c∧n=l.length∧n≤c:=by
   rcases hown with ⟨_,rfl,rfl⟩|⟨blk,cap,cur,tid,fr,_,rfl,_,_,q5,_⟩
   ·exact⟨none,0,0,rfl,rfl,mq _⟩
   ·exact⟨_,_,_,rfl,rfl,q5⟩
  subst hv;refine(Td L base n c i w (by omega) hnc).mono fun q w' hw=>?_;obtain⟨rfl,rfl⟩:=hw;refine⟨I,jZ.mk' rfl rfl rfl (mq _) (fun _ _ _=>rfl) hI,_,L0,rfl,?_,fun blk c h=>.inl ⟨c,h⟩⟩;rw[hres];exact hown
end Go.Ge
namespace Go.Ge
variable [Lp]
def J1{α:Type}(a b:Option α):Prop:=∀y,a=some y→b=some y
theorem J1.refl{α:Type}(a:Option α):J1 a a:=fun _ h=>h
theorem J1.aa{α β:Type}{a a':Option α}{f f':α→Option β}(h:J1 a a')(k:∀x,J1 (f x) (f' x)):J1 (aa a f) (aa a' f'):=fun y hy=>by
 cases a with
 | none=>cases hy
 | some x=>rw[h x rfl];exact k x y hy
theorem J1.aq{α:Type}{c:Bool}{a a' b b':Option α}(h:J1 a a')(k:J1 b b'):J1 (aq c a b) (aq c a' b'):=by cases c<;>assumption
theorem J1.cond{α:Type}{c:Bool}{a a' b b':Option α}(h:J1 a a')(k:J1 b b'):J1 (cond c a b) (cond c a' b'):=by cases c<;>assumption
theorem J1.cM{S:Type}{a b:Option (S⊕(Nat×S))}(h:J1 a b):J1 (cM a) (cM b):=fun y hy=>by
 cases a with
 | none=>cases hy
 | some x=>rw[h x rfl];exact hy
theorem J1.pick{α β γ:Type}{f f':α→Option γ}{g g':β→Option γ}{x:α⊕β}(h:∀y,J1 (f y) (f' y))(k:∀y,J1 (g y) (g' y)):J1 (pick f g x) (pick f' g' x):=by
 cases x with
 | inl y=>exact h y
 | inr y=>exact k y
def afU{S R:Type}(f:S→Option (S⊕R))(s:S):Option R:=rounds f 100000 s
theorem J1.loop{S R:Type}{f g:S→Option (S⊕R)}{s:S}(h:∀s,J1 (f s) (g s)):J1 (afU f s) (Loop g s):=by
 have key:∀(n:Nat) (s:S),J1 (rounds f n s) (rounds g n s):=by
  intro n;induction n with
  | zero=>intro s y hy;cases hy
  | succ n ih =>
    intro s y hy;unfold rounds at hy⊢;cases hf:f s with
    | none=>rw[hf] at hy;cases hy
    | some x =>
      rw[h s x hf];rw[hf] at hy;cases x with
      | inl s'=>exact ih s' y hy
      | inr r=>exact hy
 exact fun y hy=>pg (key _ s y hy)
end Go.Ge
namespace Go.Ge
variable [Lp]
abbrev Sig:=Nat×Ty×Ty
end Go.Ge
