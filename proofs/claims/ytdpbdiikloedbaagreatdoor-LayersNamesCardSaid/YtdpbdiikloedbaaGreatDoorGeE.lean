/- A ghost interpreter of the model's code, and that it tells the truth: part 5. It says of a function of plain data what a call of it comes to. -/
import Derived.Test.YtdpbdiikloedbaaGreatDoorGeD
import Derived.Laws.Build
set_option linter.unusedVariables false
set_option linter.unusedSimpArgs false
set_option linter.unusedSectionVars false
namespace Go.Ge
open RowKit
def wk(P:Program)(G:fo)(inl:Nat→List aO→St→Tree (aO×St)):Prop :=
 ∀(B:qq) (γ:Gh) (σ σ':St) (w:World) (f:Nat) (vals:List aO) (xs:Array Value) (v:aO),B.G=G→bp B γ σ.mem w→kW γ σ.mem w vals xs.toList→(inl f vals σ).run=some (v,σ') →
  (∃fn code,P.funcs[f]?=some fn∧(fn.name == "runtime.NumGoroutine")=false∧fn.body=some code)∧σ'.slots=σ.slots ∧
  Calls P f xs w fun e w'=>∃val γ',e=.returned val∧bp B γ' σ'.mem w'∧Ext B γ σ.mem w γ' σ'.mem w'∧b6 γ' σ'.mem w' v .val [val]
section
variable {P:Program} {B:qq} {N:Nat} {γ:Gh} {σ σ':St} {a:Act} {w w':World} {d:Option Nat} {cx:Ctx} {nb:Nat} {bf:List Nat} {inl:Nat→List aO→St→Tree (aO×St)}
def Fb(B:qq)(N:Nat)(γ:Gh)(σ:St)(a:Act)(w:World)(d:Option Nat)(σ':St)(K:Act→World→Prop):Prop :=
 ∀γ' v w',cF B N γ' σ' (a.put d v) w'→Ext B γ σ.mem w γ' σ'.mem w'→K (a.put d v) w'
theorem P0{f:Nat}{fn:Func}{code:Code}(h1:P.funcs[f]?=some fn)(h2:(fn.name == "runtime.NumGoroutine")=false)(h3:fn.body=some code)(args:Array Value)(w:World) :
  (callFunc f args).run P w=.ok (.enter f args) w:=by
 have h2':¬fn.name = "runtime.NumGoroutine":=by simpa using h2
 simp[callFunc,h1,h2',h3]
theorem bK{o:Oper}{s:Sem Value}{K:Act→World→Prop}{Q:Exit→Act→World→Prop}(hs:execOp a.eval o=(do pure (.value (←s))))(h:mV P B N γ σ a w o.dst s σ')(hK:Fb B N γ σ a w o.dst σ' K):o.wp P a w K Q:=by
 obtain⟨v,w',γ',h1,h2,h3⟩:=h;unfold Oper.wp;rw[hs];simp only[Sem.run_bind,h1,Result.andThen_ok,Sem.run_pure];exact hK γ' _ w' h2 h3
theorem O5{ops:List Operand}(h:cF B N γ σ a w):kW γ σ.mem w (ops.map (cc σ)) (ops.map a.eval):=by
 refine⟨by simp,fun i v x h1 h2=>?_⟩;rw[RI] at h1 h2;cases ho:ops[i]? with
 | none=>rw[ho] at h1;cases h1
 | some o =>
   rw[ho] at h1 h2;obtain rfl:=aG h1;obtain rfl:=aG h2;exact h.cc o
theorem kW.append{mem:Nat→Option bE}{vs us:List aO}{xs ys:List Value}(h:kW γ mem w vs xs)(k:kW γ mem w us ys):kW γ mem w (vs++us) (xs++ys):=by
 refine⟨by simp[h.1,k.1],fun i v x h1 h2=>?_⟩;rw[RH] at h1 h2;rw[h.1] at h2;split at h1
 ·rename_i hi;rw[bG hi] at h2;exact h.2 i v x h1 h2
 ·rename_i hi;rw[bH hi] at h2;exact k.2 _ v x h1 h2
theorem bp.drop{mem:Nat→Option bE}{w':World}(h:bp B γ mem w){b:Nat}{cQ bx:bE}(hb:mem b=some cQ)(bh:cQ.aA<bx.aA)(hw:va B w w')
  (hold:∀k,k<w.heap.size→(∀c,γ.loc b≠some (k,c))→w'.heap[k]?=w.heap[k]?) (hcell:∀k o,k<w.heap.size→w'.cell? ⟨k,o,none⟩=w.cell? ⟨k,o,none⟩)
  (ig:cr (bB γ b none) (cl mem b bx) w' b bx):bp B (bB γ b none) (cl mem b bx) w'∧Ext B γ mem w (bB γ b none) (cl mem b bx) w':=by
 have hx:Ext B γ mem w (bB γ b none) (cl mem b bx) w' :=
  { below:=hw
    I:=fun _ _ x=>x
    pE:=fun _ _ x=>.inl x
    cells:=fun blk o x=>hcell blk o (h.tN blk o x)
    boxes:=fun c cx hc=>by
     by_cases e:c=b
     ·subst e;obtain rfl:cQ=cx:=aG (hb.symm.trans hc);exact⟨bx,bq _ _,Zq bh,fun e=>absurd e (by omega)⟩
     ·exact⟨cx,by rw[aM _ e];exact hc,mq _,fun _=>⟨by simp[bB,e],rfl,rfl⟩⟩ }
 refine⟨?_,hx⟩;exact
  { aH:=h.EX hx
    base:=jl h.base hw.size
    boxes:=fun c cx hc=>by
     by_cases e:c=b
     ·subst e;rw[bq] at hc;obtain rfl:=aG hc;exact ig
     ·rw[aM _ e] at hc;refine(h.boxes c cx hc).keep hx (by simp[bB,e]) fun blk k hl=>hold blk (h.fresh c blk k (by rw[hc];simp) hl).2 fun k' hl'=>e ?_;exact h.inj c b blk k k' (by rw[hc];simp) (by rw[hb];simp) hl hl'
    inj:=fun c d blk k k' hc hd h1 h2=>by
     by_cases e:c=b
     ·simp only[bB,bG e] at h1;cases h1
     ·by_cases e2:d=b
      ·simp only[bB,bG e2] at h2;cases h2
      ·simp only[bB,bH e] at h1;simp only[bB,bH e2] at h2;rw[aM _ e] at hc;rw[aM _ e2] at hd;exact h.inj c d blk k k' hc hd h1 h2
    fresh:=fun c blk k hc h1=>by
     by_cases e:c=b
     ·simp only[bB,bG e] at h1;cases h1
     ·simp only[bB,bH e] at h1;rw[aM _ e] at hc;have:=h.fresh c blk k hc h1;exact⟨this.1,DX this.2 hw.size⟩
    tN:=fun blk off hi=>DX (h.tN blk off hi) hw.size
    sep:=fun c cx blk k off hc h1 hi=>by
     by_cases e:c=b
     ·simp only[bB,bG e] at h1;cases h1
     ·simp only[bB,bH e] at h1;rw[aM _ e] at hc;exact h.sep c cx blk k off hc h1 hi }
theorem Sr{mem:Nat→Option bE}{b:Nat}{bx:bE}(h:mem b=some bx):cl mem b bx=mem:=by
 funext i;by_cases e:i=b
 ·subst e;rw[bq,h]
 ·rw[aM _ e]
theorem NN{f:Nat}{s:Xj}{vals:List aO}{xs:Array Value}(hs:gz P f s)(h:cF B N γ σ a w)(hd:∀k,d=some k→k<N)(hv:kW γ σ.mem w vals xs.toList)
  (hr:(Cl s d vals σ).run=some σ') {K:Act→World→Prop} (hK:Fb B N γ σ a w d σ' K) :
  (∃fn code,P.funcs[f]?=some fn∧(fn.name == "runtime.NumGoroutine")=false∧fn.body=some code)∧Calls P f xs w fun e w'=>∃v,e=.returned v∧K (a.put d v) w':=by
 unfold Cl at hr;split at hr
 ·rename_i T b aA;split at hr
  case h_2=>cases hr
  rename_i bx hb;split at hr
  case h_2=>cases hr
  rename_i b' v' u un hval;obtain⟨hcd,hr2⟩:=aB hr;obtain rfl:=aG hr2;simp only[dW,nj] at hcd;obtain⟨⟨⟨⟨⟨⟨⟨⟨c1,c2⟩,c3⟩,c4⟩,c5⟩,c6⟩,c7⟩,c8⟩,c9⟩:=hcd;have c1:=fu c1;have c5:=fu c5;have c7:=fu c7;have c8:=fu c8;have c6:0<T:=by simpa using c6
  subst c7;subst c8;obtain⟨val,rest,hxs,g1,g2⟩:=hv.cons;have oK:rest=[]:=by have:=g2.1;simpa using this
  subst oK;obtain⟨blk,cap,hl,g3⟩:=aV hb c1 g1.2;have g3:=wZ g3;simp only[ck] at g3;obtain rfl:xs=#[.pointer (some ⟨blk,0,none⟩)]:=by apply Array.toList_inj.1;rw[hxs,g3]
  have ig:=h.ok.boxes b' bx hb;unfold cr at ig;rw[c2] at ig;obtain⟨de,cap',cur,tid,fr,a1,a2,a3,a4,a5⟩:=ig;rw[hl] at a1;obtain⟨rfl,rfl⟩:=ec (aG a1);have gL:tid=T:=by
   rcases a4 with a4|a4
   ·rw[c5] at a4;exact absurd a4 (Zr c6)
   ·rw[a4,c5]
  subst gL;rw[hval] at a5;obtain⟨UA,RA,e1,e2,e3⟩:=a5;obtain⟨cs3,cs4,e4,e5,e6⟩:=e3;obtain⟨⟨p,rfl,hp1⟩,hp2⟩:=e2;obtain⟨q,hq⟩:∃q,cs3=[q]:=by
   cases u<;>first|(cases c9;done)|skip
   obtain⟨⟨q,hq,_⟩,_⟩:=e5;exact⟨q,hq⟩
  subst hq;obtain rfl:cs4=[]:=e6;have JP:cur=#[p,q]:=by apply Array.toList_inj.1;rw[e1,e4];rfl
  subst JP;obtain⟨ajk,cap2,j1,j2⟩:=aV hb c1 hp2;rw[hl] at j1;obtain⟨rfl,rfl⟩:=ec (aG j1);have j2:p=.pointer none∨p=.pointer (some ⟨blk,0,none⟩):=j2.imp wZ wZ;refine⟨hs.1,(hs.2 w blk p q fr a2 (a3 0 (by simp)) j2).mono fun e w' hw=>?_⟩;obtain⟨rfl,hw⟩:=hw;refine⟨_,rfl,?_⟩;have hres:∀{γ':Gh} {mem':Nat→Option bE} {w':World},b6 γ' mem' w' (.D1 .nl) .val [.tuple #[]]:=fun {_ _ _}=>⟨#[],rfl,rfl⟩;rcases hw with rfl|rfl
  ·refine hK γ _ _ (h.ve hd hres) ?_;cases d<;>exact Ext.refl _ _ _ _
  ·have Fc:({ bx with val:=bx.val }:bE)=bx:=by cases bx;rfl
   obtain⟨m1,m2⟩:=h.ok.write hb c4 hl a2 (cur':=#[.pointer (some ⟨blk,0,none⟩),q]) (v:=bx.val) (by simp) (by rw[Fc])
    (fun w' mem' hx hg=>by
     rw[Fc];unfold cr;rw[c2];refine⟨blk,cap,_,tid,fr,hl,hg,fun o ho=>a3 o (by simpa using ho),a4,?_⟩;rw[hval];refine⟨[.pointer (some ⟨blk,0,none⟩)],[q],rfl,?_,[q],[],rfl,e5.ext hx,rfl⟩;have hp3:lJ mem' b' v' fun _=>∃blk cap,γ.loc b'=some (blk,cap):=by
      obtain⟨cQ,k1,k2,k3⟩:=hp2;obtain⟨gy,q1,q2,q3⟩:=hx.boxes b' cQ k1;exact⟨gy,q1,jl k2 q2,fun _=>⟨blk,cap,hl⟩⟩
     obtain⟨gy,q1,q2,q3⟩:=hp3;exact⟨⟨_,rfl,rfl⟩,gy,q1,q2,fun _=>⟨blk,cap,hl,.inr rfl⟩⟩)
   rw[Fc,Sr hb] at m1 m2;refine hK γ _ _ (h.aP m2 m1 hd hres) ?_;cases d<;>exact m2
 ·rename_i T E b aA;split at hr
  case h_2=>cases hr
  rename_i bx hb;split at hr
  case h_2=>cases hr
  rename_i b' v' hh hv' un hval;obtain⟨hcd,hr2⟩:=aB hr;simp only[dW,nj] at hcd;obtain⟨⟨⟨⟨c1,c2⟩,c5⟩,c6⟩,c7⟩:=hcd;have c1:=fu c1;have c5:=fu c5;have c6:0<T:=by simpa using c6
  split at hr2
  case h_2=>cases hr2
  rename_i hx hhx;obtain⟨hcd,iD⟩:=aB hr2;simp only[dW,nj] at hcd;obtain⟨⟨⟨⟨d1,d2⟩,d3⟩,d4⟩,d5⟩:=hcd;have d1:=fu d1;have d4:=fu d4;have d5:0<E:=by simpa using d5
  split at iD
  case h_2=>cases iD
  rename_i l hhv;change List Int at l;obtain rfl:=aG iD;obtain⟨val,rest,hxs,g1,g2⟩:=hv.cons;have oK:rest=[]:=by have:=g2.1;simpa using this
  subst oK;obtain⟨blk,cap,hl,g3⟩:=aV hb c1 g1.2;have g3:=wZ g3;simp only[ck] at g3;obtain rfl:xs=#[.pointer (some ⟨blk,0,none⟩)]:=by apply Array.toList_inj.1;rw[hxs,g3]
  have ig:=h.ok.boxes b bx hb;unfold cr at ig;rw[c2] at ig;obtain⟨de,cap',cur,tid,fr,a1,a2,a3,a4,a5⟩:=ig;rw[hl] at a1;obtain⟨rfl,rfl⟩:=ec (aG a1);have gL:tid=T:=by
   rcases a4 with a4|a4
   ·rw[c5] at a4;exact absurd a4 (Zr c6)
   ·rw[a4,c5]
  subst gL;rw[hval] at a5;obtain⟨UA,RA,e1,e2,e3⟩:=a5;obtain⟨cs3,cs4,e4,e5,e6⟩:=e3;obtain⟨⟨p,rfl,hp1⟩,hp2⟩:=e2;obtain⟨⟨q,rfl,hq1⟩,hq2⟩:=e5;obtain rfl:cs4=[]:=e6;have JP:cur=#[p,q]:=by apply Array.toList_inj.1;rw[e1,e4];rfl
  subst JP;obtain⟨e',n',k1,k2,k3⟩:=aV hhx d1 hq2;rw[bE.dh d2 hhv] at k2;obtain⟨rfl,rfl⟩:=ec (aG k2);have aed:=h.ok.boxes hh hx hhx;unfold cr at aed;rw[d2] at aed;obtain⟨e3,l3,q1,q2,q3⟩:=aed;rw[hhv] at q1;cases q1;have hlen:(aT l).length=l.length:=by simp[aT]
  let hx':bE:={ hx with val:=.data (.slice (.int .u8)) ([]:List Int),aA:=hx.aA+1 }
  have key:∃og:Option Nat,(∀k,og=some k→∃c,γ.loc hh=some (k,c))∧l.length≤maxLen ∧
    ((og=none∧q=.slice none 0 0∧aT l=[])∨∃(g cap:Nat) (cur:Array Value) (fr':Nat×Nat),og=some g∧q=.slice (some ⟨g,0,none⟩) (aT l).length cap∧w.heap[g]?=some (.cells cur E fr')∧(aT l).length≤cap∧cap≤maxLen∧cur.size=cap∧∀(j:Nat) (x:UInt8),(aT l)[j]?=some x→cur[j]?=some (Value.int .u8 x.toNat)):=by
   rcases k3 with ⟨k3,k4⟩|⟨g,aee,k3,k4⟩
   ·rcases q3 with ⟨_,q3⟩|⟨_,_,_,_,_,q3,_⟩
    ·subst q3;exact⟨none,(fun k hk=>by cases hk),w9 _,.inl ⟨rfl,wZ k4,rfl⟩⟩
    ·rw[k3] at q3;cases q3
   ·rcases q3 with ⟨q3,_⟩|⟨g',aix,aef,ahj,frg,q3,q4,q5,q6,q7,q8,q9,q10⟩
    ·rw[k3] at q3;cases q3
    ·rw[k3] at q3;obtain⟨rfl,rfl⟩:=ec (aG q3);have htg:ahj=E:=by
      rcases q6 with q6|q6
      ·rw[d4] at q6;exact absurd q6 (Zr d5)
      ·rw[q6,d4]
     subst htg;have afm:(Ty.int IntKind.u8).size=1:=rfl;have q7':l.length≤aee:=q7;refine⟨some g,fun k hk=>⟨aee,by rw[k3,aG hk]⟩,jl q7' q8,.inr ⟨g,aee,aef,frg,rfl,?_,q4,by omega,q8,by rw[q9,afm,NC],fun j x hj=>?_⟩⟩
     ·rw[hlen];exact wZ k4
     ·simp only[aT,RI,Option.map_eq_some_iff] at hj;obtain⟨y,hy,rfl⟩:=hj;obtain⟨r1,r2,r3⟩:=q10 j y hy;rw[afm,NC] at r1;have hmin:(IntKind.u8).min=0:=by decide
      have hmax:(IntKind.u8).max=255:=by decide
      have r2':0≤y:=by have:=r2;rw[hmin] at this;exact this
      have r3':y≤255:=by have:=r3;rw[hmax] at this;exact this
      have hcell:aef.toList[j]?=some (.int .u8 y):=by
       have:((aef.toList.drop j).take 1)[0]?=some (.int .u8 y):=by rw[r1];rfl
       simpa [uo,ni] using this
      have hy2:((UInt8.ofNat y.toNat).toNat:Int)=y:=by
       rw[UInt8.toNat_ofNat'];have:y.toNat<256:=by omega
       rw[Nat.mod_eq_of_lt (by simpa using this)];omega
      rw[hy2];simpa using hcell
  obtain⟨og,hog,Xw,hk⟩:=key;refine⟨hs.1,(hs.2 w blk p q fr (aT l) og a2 hk).mono fun e w' hw=>?_⟩;obtain⟨rfl,hw⟩:=hw;refine⟨_,rfl,?_⟩;have ahk:va B w w':=⟨hw.os,hw.tape,hw.output,hw.size,fun k hk=>by
   rcases yg k w.heap.size with hlt|hge
   ·refine hw.block k hlt fun e=>hk ?_;obtain⟨c,hc⟩:=hog k e;exact(h.ok.fresh hh k c (by rw[hhx];simp) hc).1
   ·exact absurd (.inl (jl h.ok.base hge)) hk⟩
  have ahl:cr (bB γ hh none) (cl σ.mem hh hx') w' hh hx':=by
   unfold cr;rw[show hx'.buf=true from d2];exact⟨.int .u8,[],rfl,q2,.inl ⟨by simp[bB],rfl⟩⟩
  obtain⟨m1,m2⟩:=h.ok.drop (bx:=hx') hhx (Wl _) ahk (fun k hk hn=>hw.block k hk fun e=>by obtain⟨c,hc⟩:=hog k e;exact hn c hc) hw.cell ahl;refine hK (bB γ hh none) _ w' (h.aP m2 m1 hd (v:=.data .str (aT l)) (val:=.string ⟨(aT l).toArray⟩) ?_) ?_
  ·exact⟨[.string ⟨(aT l).toArray⟩],⟨rfl,by rw[hlen];exact Xw⟩,rfl⟩
  ·cases d<;>exact m2
 ·cases hr
theorem P3(dB:oJ P B.G cx)(kX:wk P B.G inl){f:Nat}{vals:List aO}{xs:Array Value}(h:cF B N γ σ a w)(hd:∀k,d=some k→k<N)(hv:kW γ σ.mem w vals xs.toList)
  (hr:(xh cx inl d f vals σ).run=some σ') {K:Act→World→Prop} (hK:Fb B N γ σ a w d σ' K) :
  (∃fn code,P.funcs[f]?=some fn∧(fn.name == "runtime.NumGoroutine")=false∧fn.body=some code)∧Calls P f xs w fun e w'=>∃v,e=.returned v∧K (a.put d v) w':=by
 unfold xh at hr;split at hr
 ·rename_i c hcf;have hh:=dB.bF f c hcf;refine⟨hh.body,?_⟩;split at hr
  ·rename_i afo;split at hr
   ·rename_i x hx;obtain⟨y,hy,hr2⟩:=bS hr;obtain rfl:=aG hr2;have hargs:=NL (I':=fun b o=>b<w.heap.size) h.ok (fun b o hi=>h.ok.tN b o hi) (fun b o _ hb=>hb) hv hx;refine(hh.calls (fun b o=>b<w.heap.size) w xs x y (fun b o hb=>hb) h.ok.PK hargs hy).mono fun e w' hw=>?_;obtain⟨v,I',h1,h2,h3,h4,h5,h6⟩:=hw;refine⟨v,h1,?_⟩;obtain⟨m1,m2⟩:=h.ok.far (I':=γ.I) h2 (fun _ _ hi=>hi) (fun b o hi=>DX (h.ok.tN b o hi) h2.size) (fun b o hi hn=>absurd hi hn);refine hK γ _ w' (h.aP m2 m1 hd (h6.flat afo)) ?_;cases d<;>exact m2
   ·exact absurd hr (by intro k;cases k)
  ·split at hr
   ·rename_i x σ1 hx;obtain⟨y,hy,hr2⟩:=bS hr;obtain rfl:=aG hr2;obtain⟨ij,s1,s2,s3⟩:=rE h hv hx;refine(hh.calls ij.I w xs x y (fun b o hi=>s1.ok.tN b o hi) s1.ok.PK s3 hy).mono fun e w' hw=>?_;obtain⟨v,I',h1,h2,h3,h4,h5,h6⟩:=hw;refine⟨v,h1,?_⟩;obtain⟨m1,m2⟩:=s1.ok.far (I':=I') h2 h3 h4 h5;refine hK ⟨I',ij.loc⟩ _ w' (s1.aP m2 m1 hd (h6.rep (fun _ _ hi=>hi))) ?_;cases d<;>exact s2.trans m2
   ·exact absurd hr (by intro k;cases k)
 ·rename_i hcf;have Fe:((inl f vals σ).bind fun r=>.ret (r.2.aP d r.1):Tree St).run=some σ'→(∃fn code,P.funcs[f]?=some fn∧(fn.name == "runtime.NumGoroutine")=false∧fn.body=some code)∧Calls P f xs w fun e w'=>∃v,e=.returned v∧K (a.put d v) w':=by
   intro hr;obtain⟨r,jC,hr2⟩:=bind_some hr;obtain rfl:=aG hr2;obtain⟨v0,jA⟩:=r;obtain⟨hb,YH,LL⟩:=kX B γ σ jA w f vals xs v0 rfl h.ok hv jC;refine⟨hb,LL.mono fun e w' hw=>?_⟩;obtain⟨v,γ',h1,h2,h3,h4⟩:=hw;refine⟨v,h1,?_⟩;have hs0:jA={ slots:=σ.slots,mem:=jA.mem }:=by cases jA;simp only at YH;subst YH;rfl
   rw[hs0] at hK;refine hK γ' _ w' (h.aP h3 h2 hd h4) ?_;cases d<;>exact h3
  split at hr
  ·rename_i s hcs;exact NN (dB.Rz f s hcs) h hd hv hr hK
  split at hr
  ·rename_i c hcr;split at hr
   ·rename_i x u ns hx;obtain⟨y,hy,hr2⟩:=bS hr;obtain rfl:=aG hr2;have hh:=dB.aJ f c hcr;obtain⟨bs,g1,g2,g3⟩:=NM h.ok hv hx;have hfree:∀blk∈bs,∀o,¬γ.I blk o:=fun blk hb o hi=>by
     obtain⟨b,bx,k,j1,j2,j3,j4⟩:=g2.LK blk hb;have:=(h.ok.sep b bx blk k o j2 j4 hi).1;rw[j3] at this;cases this
    refine⟨hh.body,(hh.calls γ.I w xs bs x u y (fun b o hi=>h.ok.tN b o hi) h.ok.PK (fun b Q g hb=>by
     obtain⟨n,bx,k,j1,j2,j3,j4⟩:=g2.LK b hb;exact(h.ok.aH b Q g).1 (h.ok.fresh n b k (by rw[j2];simp) j4).1) g1 g3 (g2.nodup h.ok) hfree hy).mono fun e w' hw=>?_⟩
    obtain⟨v,I',h1,h2,h3,h4,h5,h6,h7⟩:=hw;refine⟨v,h1,?_⟩;obtain⟨m1,m2⟩:=h.ok.refs g2 h2 h3 h4 h5 h7;have hs:uu c.U y.2 ns σ={ slots:=σ.slots,mem:=(uu c.U y.2 ns σ).mem }:=rfl;refine hK ⟨I',γ.loc⟩ _ w' (by rw[hs];exact h.aP m2 m1 hd (h6.rep (fun _ _ hi=>hi))) ?_;cases d<;>exact m2
   ·exact Fe hr
  ·exact Fe hr
theorem bp.UN{mem:Nat→Option bE}{w':World}(h:bp B γ mem w){b:Nat}{gy:bE}{e:Ty}{l':List e.den}{L:Option (Nat×Nat)}{X:Nat→Prop}{I':Nat→Nat→Prop}{v:Value}
  (hX:∀k,X k→∃cQ c,mem b=some cQ∧cQ.ro=false∧γ.loc b=some (k,c)) (hw:jZ w γ.I X w' I') (hown:wg w' I' e l' L v) (hLX:∀blk c,L=some (blk,c)→X blk∨w.heap.size≤blk)
  (bh:∀cQ,mem b=some cQ→cQ.aA<gy.aA∨(cQ.aA=gy.aA∧L=γ.loc b∧gy.buf=cQ.buf∧gy.row=cQ.row)) (hval:gy.val=.data (.slice e) l') (bu:gy.buf=true) (gL:gy.tid=0) (he:0<e.size) :
  let γ':Gh:=⟨I',fun i=>if i=b then L else γ.loc i⟩
  bp B γ' (cl mem b gy) w'∧Ext B γ mem w γ' (cl mem b gy) w':=by
 intro γ';have hsame:∀k,k<w.heap.size→¬X k→w'.heap[k]?=w.heap[k]?:=fun k hk hb=>hw.below.block k fun q=>by
  rcases q with q|q
  ·have:w.heap.size≤k:=q;omega
  ·exact hb q
 have hfree:∀k,X k→∀o,¬γ.I k o:=fun k hk o hi=>by
  obtain⟨cQ,c,h1,h2,h3⟩:=hX k hk;have:=(h.sep b cQ k c o h1 h3 hi).1;rw[h2] at this;cases this
 have aea:∀k,¬B.has k→k<w.heap.size:=fun k hk=>Wk fun q=>hk (.inl (jl h.base q));have adE:∀k,X k→B.has k∧k<w.heap.size:=fun k hk=>by
  obtain⟨cQ,c,h1,h2,h3⟩:=hX k hk;exact h.fresh b k c (by rw[h1];simp) h3
 have hx:Ext B γ mem w γ' (cl mem b gy) w' :=
  { below:=⟨hw.below.os,hw.below.tape,hw.below.output,hw.below.size,fun k hk=>hsame k (aea k hk) fun hb=>hk (adE k hb).1⟩
    I:=hw.held
    pE:=fun b o x=>by
     by_cases hi:γ.I b o
     ·exact .inl hi
     ·exact .inr (.inl (jl h.base (hw.pE b o x hi)))
    cells:=fun b o hi=>cH (hsame b (h.tN b o hi) fun hb=>hfree b hb o hi)
    boxes:=fun c cx hc=>by
     by_cases e1:c=b
     ·subst e1;refine⟨gy,bq _ _,?_,fun e2=>?_⟩
      ·rcases bh cx hc with q|q
       ·exact Zq q
       ·exact NB q.1
      ·rcases bh cx hc with q|q
       ·omega
       ·exact⟨by simp[γ',q.2.1],q.2.2⟩
     ·exact⟨cx,by rw[aM _ e1];exact hc,mq _,fun _=>⟨by simp[γ',e1],rfl,rfl⟩⟩ }
 have afp:∀blk c,L=some (blk,c)→blk<w'.heap.size∧∀o,¬I' blk o:=fun blk c hl=>by
  rcases hown with ⟨q,_⟩|⟨de,cap,cur,tid,fr,q1,q2,q3,q4,q5,q6,q7,q8,q9⟩
  ·rw[q] at hl;cases hl
  ·rw[q1] at hl;obtain⟨rfl,rfl⟩:=ec (aG hl);exact⟨(Array.getElem?_eq_some_iff.1 q3).1,q8⟩
 have hne:∀{c d:Nat},c≠b→cl mem b gy c≠none→mem c≠none:=fun hc hm=>by rwa [aM _ hc] at hm
 have xk:∀{d blk k c:Nat},d≠b→mem d≠none→L=some (blk,k)→γ.loc d=some (blk,c)→False:=fun {d blk k c} hd hm hl h2=>by
  rcases hLX blk k hl with hx1|hx1
  ·obtain⟨cQ,c0,j1,j2,j3⟩:=hX blk hx1;exact hd (h.inj d b blk c c0 hm (by rw[j1];simp) h2 j3)
  ·have:=(h.fresh d blk c hm h2).2;omega
 refine⟨?_,hx⟩;exact
  { aH:=h.EX hx
    base:=jl h.base hw.below.size
    boxes:=fun c cx hc=>by
     by_cases e1:c=b
     ·subst e1;rw[bq] at hc;obtain rfl:=aG hc;unfold cr;rw[bu];refine⟨e,l',hval,he,?_⟩;rcases hown with ⟨q1,q2,q3⟩|⟨de,cap,cur,tid,fr,q1,q2,q3,q4,q5,q6,q7,q8,q9⟩
      ·exact .inl ⟨by simp[γ',q1],q2⟩
      ·exact .inr ⟨de,cap,cur,tid,fr,by simp[γ',q1],q3,q4,.inl gL,q5,q6,q7,q9⟩
     ·rw[aM _ e1] at hc;refine(h.boxes c cx hc).keep hx (by simp[γ',e1]) fun blk k hl=>hsame blk (h.fresh c blk k (by rw[hc];simp) hl).2 fun hx1=>?_;obtain⟨cQ,c0,j1,j2,j3⟩:=hX blk hx1;exact e1 (h.inj c b blk k c0 (by rw[hc];simp) (by rw[j1];simp) hl j3)
    inj:=fun c d blk k k' hc hd h1 h2=>by
     by_cases e1:c=b
     ·by_cases e2:d=b
      ·rw[e1,e2]
      ·exfalso;simp only[γ',bG e1] at h1;simp only[γ',bH e2] at h2;exact xk e2 (hne (d:=0) e2 hd) h1 h2
     ·by_cases e2:d=b
      ·exfalso;simp only[γ',bH e1] at h1;simp only[γ',bG e2] at h2;exact xk e1 (hne (d:=0) e1 hc) h2 h1
      ·simp only[γ',bH e1] at h1;simp only[γ',bH e2] at h2;exact h.inj c d blk k k' (hne (d:=0) e1 hc) (hne (d:=0) e2 hd) h1 h2
    fresh:=fun c blk k hc h1=>by
     by_cases e1:c=b
     ·simp only[γ',bG e1] at h1;refine⟨?_,(afp blk k h1).1⟩;rcases hLX blk k h1 with q|q
      ·exact(adE blk q).1
      ·exact .inl (jl h.base q)
     ·simp only[γ',bH e1] at h1;have:=h.fresh c blk k (hne (d:=0) e1 hc) h1;exact⟨this.1,DX this.2 hw.below.size⟩
    tN:=hw.tN
    sep:=fun c cx blk k off hc h1 hi=>by
     by_cases e1:c=b
     ·simp only[γ',bG e1] at h1;exact absurd hi ((afp blk k h1).2 off)
     ·simp only[γ',bH e1] at h1;rw[aM _ e1] at hc;by_cases hi0:γ.I blk off
      ·exact h.sep c cx blk k off hc h1 hi0
      ·have h3:=hw.pE blk off hi hi0;have h2:=(h.fresh c blk k (by rw[hc];simp) h1).2;omega }
theorem wg.rep{I:Nat→Nat→Prop}{loc:Nat→Option (Nat×Nat)}{mem:Nat→Option bE}{w:World}{e:Ty}{l:List e.den}{L:Option (Nat×Nat)}{v:Value}{b aA:Nat}{bx:bE}(h:wg w I e l L v)
  (UO:loc b=L) (hb:mem b=some bx) (bh:bx.aA=aA) (bu:bx.buf=true) (hval:bx.val=.data (.slice e) l):b6 ⟨I,loc⟩ mem w (.whole b aA) .val [v]:=by
 rcases h with ⟨q1,q2,q3⟩|⟨de,cap,cur,tid,fr,q1,q2,q3,q4,q5,q6,q7,q8,q9⟩
 ·exact⟨⟨v,rfl,by rw[q3];rfl⟩,gC hb bh ⟨e,l.length,bu,bE.dh bu hval,.inl ⟨by rw[←q1];exact UO,by rw[q3]⟩⟩⟩
 ·exact⟨⟨v,rfl,by rw[q2];rfl⟩,gC hb bh ⟨e,l.length,bu,bE.dh bu hval,.inr ⟨de,cap,by rw[←q1];exact UO,by rw[q2]⟩⟩⟩
theorem ZQ{mem:Nat→Option bE}(h:bp B γ mem w){b aA:Nat}{bx:bE}{e:Ty}{l:List e.den}{v:Value}(hb:mem b=some bx)(bh:bx.aA=aA)(bu:bx.buf=true)(hro:bx.ro=false)(hval:bx.val=.data (.slice e) l)
  (hv:b6 γ mem w (.whole b aA) .val [v]):wg w γ.I e l (γ.loc b) v∧0<e.size:=by
 obtain⟨e',n,k1,k2,k3⟩:=aV hb bh hv.2;rw[bE.dh bu hval] at k2;obtain⟨rfl,rfl⟩:=ec (aG k2);have ig:=h.boxes b bx hb;unfold cr at ig;rw[bu] at ig;obtain⟨e3,l3,q1,q2,q3⟩:=ig;rw[hval] at q1;cases q1;refine⟨?_,q2⟩;rcases q3 with ⟨q3,q4⟩|⟨blk,cap,cur,tid,fr,q3,q4,q5,q6,q7,q8,q9,q10⟩
 ·rcases k3 with ⟨k3,k4⟩|⟨de,cap',k3,k4⟩
  ·exact .inl ⟨k3,q4,wZ k4⟩
  ·rw[q3] at k3;cases k3
 ·rcases k3 with ⟨k3,k4⟩|⟨de,cap',k3,k4⟩
  ·rw[q3] at k3;cases k3
  ·rw[q3] at k3;obtain⟨rfl,rfl⟩:=ec (aG k3);refine .inr ⟨blk,cap,cur,tid,fr,q3,wZ k4,q4,q5,q7,q8,q9,fun o hi=>?_,q10⟩;have:=(h.sep b bx blk cap o hb q3 hi).1;rw[hro] at this;cases this
theorem su{e:Ty}{v:aO}{b aA:Nat}{bx:bE}{l:List e.den}(h:zk e σ v=some (b,aA,bx,l)):σ.mem b=some bx∧bx.aA=aA∧bx.buf=true∧bx.lk=false∧bx.ro=false∧bx.tid=0 ∧
  ∃l0:List e.den,bx.val=.data (.slice e) l0∧((v=.whole b aA∧l=l0)∨∃n,v=.part b aA 0 n∧l=sub l0 0 n):=by
 unfold zk at h;split at h
 ·rename_i b0 acd;split at h
  ·rename_i cQ hb;cases hc:(Nat.beq cQ.aA acd&&cQ.buf&&!cQ.lk&&!cQ.ro&&Nat.beq cQ.tid 0) with
   | false=>rw[hc] at h;cases h
   | true =>
     rw[hc] at h;simp only[dW,nj] at hc;simp only[fy] at h;split at h
     ·rename_i u l0 hval;split at h
      ·rename_i l1 hl;obtain⟨q,hq⟩:=ko hl;subst q;subst hq;cases h;exact⟨hb,fu hc.1.1.1.1,hc.1.1.1.2,hc.1.1.2,hc.1.2,fu hc.2,_,hval,.inl ⟨rfl,rfl⟩⟩
      ·cases h
     ·cases h
  ·cases h
 ·rename_i b0 acd lo n;split at h
  ·rename_i cQ hb;cases hc:(Nat.beq cQ.aA acd&&cQ.buf&&!cQ.lk&&!cQ.ro&&Nat.beq cQ.tid 0&&decide (lo=0)) with
   | false=>rw[hc] at h;cases h
   | true =>
     rw[hc] at h;simp only[dW,nj,zf] at hc;simp only[fy] at h;split at h
     ·rename_i u l0 hval;split at h
      ·rename_i l1 hl;obtain⟨q,hq⟩:=ko hl;subst q;subst hq;cases h;have h0:=hc.2;subst h0;exact⟨hb,fu hc.1.1.1.1.1,hc.1.1.1.1.2,hc.1.1.1.2,hc.1.1.2,fu hc.1.2,_,hval,.inr ⟨n,rfl,rfl⟩⟩
      ·cases h
     ·cases h
  ·cases h
 ·cases h
theorem UP{mem:Nat→Option bE}(h:bp B γ mem w){b aA:Nat}{bx:bE}{e:Ty}{l:List e.den}{n:Int}{v:Value}(hb:mem b=some bx)(bh:bx.aA=aA)(bu:bx.buf=true)(hro:bx.ro=false)(hval:bx.val=.data (.slice e) l)
  (hv:b6 γ mem w (.part b aA 0 n) .val [v]):wg w γ.I e (sub l 0 n) (γ.loc b) v∧0<e.size:=by
 obtain⟨e',k,k2,k3,k4,k5,base,cap',k6,k7,k8,kF,k9⟩:=aV hb bh hv.2;rw[bE.dh bu hval] at k2;obtain⟨rfl,rfl⟩:=ec (aG k2);have ig:=h.boxes b bx hb;unfold cr at ig;rw[bu] at ig;obtain⟨e3,l3,q1,q2,q3⟩:=ig;rw[hval] at q1;cases q1;refine⟨?_,q2⟩;obtain k6:=wZ k6;have hlen:(sub l 0 n).length=n.toNat:=by
  have:n.toNat≤l.length:=by omega
  simp only[sub,o6,w8];omega
 rcases kF.2 rfl bu with ⟨z1,rfl,rfl⟩|⟨blk,z1,rfl⟩
 ·rcases q3 with ⟨q3,q4⟩|⟨blk,cap,cur,tid,fr,q3,_⟩
  ·subst q4;have:n.toNat=0:=by omega
   exact .inl ⟨z1,by simp[sub],by rw[k6,this]⟩
  ·rw[z1] at q3;cases q3
 ·rcases q3 with ⟨q3,q4⟩|⟨de,cap,cur,tid,fr,q3,q4,q5,q6,q7,q8,q9,q10⟩
  ·rw[z1] at q3;cases q3
  ·rw[z1] at q3;obtain⟨rfl,rfl⟩:=ec (aG q3);refine .inr ⟨blk,cap',cur,tid,fr,z1,by rw[hlen];exact k6,q4,q5,by rw[hlen];omega,q8,q9,fun o hi=>?_,fun i x hx=>q10 i x ?_⟩
   ·have:=(h.sep b bx blk cap' o hb z1 hi).1;rw[hro] at this;cases this
   ·have hx':((l.drop (0:Int).toNat).take n.toNat)[i]?=some x:=hx;rw[uo] at hx';split at hx'
    ·simpa using hx'
    ·cases hx'
theorem O6{e:Ty}{v:aO}{b aA:Nat}{bx:bE}{l:List e.den}{val:Value}(hm:bp B γ σ.mem w)(h:zk e σ v=some (b,aA,bx,l))(hv:b6 γ σ.mem w v .val [val]):wg w γ.I e l (γ.loc b) val∧0<e.size:=by
 obtain⟨hb,bh,bu,hlk,hro,gL,l0,hval,ZR⟩:=su h;rcases ZR with ⟨rfl,rfl⟩|⟨n,rfl,rfl⟩
 ·exact ZQ hm hb bh bu hro hval hv
 ·exact UP hm hb bh bu hro hval hv
theorem wm{f:Nat}{s:Xj}(h:xg cx bf d f=some s):find cx.Rz f=some s:=by
 unfold xg at h;split at h
 ·rename_i e he;split at h
  ·obtain rfl:=aG h;exact he
  ·cases h
 ·rename_i he;obtain rfl:=aG h;exact he
 ·cases h
theorem JQ{f:Nat}{e:Ty}{vals:List aO}{xs:Array Value}(hs:gz P f (.clone e))(h:cF B N γ σ a w)(hd:∀k,d=some k→k<N)(hv:kW γ σ.mem w vals xs.toList)
  (hr:(kM nb e d vals σ).run=some σ') {K:Act→World→Prop} (hK:Fb B N γ σ a w d σ' K) :
  (∃fn code,P.funcs[f]?=some fn∧(fn.name == "runtime.NumGoroutine")=false∧fn.body=some code)∧Calls P f xs w fun e w'=>∃v,e=.returned v∧K (a.put d v) w':=by
 unfold kM at hr;split at hr
 case h_2=>cases hr
 rename_i k x;split at hr
 case h_2=>cases hr
 rename_i l σ1 hg;change List e.den at l;obtain⟨he,hr⟩:=aB hr;have he:0<e.size:=by simpa using he
 obtain⟨hfit,hr⟩:=bY hr;obtain⟨aA,bh,hr2⟩:=dI hr;obtain rfl:=aG hr2;obtain⟨val,rest,hxs,g1,g2⟩:=hv.cons;have oK:rest=[]:=by have:=g2.1;simpa using this
 subst oK;obtain⟨ij,s1,s2,cs,c1,c2⟩:=lN h g1 hg;have c2:=wZ c2;refine⟨hs.1,(hs.2 ij.I w xs l (fun b o hi=>s1.ok.tN b o hi) ⟨cs,[],by rw[hxs,c2],c1,rfl⟩ hfit).mono fun q w' hw=>?_⟩;obtain⟨v,I',L,rfl,h1,h2,h3⟩:=hw;refine⟨v,rfl,?_⟩;obtain⟨m1,m2⟩:=s1.ok.UN (b:=nb+k) (gy:={ val:=.data (.slice e) l,tid:=0,buf:=true,ro:=false,lk:=false,aA }) (fun _ hf=>hf.elim) h1 h2 (fun blk c hl=>.inr (h3 blk c hl))
  (fun cQ h0=>.inl (bh cQ h0)) rfl rfl rfl he
 exact hK _ _ w' (s1.step m2 m1 (hd k rfl) (h2.rep (by simp) (bq _ _) rfl rfl rfl)) (s2.trans m2)
theorem NO{f:Nat}{e A:Ty}{res:Bool}{spec:List e.den→A.den→Option (List e.den)}{vals:List aO}{xs:Array Value}(hs:gz P f (.own e A res spec))(h:cF B N γ σ a w)(hd:∀k,d=some k→k<N)(hv:kW γ σ.mem w vals xs.toList)
  (hr:(rA e A res spec d vals σ).run=some σ') {K:Act→World→Prop} (hK:Fb B N γ σ a w d σ' K) :
  (∃fn code,P.funcs[f]?=some fn∧(fn.name == "runtime.NumGoroutine")=false∧fn.body=some code)∧Calls P f xs w fun e w'=>∃v,e=.returned v∧K (a.put d v) w':=by
 unfold rA at hr;split at hr
 case h_2=>cases hr
 rename_i v0 vs;split at hr
 case h_2=>cases hr
 rename_i x σ1 hg;split at hr
 case h_2=>cases hr
 rename_i b aA bx l hor;obtain⟨l',hspec,hr⟩:=bS hr;obtain⟨hb,bh,bu,hlk,hro,gL,l0,hval,ZR⟩:=su hor;obtain⟨val,rest,hxs,g1,g2⟩:=hv.cons;obtain⟨ij,s1,s2,hargs⟩:=rE h g2 hg;obtain⟨hown,he⟩:=O6 s1.ok hor (g1.ext s2);refine⟨hs.1,(hs.2 ij.I w xs val rest l l' (ij.loc b) x (fun b o hi=>s1.ok.tN b o hi) hxs hown hargs hspec).mono fun q w' hw=>?_⟩;obtain⟨I',h1,h2⟩:=hw;have hX:∀k,(∃c,ij.loc b=some (k,c))→∃cQ c,σ1.mem b=some cQ∧cQ.ro=false∧ij.loc b=some (k,c):=fun k ⟨c,hc⟩=>⟨bx,c,hb,hro,hc⟩;cases res with
 | true =>
   cases d with
   | none=>cases hr
   | some k =>
     obtain rfl:=aG hr;obtain⟨v',L',rfl,h3,h4⟩:=h2;refine⟨v',rfl,?_⟩;obtain⟨m1,m2⟩:=s1.ok.UN (b:=b) (gy:={ bx with val:=.data (.slice e) l',aA:=aA+1 }) hX h1 h3 h4 (fun cQ h0=>by
      rw[hb] at h0;obtain rfl:=aG h0;exact .inl (by simp[bh])) rfl bu gL he
     exact hK _ _ w' (s1.step m2 m1 (hd k rfl) (h3.rep (by simp) (bq _ _) rfl bu rfl)) (s2.trans m2)
 | false =>
   have hr':KL v0=true∧σ'=(σ1.bT b { bx with val:=.data (.slice e) l' }).aP d (.D1 .nl):=by
    cases d with
    | none=>obtain⟨q1,q2⟩:=aB hr;exact⟨q1,(aG q2).symm⟩
    | some k=>obtain⟨q1,q2⟩:=aB hr;exact⟨q1,(aG q2).symm⟩
   obtain⟨hwh,rfl⟩:=hr';obtain rfl:l=l0:=by
    rcases ZR with ⟨_,q⟩|⟨n,rfl,_⟩
    ·exact q
    ·cases hwh
   obtain⟨rfl,hlen,h3⟩:=h2;refine⟨_,rfl,?_⟩;obtain⟨m1,m2⟩:=s1.ok.UN (b:=b) (gy:={ bx with val:=.data (.slice e) l' }) hX h1 h3 (fun blk c hl=>.inl ⟨c,hl⟩) (fun cQ h0=>by
    rw[hb] at h0;obtain rfl:=aG h0;exact .inr ⟨rfl,rfl,rfl,by rw[bE.dh bu hval,bE.dh (bx:={ bx with val:=.data (.slice e) l' }) bu rfl,hlen]⟩) rfl bu gL he
   refine hK _ _ w' (s1.aP m2 m1 hd (v:=.D1 .nl) (val:=.tuple #[]) ⟨#[],rfl,rfl⟩) ?_;cases d<;>exact s2.trans m2
theorem NP(dB:oJ P B.G cx)(kX:wk P B.G inl){f:Nat}{vals:List aO}{xs:Array Value}(h:cF B N γ σ a w)(hd:∀k,d=some k→k<N)(hv:kW γ σ.mem w vals xs.toList)
  (hr:(uv cx nb bf inl d f vals σ).run=some σ') {K:Act→World→Prop} (hK:Fb B N γ σ a w d σ' K) :
  (∃fn code,P.funcs[f]?=some fn∧(fn.name == "runtime.NumGoroutine")=false∧fn.body=some code)∧Calls P f xs w fun e w'=>∃v,e=.returned v∧K (a.put d v) w':=by
 unfold uv at hr;split at hr
 ·rename_i e he;exact JQ (dB.Rz f _ (wm he)) h hd hv hr hK
 ·rename_i e A r s he;exact NO (dB.Rz f _ (wm he)) h hd hv hr hK
 ·exact P3 dB kX h hd hv hr hK
theorem LM{o:Oper}{f:Nat}{xs:Array Value}{K:Act→World→Prop}{Q:Exit→Act→World→Prop}(hs:(execOp a.eval o).run P w=(callFunc f xs).run P w)
  (h:(∃fn code,P.funcs[f]?=some fn∧(fn.name == "runtime.NumGoroutine")=false∧fn.body=some code)∧Calls P f xs w fun e w'=>∃v,e=.returned v∧K (a.put o.dst v) w'):o.wp P a w K Q:=by
 obtain⟨⟨fn,code,h1,h2,h3⟩,hc⟩:=h;unfold Oper.wp;rw[hs,P0 h1 h2 h3];refine hc.mono fun e w' hw=>?_;obtain⟨v,rfl,hk⟩:=hw;exact hk
theorem Ss(hc:eW P cx){t ty:TypeId}{v:aO}{x:Value}{n:Int}(hm:bp B γ σ.mem w)(hv:b6 γ σ.mem w v .val [x])(ht:Wr (find cx.T t) v=true)(hl:lenOf σ v=some n) :
  (Builtin.len_ #[t] ty #[x]).run P w=.ok (goInt n) w∧IntKind.i64.min≤n∧n≤IntKind.i64.max:=by
 have hmax:(maxLen:Int)≤IntKind.i64.max:=by decide
 have hmin:IntKind.i64.min≤0:=by decide
 have slv:∀{base:Option Addr} {m c:Nat},(∃e,find cx.T t=some (.slice e))→x=.slice base m c→n=m→m≤maxLen→(Builtin.len_ #[t] ty #[x]).run P w=.ok (goInt n) w∧IntKind.i64.min≤n∧n≤IntKind.i64.max:=by
  intro base m c he hx hn hm;obtain⟨e,he⟩:=he;obtain⟨eT,f1,_⟩:=(hc.T _ _ he).slice;subst hx;subst hn;refine⟨?_,by omega,by omega⟩;simp[Builtin.len_,run_underlying f1]
 have YH:∀{o:Option Ty},(match o with|some (.slice _)=>true|_=>false)=true→∃e,o=some (.slice e):=by
  intro o h;split at h
  ·exact⟨_,rfl⟩
  ·cases h
 cases v with
 | data u y =>
   cases u with
   | str =>
     obtain⟨rfl,h2⟩:=xo hv;obtain rfl:=aG hl;have hT:=(hc.T _ _ (iw ht)).str;have e1:(⟨List.toArray (α:=UInt8) y⟩:ByteArray).size=List.length (α:=UInt8) y:=by
      show(List.toArray (α:=UInt8) y).size=_
      exact JC
     refine⟨?_,?_,?_⟩
     ·simp only[Builtin.len_];simp[run_underlying hT,e1,len]
     ·simp only[len];omega
     ·simp only[len];omega
   | slice e =>
     obtain rfl:=aG hl;obtain⟨cs,h1,h2⟩:=dA.1 hv;rcases h1 with ⟨⟨_,h1⟩,h3⟩|⟨blk,off,cap,h1,h3,h4,_⟩
     ·rw[h1] at h2;exact slv ⟨e,iw ht⟩ (show x=.slice _ 0 0 from h2) (by rw[h3];rfl) (w9 _)
     ·rw[h1] at h2;exact slv ⟨e,iw ht⟩ (show x=.slice _ _ _ from h2) rfl (jl h3 h4)
   | arr m e =>
     obtain⟨eT,f1,_⟩:=(hc.T _ _ (iw ht)).arr;simp only[lenOf] at hl;cases hb:Nat.ble m 4294967296 with
     | false=>rw[hb] at hl;cases hl
     | true =>
       rw[hb] at hl;obtain rfl:=aG hl;have:=JB hb;have h9:(4294967296:Int)≤IntKind.i64.max:=by decide
       refine⟨by simp[Builtin.len_,run_underlying f1],by omega,by omega⟩
   | _=>cases hl
 | nr =>
   obtain rfl:=aG hl;obtain rfl:x=_:=by simpa [b6] using hv
   exact slv (YH ht) rfl rfl (w9 _)
 | whole b aA =>
   simp only[lenOf] at hl;split at hl
   ·rename_i bx hb;cases aci:(Nat.beq bx.aA aA&&bx.buf) with
    | false=>rw[aci] at hl;cases hl
    | true =>
      rw[aci] at hl;simp only[dW] at aci;simp only[fy] at hl;split at hl
      ·rename_i u l mj;obtain rfl:=aG hl;obtain⟨e',k,g1,g2,g3⟩:=aV hb (fu aci.1) hv.2;rw[bE.dh g1 mj] at g2;obtain⟨rfl,rfl⟩:=ec (aG g2);rcases g3 with ⟨g3,g4⟩|⟨blk,cap,g3,g4⟩
       ·have ig:=hm.boxes b bx hb;rw[cr,g1] at ig;obtain⟨e3,l3,q1,q2,q3⟩:=ig;rw[mj] at q1;cases q1;rcases q3 with ⟨_,q3⟩|⟨blk,cap,cur,tid,fr,q3,_⟩
        ·exact slv (YH ht) (wZ g4) (by rw[q3];rfl) (w9 _)
        ·rw[g3] at q3;cases q3
       ·obtain⟨cur,tid,fr,q1,q2,q3,q4,_⟩:=((hm.boxes b bx hb).row g3).1 _ l g1 mj;exact slv (YH ht) (wZ g4) rfl (jl q3 q4)
      ·cases hl
   ·cases hl
 | part b aA lo n' =>
   simp only[lenOf] at hl;cases hlv:live σ b aA with
   | false=>rw[hlv] at hl;cases hl
   | true =>
     rw[hlv] at hl;obtain rfl:=aG hl;obtain⟨bx,hb,bh⟩:=jB hlv;obtain⟨e',k,g2,g3,g4,g5,base,cap,g6,g7,g8,gF,g9⟩:=aV hb bh hv.2;exact slv (YH ht) (wZ g6) (Y7 g4).symm (jl g7 g8)
 | _=>cases hl
theorem eA.take{w:World}{I:Nat→Nat→Prop}{e:Ty}{l:List e.den}{cs:List Value}(h:eA w I e l cs)(k:Nat):eA w I e (l.take k) (cs.take (k*e.size)):=by
 intro i x hx;rw[uo] at hx;split at hx
 ·rename_i hi;have hm:(i+1)*e.size≤k*e.size:=sS _ hi;rw[A3] at hm;rw[Wm,RM,sV (by omega)];exact h i x hx
 ·cases hx
theorem eA.drop{w:World}{I:Nat→Nat→Prop}{e:Ty}{l:List e.den}{cs:List Value}(h:eA w I e l cs)(k:Nat):eA w I e (l.drop k) (cs.drop (k*e.size)):=by
 intro i x hx;rw[ni] at hx;rw[ye,←gi];exact h _ x hx
theorem Bj{α:Type}{l m:List α}{lo:Int}(h0:0≤lo)(h:lo+m.length≤l.length):(over l lo m).length=l.length:=by
 simp only[over,uV,o6,w8];omega
theorem eA.over{w:World}{I:Nat→Nat→Prop}{e:Ty}{l m:List e.den}{cs news:List Value}{lo:Int}(h:eA w I e l cs)(hm:eA w I e m news)(hn:news.length=m.length*e.size)(h0:0≤lo)
  (hl:lo+m.length≤l.length) (hc:l.length*e.size≤cs.length):eA w I e (over l lo m) (splice cs (lo.toNat*e.size) news):=by
 have h1:(lo.toNat+m.length)*e.size≤l.length*e.size:=sS _ (by omega);rw[gi] at h1;have a1:=(h.take lo.toNat).append (rest:=[]) hm (by rw[o6,o6,sV (by omega),sV (by omega)]) hn;rw[G0] at a1;have a2:=a1.append (rest:=[]) (h.drop (lo.toNat+m.length)) (by rw[uV,uV,gi,hn,o6,o6,sV (by omega),sV (by omega)]);have e1:splice cs (lo.toNat*e.size) news=cs.take (lo.toNat*e.size)++news++cs.drop ((lo.toNat+m.length)*e.size):=by
  simp only[splice,hn,gi]
 rw[e1];intro i x hx;have hi:i<l.length:=by have:=(List.getElem?_eq_some_iff.1 hx).1;rw[Bj h0 hl] at this;exact this
 have hm1:(i+1)*e.size≤l.length*e.size:=sS _ hi;by_cases afq:(lo.toNat+m.length)*e.size+(l.length-(lo.toNat+m.length))*e.size=l.length*e.size
 ·have a3:eA w I e (Go.Ge.over l lo m) (cs.take (lo.toNat*e.size)++news++(cs.drop ((lo.toNat+m.length)*e.size))):=by
   intro i x hx;by_cases hil:i<lo.toNat+m.length
   ·have hx':(l.take lo.toNat++m)[i]?=some x:=by
     simp only[Go.Ge.over] at hx;rw[Um (by rw[uV,o6];omega)] at hx;exact hx
    have hm2:(i+1)*e.size≤(lo.toNat+m.length)*e.size:=sS _ hil;rw[mD (by rw[uV,o6,hn,sV (by omega),←gi];exact hm2)];exact a1 i x hx'
   ·have hx':(l.drop (lo.toNat+m.length))[i-(lo.toNat+m.length)]?=some x:=by
     simp only[Go.Ge.over] at hx;rw[Y0 (by rw[uV,o6];omega)] at hx;rw[←hx];congr 1;rw[uV,o6];omega
    have:=h.drop (lo.toNat+m.length) _ x hx';have e2:i*e.size=(cs.take (lo.toNat*e.size)++news).length+(i-(lo.toNat+m.length))*e.size:=by
     rw[uV,o6,hn,sV (by omega),←gi,←gi];congr 1;omega
    rw[e2,←ye,CL];exact this
  exact a3 i x hx
 ·exact absurd (by rw[←gi];congr 1;omega) afq
theorem vh(h:cF B N γ σ a w){e:Ty}{m:List e.den}{b aA:Nat}{q:List D0}{Zt:Nat→Ty→Bool}{lo:Int}{base:Option Addr}{news:List Value}
  (hr:(jz e m b aA q Zt lo σ).run=some σ') (hE:eA w γ.I e m news) (hn:news.length=m.length*e.size) (hone:∀u∈news,u.oneCell'=true) (h0:0≤lo)
  (bu:∀bx (l:List e.den),σ.mem b=some bx→bx.aA=aA→bx.buf=true→bx.val=.data (.slice e) l→q=[]→lo+m.length≤l.length)
  (ahm:∀bx k (l:List e.den),σ.mem b=some bx→bx.aA=aA→bx.buf=false→(Xk q bx.val).run=some (.data (.arr k e) l)→Zt k e=true→lo+m.length≤k)
  (hbase:m=[]∨∃blk c,γ.loc b=some (blk,c)∧base=some ⟨blk,ck q+lo.toNat*e.size,none⟩) :
  ∃w',(match base with|some ad=>storeCells ad news|none=>pure ()).run P w=.ok () w'∧cF B N γ σ' a w'∧Ext B γ σ.mem w γ σ'.mem w':=by
 unfold jz at hr;split at hr
 case h_2=>cases hr
 rename_i bx hb;obtain⟨hcd,hr2⟩:=aB hr;simp only[dW,nj] at hcd;obtain⟨⟨bh,hlk⟩,hro⟩:=hcd;have bh:=fu bh;have ig:=h.ok.boxes b bx hb;have hnil:m=[]→news=[]:=fun hm=>by subst hm;simpa using hn
 have afs:m=[]→(match base with|some ad=>storeCells ad news|none=>pure ()).run P w=.ok () w:=fun hm=>by
  rw[hnil hm];cases base<;>rfl
 have ZS:∀(blk c:Nat) (cur:Array Value) (tid:TypeId) (fr:Nat×Nat),γ.loc b=some (blk,c)→w.heap[blk]?=some (.cells cur tid fr)→kU cur fr→ck q+lo.toNat*e.size+news.length≤cur.size →
   (match base with|some ad=>storeCells ad news|none=>pure ()).run P w=.ok () (w.setRow blk (splice cur.toList (ck q+lo.toNat*e.size) news).toArray):=by
  intro blk c cur tid fr hl hg Ls hle;rcases hbase with hm|⟨de,c',hl',rfl⟩
  ·rw[afs hm,hnil hm];simp only[splice,G0,vS,yf,RG,Array.toArray_toList];rw[setRow_self w blk cur tid fr hg]
  ·rw[hl] at hl';obtain⟨rfl,rfl⟩:=ec (aG hl');have:=cv (P:=P) blk (ck q+lo.toNat*e.size) tid fr news 0 cur w hg Ls (by omega) hone;rw[yf] at this;exact this
 split at hr2
 ·rename_i Ff;split at hr2
  case h_2=>cases hr2
  rename_i u l mj;split at hr2
  case h_2=>cases hr2
  rename_i m' hm';obtain rfl:=aG hr2;obtain⟨hq,hq2⟩:=ko hm';subst hq;obtain rfl:m'=m:=hq2;have hle:=bu bx l hb bh Ff mj rfl;have hlen:=Bj h0 hle;unfold cr at ig;rw[Ff] at ig;obtain⟨e2,l2,j1,j2,j3⟩:=ig;rw[mj] at j1;cases j1;have hrw:({ bx with val:=.data (.slice e) (over l lo m') }:bE).row=bx.row:=by
   rw[bE.dh Ff mj];exact(bE.dh (bx:=⟨.data (.slice e) (over (α:=e.den) l lo m'),bx.tid,bx.buf,bx.ro,bx.lk,bx.aA⟩) (l:=over (α:=e.den) l lo m') Ff rfl).trans (by rw[hlen])
  rcases j3 with ⟨k1,k2⟩|⟨blk,cap,cur,tid,fr,k1,k2,k3,gL,k4,k5,k6,k7⟩
  ·subst k2;have hm0:m'=[]:=by
    cases m' with
    | nil=>rfl
    | cons x r=>simp at hle;omega
   subst hm0;have e1:σ.bT b { bx with val:=.data (.slice e) (over ([]:List e.den) lo []) }=σ:=by
    have:({ bx with val:=.data (.slice e) (over ([]:List e.den) lo []) }:bE)=bx:=by
     cases bx;simp only at mj;subst mj;simp[over]
    rw[this];cases σ;simp only[St.bT]
    congr 1
    funext i;by_cases hi:i=b
    ·subst hi;simp only[RS,fy];exact hb.symm
    ·simp[gK hi]
   rw[e1];exact⟨w,afs rfl,h,Ext.refl _ _ _ _⟩
  ·have hoff:ck ([]:List D0)+lo.toNat*e.size+news.length≤cur.size:=by
    have:(lo.toNat+m'.length)*e.size≤cap*e.size:=sS _ (by omega);rw[gi] at this;simp only[ck];omega
   have hst:=ZS blk cap cur tid fr k1 k2 k3.th hoff;have hle2:lo.toNat*e.size+news.length≤cur.toList.length:=by simp only[ck] at hoff;show _≤cur.size;omega
   have hsz:(splice cur.toList (lo.toNat*e.size) news).toArray.size=cur.size:=by have:=bA hle2;simpa using this
   obtain⟨m1,m2⟩:=h.ok.write hb hro k1 k2 (cur':=(splice cur.toList (lo.toNat*e.size) news).toArray) (v:=.data (.slice e) (over l lo m')) hsz hrw
    (fun w' mem' hx hg=>by
     show cr γ mem' w' b { bx with val:=.data (.slice e) (over l lo m') }
     unfold cr;simp only[Ff];refine⟨e,_,rfl,j2,.inr ⟨blk,cap,_,tid,fr,k1,hg,k3.same hsz,gL,by rw[hlen];exact k4,k5,by rw[hsz];exact k6,?_⟩⟩;intro i x hx';have:=eA.over (l:=l) (cs:=cur.toList) k7 hE hn h0 hle (by show _≤cur.size;rw[k6];exact sS _ k4) i x hx';simpa using bt.mono hx.I hx.cells this)
   simp only[ck,uW] at hst;exact⟨_,hst,h.go m2 m1,m2⟩
 ·rename_i Ff;obtain⟨old,ZT,iD⟩:=bind_some hr2;split at iD
  case h_2=>cases iD
  rename_i k u l;obtain⟨hck,mh⟩:=aB iD;split at mh
  case h_2=>cases mh
  rename_i m' hm';obtain⟨c,hs,ND⟩:=bind_some mh;obtain rfl:=aG ND;obtain⟨hq,hq2⟩:=ko hm';subst hq;obtain rfl:m'=m:=hq2;have hle:=ahm bx k l hb bh Ff ZT hck;unfold cr at ig;rw[Ff] at ig;obtain⟨blk,cap,cur,tid,fr,k1,k2,k3,gL,k4⟩:=ig;obtain⟨p1,p2⟩:=v8 k4 ZT;have hvs:cD (.data (.arr k e) l)=k*e.size:=rfl;rw[hvs] at p1 p2;obtain⟨r1,r2,r3⟩:=p2;have hll:lo+m'.length≤(List.length (α:=e.den) l:Int):=by rw[r1];exact hle
  have hlen:List.length (α:=e.den) (over (α:=e.den) l lo m')=List.length (α:=e.den) l:=Bj (l:=l) h0 hll;have ahn:(lo.toNat+m'.length)*e.size≤k*e.size:=sS _ (by omega);rw[gi] at ahn;have hoff:ck q+lo.toNat*e.size+news.length≤cur.size:=by have p1':ck q+k*e.size≤cur.size:=p1;omega
  have hst:=ZS blk cap cur tid fr k1 k2 k3 hoff;have acj:((cur.toList.drop (ck q)).take (k*e.size)).length=k*e.size:=r2;have adG:lo.toNat*e.size+news.length≤((cur.toList.drop (ck q)).take (k*e.size)).length:=by rw[acj];omega
  have hnew:bt w γ.I (.arr k e) (over l lo m') (splice ((cur.toList.drop (ck q)).take (k*e.size)) (lo.toNat*e.size) news):=by
   refine⟨hlen.trans r1,by rw[bA adG,acj],?_⟩;exact eA.over (l:=l) r3 hE hn h0 hll (by rw[acj];exact NB (by rw[r1]))
  have aho:=rD cur.toList (ck q) (lo.toNat*e.size) (k*e.size) news (by omega) p1;have hrw:({ bx with val:=c }:bE).row=bx.row:=IF (bx:=bx) (p:=q) (v:=.data (.arr k e) (over l lo m')) (by rw[Ff];exact hs) fun hp _=>by
   subst hp;have mj:bx.val=.data (.arr k e) l:=aG ZT;rw[bE.pF Ff mj];exact bE.pF (bx:=⟨_,bx.tid,bx.buf,bx.ro,bx.lk,bx.aA⟩) Ff rfl
  have hle2:ck q+lo.toNat*e.size+news.length≤cur.toList.length:=hoff;have hsz:(splice cur.toList (ck q+lo.toNat*e.size) news).toArray.size=cur.size:=by have:=bA hle2;simpa using this
  obtain⟨m1,m2⟩:=h.ok.write hb hro k1 k2 (cur':=(splice cur.toList (ck q+lo.toNat*e.size) news).toArray) (v:=c) hsz hrw
   (fun w' mem' hx hg=>by
    show cr γ mem' w' b { bx with val:=c }
    unfold cr;simp only[Ff];refine⟨blk,cap,_,tid,fr,k1,hg,k3.same hsz,gL,?_⟩;have:=zo (k4.ext hx) ZT hs (show b6 γ mem' w' (.data (.arr k e) (over l lo m')) .cells _ from bt.mono hx.I hx.cells hnew) (by rw[bA adG,acj];rfl);rw[aho] at this;simpa using this)
  exact⟨_,hst,h.go m2 m1,m2⟩
theorem Fg{e:Ty}{mf:Int→List e.den}{t:aO}{tv:Value}{r:Int×St}(h:cF B N γ σ a w)(hv:b6 γ σ.mem w t .val [tv])(hr:(G4 e mf t σ).run=some r) :
  ∃base cap,tv=.slice base r.1.toNat cap∧0≤r.1∧∀news,eA w γ.I e (mf r.1) news→news.length=(mf r.1).length*e.size→(∀u∈news,u.oneCell'=true)→(mf r.1).length≤r.1.toNat →
   ∃w',(match base with|some ad=>storeCells ad news|none=>pure ()).run P w=.ok () w'∧cF B N γ r.2 a w'∧Ext B γ σ.mem w γ r.2.mem w':=by
 unfold G4 at hr;split at hr
 ·rename_i b aA lo n;obtain⟨σ1,jC,hr2⟩:=bind_some hr;obtain rfl:=aG hr2;have Su:∃bx,σ.mem b=some bx∧bx.aA=aA:=by
   unfold jz at jC;split at jC
   ·rename_i bx hb;obtain⟨hcd,_⟩:=aB jC;simp only[dW] at hcd;exact⟨bx,hb,fu hcd.1.1⟩
   ·cases jC
  obtain⟨bx,hb,bh⟩:=Su;obtain⟨e',k,g2,g3,g4,g5,base,cap,g6,g7,g8,gF,g9⟩:=aV hb bh hv.2;refine⟨base,cap,by simpa using g6,g4,fun news hE hn hone hle=>?_⟩;dsimp only at hE hn hle;refine vh h jC hE hn hone g3 (fun gy l hb' _ Ff mj _=>?_) (fun gy k' l hb' _ Ff ZT _=>?_) ?_
  ·obtain rfl:=aG (hb.symm.trans hb');rw[bE.dh Ff mj] at g2;obtain⟨_,rfl⟩:=ec (aG g2);omega
  ·obtain rfl:=aG (hb.symm.trans hb');have mj:bx.val=.data (.arr k' e) l:=aG ZT;rw[bE.pF Ff mj] at g2;obtain⟨_,rfl⟩:=ec (aG g2);omega
  ·rcases g9 with g9|⟨blk,c,g9,g10⟩
   ·left;exact YQ (by rw[g9,show(0:Int).toNat=0 from rfl] at hle;rw[g9];omega)
   ·by_cases hm:mf n=[]
    ·exact .inl hm
    ·right;have he:e'=e:=by
      unfold jz at jC;rw[hb] at jC;obtain⟨_,iD⟩:=aB jC;split at iD
      ·rename_i Ff;split at iD
       case h_2=>cases iD
       rename_i u l mj;split at iD
       case h_2=>cases iD
       rename_i m' hm';obtain⟨hq,_⟩:=ko hm';rw[bE.dh Ff mj] at g2;obtain⟨rfl,_⟩:=ec (aG g2);exact hq.symm
      ·rename_i Ff;obtain⟨old,ZT,mh⟩:=bind_some iD;split at mh
       case h_2=>cases mh
       rename_i k' u l;obtain⟨_,ND⟩:=aB mh;split at ND
       case h_2=>cases ND
       rename_i m' hm';obtain⟨hq,_⟩:=ko hm';have mj:bx.val=.data (.arr k' u) l:=aG ZT;rw[bE.pF Ff mj] at g2;obtain⟨rfl,_⟩:=ec (aG g2);exact hq.symm
     subst he;exact⟨blk,c,g9,by rw[g10];simp[ck]⟩
 ·rename_i b aA;split at hr
  case h_2=>cases hr
  rename_i n hlen;obtain⟨σ1,jC,hr2⟩:=bind_some hr;obtain rfl:=aG hr2;have Su:∃bx,σ.mem b=some bx∧bx.aA=aA:=by
   unfold jz at jC;split at jC
   ·rename_i bx hb;obtain⟨hcd,_⟩:=aB jC;simp only[dW] at hcd;exact⟨bx,hb,fu hcd.1.1⟩
   ·cases jC
  obtain⟨bx,hb,bh⟩:=Su;obtain⟨e',k,g1,g2,g3⟩:=aV hb bh hv.2;have qs:=h.ok.boxes b bx hb;have hl:∃l:List e.den,bx.val=.data (.slice e) l∧n=l.length:=by
   unfold jz at jC;rw[hb] at jC;obtain⟨_,iD⟩:=aB jC;split at iD
   ·split at iD
    case h_2=>cases iD
    rename_i u l hq0 mj;split at iD
    case h_2=>cases iD
    rename_i m' hm';obtain⟨hq,_⟩:=ko hm';subst hq;refine⟨l,mj,?_⟩;simp only[lenOf,hb,bh,g1,RS,Bool.and_self,fy,mj] at hlen;exact(aG hlen).symm
   ·rename_i Ff;rw[g1] at Ff;cases Ff
  obtain⟨l,mj,rfl⟩:=hl;rw[bE.dh g1 mj] at g2;obtain⟨rfl,rfl⟩:=ec (aG g2);have fin:∀{base:Option Addr} {cap:Nat},tv=.slice base l.length cap→(l.length=0∨∃blk c,γ.loc b=some (blk,c)∧base=some ⟨blk,0,none⟩) →
    ∃base cap,tv=.slice base (l.length:Int).toNat cap∧(0:Int)≤l.length∧∀news,eA w γ.I e (mf l.length) news→news.length=(mf l.length).length*e.size→(∀u∈news,u.oneCell'=true)→(mf l.length).length≤(l.length:Int).toNat →
     ∃w',(match base with|some ad=>storeCells ad news|none=>pure ()).run P w=.ok () w'∧cF B N γ σ1 a w'∧Ext B γ σ.mem w γ σ1.mem w':=by
   intro base cap htv hb0;refine⟨base,cap,by simpa using htv,by omega,fun news hE hn hone hle=>?_⟩;refine vh h jC hE hn hone (by omega) (fun gy l' hb' _ Ff aft _=>?_) (fun gy k' l' hb' _ Ff ZT _=>?_) ?_
   ·obtain rfl:=aG (hb.symm.trans hb');rw[mj] at aft;cases aft;omega
   ·obtain rfl:=aG (hb.symm.trans hb');rw[g1] at Ff;cases Ff
   ·rcases hb0 with hb0|⟨blk,c,q1,q2⟩
    ·left;exact YQ (by omega)
    ·right;exact⟨blk,c,q1,by rw[q2];simp[ck]⟩
  rcases g3 with ⟨g3,g4⟩|⟨blk,cap,g3,g4⟩
  ·obtain g4:tv=_:=by simpa using g4
   rw[cr,g1] at qs;obtain⟨e2,l2,j1,j2,j3⟩:=qs;rw[mj] at j1;cases j1;rcases j3 with ⟨_,j4⟩|⟨_,_,_,_,_,j3,_⟩
   ·exact fin (base:=none) (cap:=0) (by rw[g4,j4];rfl) (.inl (by rw[j4];rfl))
   ·rw[g3] at j3;cases j3
  ·exact fin (wZ g4) (.inr ⟨blk,cap,g3,rfl⟩)
 ·rename_i b aA q u k lo n;obtain⟨σ1,jC,hr2⟩:=bind_some hr;obtain rfl:=aG hr2;have Su:∃bx,σ.mem b=some bx∧bx.aA=aA:=by
   unfold jz at jC;split at jC
   ·rename_i bx hb;obtain⟨hcd,_⟩:=aB jC;simp only[dW] at hcd;exact⟨bx,hb,fu hcd.1.1⟩
   ·cases jC
  obtain⟨bx,hb,bh⟩:=Su;obtain⟨hq,blk,c,g1,g3,g4,g5,base,cap,g6,g7,g9⟩:=aV hb bh hv.2;refine⟨base,cap,by simpa using g6,g4,fun news hE hn hone hle=>?_⟩;dsimp only at hE hn hle;refine vh h jC hE hn hone g3 (fun gy l hb' _ Ff mj hq0=>absurd hq0 hq) (fun gy k' l hb' _ Ff ZT hck=>?_) ?_
  ·simp only[dW] at hck;have:=fu hck.1;omega
  ·rcases g9 with g9|g10
   ·left;exact YQ (by rw[g9,show(0:Int).toNat=0 from rfl] at hle;rw[g9];omega)
   ·by_cases hm:mf n=[]
    ·exact .inl hm
    ·right;have he:u=e:=by
      unfold jz at jC;rw[hb] at jC;obtain⟨_,iD⟩:=aB jC;split at iD
      ·split at iD
       ·exact absurd rfl hq
       ·cases iD
      ·obtain⟨old,ZT,mh⟩:=bind_some iD;split at mh
       case h_2=>cases mh
       obtain⟨hck,ND⟩:=aB mh;split at ND
       case h_2=>cases ND
       rename_i m' hm';obtain⟨hq',_⟩:=ko hm';simp only[dW] at hck;exact(Ty.eq_of_beq hck.2).trans hq'.symm
     subst he;exact⟨blk,c,g1,g10⟩
 ·cases hr
theorem LN{I:Nat→Nat→Prop}{e:Ty}{m:List e.den}{v:Value}(h:Be w I e m v)(n:Nat)(hn:n≤m.length) :
  ∃news,(Builtin.firstCells e.size n v).run P w=.ok news.toArray w∧news.length=n*e.size∧(∀u∈news,u.oneCell'=true)∧eA w I e (m.take n) news∧(Builtin.lenOf v).run P w=.ok m.length w:=by
 rcases h with ⟨rfl,base,cap,r1,r2,r3⟩|⟨blk,off,cap,r1,r2,r3,r4⟩
 ·obtain rfl:n=0:=by simpa using hn
  subst r1;refine⟨[],?_,by simp,fun u hu=>absurd hu (by simp),fun i x hx=>absurd hx (by simp),rfl⟩;cases base with
  | none=>rfl
  | some ad=>exact run_firstCells_some w e.size 0 ad 0 cap [] (by simp) (fun j v hj=>by cases hj)
 ·obtain⟨news,n1,n2,n3,n4⟩:=D6 (w:=w) (l:=m.take n) fun i x hx=>by
   rw[uo] at hx;split at hx
   ·exact r4 i x hx
   ·cases hx
  rw[o6,sV hn] at n1;refine⟨news,?_,n1,n3,n4,by rw[r1];rfl⟩;rw[r1];exact run_firstCells_some w e.size n _ m.length cap news n1 (fun j u hj=>by rw[addr_add];exact n2 j u hj)
theorem LP{I:Nat→Nat→Prop}{s:List UInt8}(n:Nat)(hn:n≤s.length) :
  ∃news,(Builtin.firstCells 1 n (.string ⟨s.toArray⟩)).run P w=.ok news.toArray w∧news.length=n∧(∀u∈news,u.oneCell'=true)∧eA w I (.int .u8) ((az s).take n:List Int) news∧(Builtin.lenOf (.string ⟨s.toArray⟩)).run P w=.ok (az s).length w:=by
 refine⟨(s.take n).map fun b=>Value.int .u8 b.toNat,?_,by simp[hn],fun u hu=>?_,fun i x hx=>?_,?_⟩
 ·simp only[Builtin.firstCells,Sem.run_pure]
  congr 1
  apply RV;have e1:(⟨s.toArray⟩:ByteArray).extract 0 n=⟨(s.take n).toArray⟩:=by
   have:=Sf s (i:=0) (j:=n) (by omega) (by omega);simpa [sub,minus] using this
  rw[e1];simp
 ·obtain⟨_,_,rfl⟩:=List.mem_map.1 hu;rfl
 ·have hx':((az s).take n)[i]?=some x:=hx;rw[uo] at hx';split at hx'
  ·rename_i hi;simp only[az,RI] at hx';cases hb:s[i]? with
   | none=>rw[hb] at hx';cases hx'
   | some b =>
     rw[hb] at hx';obtain rfl:(b.toNat:Int)=x:=aG hx';refine⟨?_,PX b⟩;apply NA;intro j;rw[uo];split
     ·rename_i hj;obtain rfl:j=0:=by simp[Ty.size] at hj;exact hj
      rw[ni];simp[Ty.size,hb,hi]
     ·rename_i hj;obtain⟨k,rfl⟩:∃k,j=k+1:=⟨j-1,by simp[Ty.size] at hj;omega⟩;simp
  ·cases hx'
 ·simp[Builtin.lenOf,az,ByteArray.size]
theorem yA(s:List UInt8):(az s).length=s.length:=La ..
theorem ZU{s:List UInt8}{n:Nat}(h:n≤(az s).length):n≤s.length:=by rw[yA] at h;exact h
theorem UQ(hm:bp B γ σ.mem w){e:Ty}{m:List e.den}{x:aO}{v:Value}(hv:b6 γ σ.mem w x .val [v])(h:uZ e σ x=some m)(n:Nat)(hn:n≤m.length) :
  ∃news,(Builtin.firstCells e.size n v).run P w=.ok news.toArray w∧news.length=n*e.size∧(∀u∈news,u.oneCell'=true)∧eA w γ.I e (m.take n) news∧(Builtin.lenOf v).run P w=.ok m.length w:=by
 unfold uZ at h;split at h
 ·rename_i t;obtain⟨q,hq⟩:=ko h;subst q;subst hq;obtain⟨ev,_⟩:=xo hv;rw[ev];have hn':n≤List.length (α:=UInt8) t:=ZU hn;obtain⟨news,n1,n2,n3,n4,n5⟩:=LP (P:=P) (w:=w) (I:=γ.I) (s:=t) n hn';exact⟨news,n1,by rw[n2];simp[Ty.size],n3,n4,n5⟩
 ·exact LN (qQ hm hv h) n hn
theorem LQ(hc:eW P cx){tt tx ty:TypeId}{t x:Operand}(h:cF B N γ σ a w)(hd:∀k,d=some k→k<N)(hr:(ym cx d tt (cc σ t) (cc σ x) σ).run=some σ') :
  mV P B N γ σ a w d (Builtin.copy_ #[tt,tx] ty #[a.eval t,a.eval x]) σ':=by
 unfold ym at hr;split at hr
 case h_2=>cases hr
 rename_i e hT;split at hr
 case h_1=>cases hr
 rename_i m hm;obtain⟨r,jC,hr2⟩:=bind_some hr;obtain rfl:=aG hr2;obtain⟨eT,k1,k2,k3,k4⟩:=(hc.T _ _ hT).slice;obtain⟨base,cap,c1,c2,c3⟩:=Fg (P:=P) h (h.cc t) jC;have hlen:(iB (α:=e.den) m r.1).length=Nat.min m.length r.1.toNat:=by
  simp only[iB,o6];exact Nat.min_comm _ _
 obtain⟨news,n1,n2,n3,n4,n5⟩:=UQ (P:=P) h.ok (h.cc x) hm (Nat.min m.length r.1.toNat) (Nat.min_le_left _ _);have afu:(m.take (Nat.min m.length r.1.toNat))=iB (α:=e.den) m r.1:=by
  simp only[iB];rcases Nat.le_total m.length r.1.toNat with hle|hle
  ·rw[show Nat.min m.length r.1.toNat=m.length from sV hle,Ny (mq _),Ny hle]
  ·rw[show Nat.min m.length r.1.toNat=r.1.toNat from Zh hle]
 rw[afu] at n4;obtain⟨w',s1,s2,s3⟩:=c3 news n4 (by rw[n2,hlen]) n3 (by rw[hlen];exact Nat.min_le_right _ _);have hmax:(iB (α:=e.den) m r.1).length≤maxLen:=by
  rcases YY (iB (α:=e.den) m r.1).length with h0|h0
  ·omega
  ·rw[hlen];refine jl (Nat.min_le_left _ _) ?_;have hv:=h.cc x;unfold uZ at hm;split at hm
   ·rename_i s hs;obtain⟨q,hq⟩:=ko hm;subst q;subst hq;rw[hs] at hv;obtain⟨_,h2⟩:=xo hv;exact jl (NB (yA s)) h2
   ·rcases qQ h.ok hv hm with ⟨rfl,_⟩|⟨_,_,cap,_,h2,h3,_⟩
    ·exact w9 _
    ·exact jl h2 h3
 refine⟨goInt (iB (α:=e.den) m r.1).length,w',γ,?_,?_,?_⟩
 ·have hsz:=k2.sizeOf w;simp only[Builtin.copy_,c1];simp only[adu,abT,YT,Sem.run_bind,run_underlying k1,Result.andThen_ok,n5,hsz,n1,hlen];cases base with
  | none=>simp only[Sem.run_pure,Result.andThen_ok] at s1⊢;injection s1 with _ s1;subst s1;rfl
  | some ad=>simp only at s1⊢;simp only[Sem.run_bind,s1,Result.andThen_ok,Sem.run_pure]
 ·have h9:(maxLen:Int)≤IntKind.i64.max:=by decide
  have h8:IntKind.i64.min≤0:=by decide
  have:=s2.ve hd (v:=.data (.int .i64) (len (iB (α:=e.den) m r.1))) (val:=goInt (iB (α:=e.den) m r.1).length) (mkInt ⟨by simp only[len];omega,by simp only[len];omega⟩);exact this
 ·cases d<;>exact s3
theorem JR(hc:eW P cx){tt ty:TypeId}{t:Operand}(h:cF B N γ σ a w)(hr:(yo cx tt (cc σ t) σ).run=some σ') :
  mV P B N γ σ a w none (Builtin.clear_ #[tt] ty #[a.eval t]) σ':=by
 unfold yo at hr;split at hr
 case h_2=>cases hr
 rename_i e hT;obtain⟨r,jC,hr2⟩:=bind_some hr;obtain rfl:=aG hr2;obtain⟨eT,k1,k2,k3,k4⟩:=(hc.T _ _ hT).slice;obtain⟨base,cap,c1,c2,c3⟩:=Fg (P:=P) h (h.cc t) jC;have hlen:(jV r.1 e.zero).length=r.1.toNat:=by simp[jV]
 obtain⟨z,z1,z2⟩:=k2.zero w;have hz:=vg z2 k4 r.1.toNat;have hzc:=mB w γ.I (.arr r.1.toNat e);have hcells:(Builtin.zeroCells z.cells r.1.toNat).toList=ew (.arr r.1.toNat e):=by
  have hzl:z.cells.size=e.size:=by rw[←dy e,←z2];simp
  rw[←hz];simp only[Builtin.zeroCells,madeCells,hzl]
 obtain⟨w',s1,s2,s3⟩:=c3 (ew (.arr r.1.toNat e)) (fun i x hx=>hzc.2.2 i x hx) (by rw[dy,hlen];rfl) (fun u hu=>hzc.one u hu) (NB hlen);refine⟨.tuple #[],w',γ,?_,s2,s3⟩;simp only[Builtin.clear_,c1];simp only[adu,abT,Sem.run_bind,run_underlying k1,Result.andThen_ok];cases base with
 | none=>simp only[Sem.run_pure,Result.andThen_ok] at s1⊢;injection s1 with _ s1;subst s1;rfl
 | some ad =>
   simp only at s1;by_cases h0:r.1.toNat=0
   ·have:ew (.arr r.1.toNat e)=[]:=YQ (by rw[dy];simp[Ty.size,h0]);rw[this] at s1;injection s1 with _ s1
    subst s1;rw[h0];simp only[Sem.run_pure,Result.andThen_ok]
   ·obtain⟨k,hk⟩:∃k,r.1.toNat=k+1:=⟨r.1.toNat-1,by omega⟩;rw[hk] at s1 hcells⊢;simp only[Sem.run_bind,z1,Result.andThen_ok,hcells,s1,Sem.run_pure]
theorem Fh{least:Bool}{p q r:aO}{u v:Value}(hu:b6 γ σ.mem w p .val [u])(hv:b6 γ σ.mem w q .val [v])(hr:(PG least p q).run=some r) :
  ∃z,((if least then Builtin.min2 u v else Builtin.max2 u v)).run P w=.ok z w∧b6 γ σ.mem w r .val [z]:=by
 unfold PG at hr;split at hr
 ·rename_i k n k' m;obtain⟨hk,hr2⟩:=aB hr;obtain rfl:=yh hk;obtain rfl:=aG hr2;obtain⟨rfl,h1⟩:=sW hu;obtain⟨rfl,h2⟩:=sW hv;have cmp:∀n m:Int,k.min≤n∧n≤k.max→k.min≤m∧m≤k.max→b6 γ σ.mem w (.data (.int k) (ad1 n m)) .val [.int k (if m<n then m else n)]∧b6 γ σ.mem w (.data (.int k) (imax n m)) .val [.int k (if m > n then m else n)]:=by
   intro n m h1 h2;constructor
   ·unfold ad1;by_cases hlt:m<n
    ·simp only[hlt,RN,fy,nk];exact mkInt h2
    ·simp only[hlt,Wq,iA,G1];exact mkInt h1
   ·unfold imax;by_cases hlt:n<m
    ·simp only[hlt,RN,fy,gt_iff_lt,nk];exact mkInt h2
    ·simp only[hlt,Wq,iA,gt_iff_lt,G1];exact mkInt h1
  cases least with
  | true=>exact⟨_,rfl,(cmp n m h1 h2).1⟩
  | false=>exact⟨_,rfl,(cmp n m h1 h2).2⟩
 ·cases hr
end
end Go.Ge
namespace Go.Ge
open RowKit
section
variable {P:Program} {B:qq} {N:Nat} {γ:Gh} {σ σ':St} {a:Act} {w w':World} {d:Option Nat} {cx:Ctx} {nb:Nat} {bf:List Nat} {inl:Nat→List aO→St→Tree (aO×St)}
theorem P4{f:Operand→aO}{l:List Operand}{x:aO}(h:l.map f=[x]):∃o,l=[o]∧f o=x:=by
 cases l with
 | nil=>cases h
 | cons o r=>cases r with
   | nil=>exact⟨o,rfl,by simpa using h⟩
   | cons p r=>simp at h
theorem KW{f:Operand→aO}{l:List Operand}{x y:aO}(h:l.map f=[x,y]):∃o p,l=[o,p]∧f o=x∧f p=y:=by
 cases l with
 | nil=>cases h
 | cons o r =>
   obtain⟨p,hp,hq⟩:=P4 (l:=r) (f:=f) (x:=y) (by simp at h⊢;exact h.2);subst hp;exact⟨o,p,rfl,by simp at h;exact h.1,hq⟩
theorem eS{α:Type}{a:Array α}{l:List α}(h:a.toList=l):a=l.toArray:=by rw[←h]
theorem XD{α:Type}(k:Value→Array Value→Sem α)(x:Value)(xs:Array Value):(match(#[x]++xs)[0]? with|some recv=>k recv ((#[x]++xs).extract 1 (#[x]++xs).size)|x=>stuck "call: a method without a receiver")=k x xs.toList.toArray:=by
 have h0:(#[x]++xs)[0]?=some x:=by rw[←Array.getElem?_toList,YW];rfl
 have h1:(#[x]++xs).extract 1 (#[x]++xs).size=xs.toList.toArray:=by
  apply RV;rw[Array.toList_extract,YW,Zd];simp[List.extract];rw[←Un,RJ]
 rw[h0,h1]
theorem UR(hc:eW P cx)(dB:oJ P B.G cx)(kX:wk P B.G inl){o:Oper}{c:Call}(ho:o.op=.call c)(h:cF B N γ σ a w)(hd:∀k,o.dst=some k→k<N)
  (hr:(u5 cx nb bf inl o.dst o.type c σ).run=some σ') {K:Act→World→Prop} {Q:Exit→Act→World→Prop} (hK:Fb B N γ σ a w o.dst σ' K):o.wp P a w K Q:=by
 unfold u5 at hr;split at hr
 ·rename_i b LR;split at hr
  ·
   rename_i x t hx ht;obtain⟨ox,YM,rfl⟩:=P4 hx;cases hlt:Wr (find cx.T t) (cc σ ox) with
   | false =>
     rw[hlt] at hr;simp only[iA] at hr;split at hr
     ·rename_i e b aA q u k lo n he hx;obtain⟨hl,hr2⟩:=aB hr;simp only[dW,zf] at hl;obtain rfl:=aG hr2;obtain⟨bx,qs,bh⟩:=jB hl.1;have hv:=h.cc ox;rw[hx] at hv;obtain⟨_,blk,c',g1,g2,g3,g4,base,cap,g5,g6,g7⟩:=aV qs bh hv.2;obtain g5:a.eval ox=_:=by simpa using g5
      refine bK (s:=Builtin.len_ c.argTypes o.type (c.args.map a.eval)) ?_ (bC h hd (x:=.int .i64 n) ?_ (mkInt ?_)) hK
      ·unfold execOp;simp only[ho,resolve,LR,invoke,builtin];rfl
      ·rw[eS YM,eS ht,show Array.map a.eval [ox].toArray=#[a.eval ox] from by simp,g5];simp[Builtin.len_,run_underlying (zq hc he).1,Y7 g3];rfl
      ·exact⟨Int.le_trans (by decide) g3,Int.le_trans hl.2 (by decide)⟩
     ·exact absurd hr (by intro k;cases k)
   | true =>
   have hr2:(match lenOf σ (cc σ ox) with|some n=>Tree.ret (σ.aP o.dst (.data (.int .i64) n))|none=>.fail).run=some σ':=by rw[hlt] at hr;exact hr
   split at hr2
   ·rename_i n hn;obtain rfl:=aG hr2;obtain⟨l1,l2⟩:=Ss (ty:=o.type) hc h.ok (h.cc ox) hlt hn;refine bK (s:=Builtin.len_ c.argTypes o.type (c.args.map a.eval)) ?_ (bC h hd (x:=.int .i64 n) ?_ (mkInt l2)) hK
    ·unfold execOp;simp only[ho,resolve,LR,invoke,builtin];rfl
    ·rw[eS YM,eS ht,show Array.map a.eval [ox].toArray=#[a.eval ox] from by simp];exact l1
   ·exact absurd hr2 (by intro k;cases k)
  ·rename_i s x t u hx ht;obtain⟨os,ox,YM,rfl,rfl⟩:=KW hx;have key:(∃e,P.underlying u=some (.slice e))∨P.underlying u=some .string→(gJ cx nb o.dst t (cc σ os) (cc σ ox) σ).run=some σ'→o.wp P a w K Q:=by
    intro hk hr2;refine bK (s:=Builtin.append_ c.argTypes o.type (c.args.map a.eval)) ?_ ?_ hK
    ·unfold execOp;simp only[ho,resolve,LR,invoke,builtin];rfl
    ·rw[eS YM,eS ht,show Array.map a.eval [os,ox].toArray=#[a.eval os,a.eval ox] from by simp];exact Hr hc h hd hk hr2
   split at hr
   ·rename_i hu;exact key (.inr (hc.T _ _ hu).str) hr
   ·rename_i e hu;obtain⟨eT,f1,_⟩:=(hc.T _ _ hu).slice;exact key (.inl ⟨eT,f1⟩) hr
   ·exact absurd hr (by intro k;cases k)
  ·rename_i t x tt tx hx ht;obtain⟨ot,ox,YM,rfl,rfl⟩:=KW hx;have key:(ym cx o.dst tt (cc σ ot) (cc σ ox) σ).run=some σ'→o.wp P a w K Q:=by
    intro hr2;refine bK (s:=Builtin.copy_ c.argTypes o.type (c.args.map a.eval)) ?_ ?_ hK
    ·unfold execOp;simp only[ho,resolve,LR,invoke,builtin];rfl
    ·rw[eS YM,eS ht,show Array.map a.eval [ot,ox].toArray=#[a.eval ot,a.eval ox] from by simp];exact LQ hc h hd hr2
   split at hr
   ·exact key hr
   ·exact key hr
   ·exact absurd hr (by intro k;cases k)
  ·rename_i t tt hx ht;obtain⟨ot,YM,rfl⟩:=P4 hx;split at hr
   ·rename_i US;refine bK (s:=Builtin.clear_ c.argTypes o.type (c.args.map a.eval)) ?_ ?_ hK
    ·unfold execOp;simp only[ho,resolve,LR,invoke,builtin];rfl
    ·rw[eS YM,eS ht,show Array.map a.eval [ot].toArray=#[a.eval ot] from by simp,US];exact JR hc h hr
   ·exact absurd hr (by intro k;cases k)
  ·rename_i x y hx;obtain⟨ox,oy,YM,rfl,rfl⟩:=KW hx;obtain⟨v,hb,hr2⟩:=bind_some hr;obtain rfl:=aG hr2;obtain⟨z,z1,z2⟩:=Fh (P:=P) (h.cc ox) (h.cc oy) hb;refine bK (s:=Builtin.min_ c.argTypes o.type (c.args.map a.eval)) ?_ (bC h hd (x:=z) ?_ z2) hK
   ·unfold execOp;simp only[ho,resolve,LR,invoke,builtin];rfl
   ·rw[eS YM,show Array.map a.eval [ox,oy].toArray=#[a.eval ox,a.eval oy] from by simp];simp only[nk] at z1;simp[Builtin.min_,z1]
  ·rename_i x y hx;obtain⟨ox,oy,YM,rfl,rfl⟩:=KW hx;obtain⟨v,hb,hr2⟩:=bind_some hr;obtain rfl:=aG hr2;obtain⟨z,z1,z2⟩:=Fh (P:=P) (h.cc ox) (h.cc oy) hb;refine bK (s:=Builtin.max_ c.argTypes o.type (c.args.map a.eval)) ?_ (bC h hd (x:=z) ?_ z2) hK
   ·unfold execOp;simp only[ho,resolve,LR,invoke,builtin];rfl
   ·rw[eS YM,show Array.map a.eval [ox,oy].toArray=#[a.eval ox,a.eval oy] from by simp];simp only[Uo,G1] at z1;simp[Builtin.max_,z1]
  ·exact absurd hr (by intro k;cases k)
 ·rename_i f LR;split at hr
  ·rename_i fid caps hf;obtain⟨afv,hr2⟩:=aB hr;have hv:=h.cc f;rw[hf] at hv;obtain⟨arr,v1,v2,v3⟩:=hv;obtain v1:=wZ v1;have ZV:kW γ σ.mem w (caps.map fun b=>.ptr b.1 b.2 []) arr.toList:=by
    refine⟨by simpa using v2,fun i v x h1 h2=>?_⟩;rw[RI] at h1;cases hi:caps[i]? with
    | none=>rw[hi] at h1;cases h1
    | some bv =>
      rw[hi] at h1;obtain rfl:=aG h1;have hl:=List.all_eq_true.1 afv bv (yc hi);obtain⟨bx,hb,bh⟩:=jB hl;have hof:=v3 i bv.1 bv.2 (by rw[hi]);obtain⟨blk,cap,g1,g2⟩:=aV hb bh hof;have hx:x=.pointer (some ⟨blk,0,none⟩):=by
       have:arr[i]?=some x:=by simpa using h2
       rw[g2] at this;exact(aG this).symm
      subst hx;exact⟨⟨_,rfl,rfl⟩,bx,hb,NB bh.symm,fun _=>⟨blk,cap,g1,rfl⟩⟩
   have hall:kW γ σ.mem w (c.args.toList.map (cc σ)++caps.map fun b=>.ptr b.1 b.2 []) (c.args.map a.eval++arr).toList:=by
    rw[YW,RO];exact(O5 h).append ZV
   refine LM (f:=fid) (xs:=c.args.map a.eval++arr) ?_ (NP dB kX h hd hall hr2 hK);unfold execOp;simp only[ho,resolve,LR,Deferred.ofValue,v1,Sem.run_bind,Sem.run_pure,Result.andThen_ok,invoke];simp
  ·exact absurd hr (by intro k;cases k)
 ·
  rename_i r name LR;unfold qN at hr;split at hr
  ·rename_i cn hcn;split at hr
   ·rename_i x σ1 hx;obtain⟨y,hy,hr2⟩:=bS hr;obtain rfl:=aG hr2;have hall:kW γ σ.mem w (cc σ r::c.args.toList.map (cc σ)) (a.eval r::(c.args.map a.eval).toList):=by
     rw[RO];exact O5 (ops:=r::c.args.toList) h
    obtain⟨ij,s1,s2,s3⟩:=rE h hall hx;obtain⟨f,u,e1,e2,e3⟩:=dB.inv name cn hcn ij.I w (a.eval r) _ x y (fun b o hi=>s1.ok.tN b o hi) s1.ok.PK s3 hy;refine LM (f:=f) (xs:=(u::(c.args.map a.eval).toList).toArray) ?_ ⟨e2,e3.mono fun e w' hw=>?_⟩
    ·rw[←e1];unfold execOp;simp only[ho,resolve,LR,Sem.run_bind,Sem.run_pure,Result.andThen_ok,invoke];exact congrArg (fun z:Sem Next=>z.run P w) (XD (fun v=>callMethod v name) (a.eval r) (Array.map a.eval c.args))
    ·obtain⟨v,I',h1,h2,h3,h4,h5,h6⟩:=hw;refine⟨v,h1,?_⟩;obtain⟨m1,m2⟩:=s1.ok.far (I':=I') h2 h3 h4 h5;refine hK ⟨I',ij.loc⟩ _ w' (s1.aP m2 m1 hd (h6.rep (fun _ _ hi=>hi))) ?_;cases o.dst<;>exact s2.trans m2
   ·exact absurd hr (by intro k;cases k)
  ·exact absurd hr (by intro k;cases k)
theorem Sv{I:Nat→Nat→Prop}{tid:TypeId}{u:Nat}:∀{t:Ty} {a:Ty} {f:a.den→t.den},Den P t tid→RZ t u=some ⟨a,f⟩ →
  P.concrete u=true∧∀(y:a.den) (cs:List Value),bt w I a y cs→bt w I t (f y) [.iface u (bR a cs)]:=by
 intro t;induction t with
 | alt n a r jm ihr =>
   intro b f hd h;unfold RZ at h;obtain⟨h1,h2⟩:=hd.rest;cases hn:Nat.beq n u with
   | true =>
     rw[hn] at h;obtain rfl:=fu hn;cases h;exact⟨h2,fun y cs hy=>⟨h1.ZC hd,cs,rfl,hy⟩⟩
   | false =>
     rw[hn] at h;simp only[iA] at h;split at h
     ·rename_i b' g hg;cases h;obtain⟨k1,k2⟩:=ihr h1 hg;exact⟨k1,fun y cs hy=>k2 y cs hy⟩
     ·cases h
 | _=>intro b f hd h;cases h
theorem ack{tid:TypeId}{u:Nat}{t:Ty}{a:Ty}{f:a.den→t.den}(hd:Den P t tid)(h:RZ t u=some ⟨a,f⟩):t.isAgg=false:=by
 cases t with
 | alt n b r=>simp only[Den,eF,dW] at hd;exact(Ty.Lo hd.2).2
 | _=>cases h
theorem JS(hc:eW P cx){ty u:TypeId}{x:Operand}(h:cF B N γ σ a w)(hd:∀k,d=some k→k<N)(hr:(qM cx d ty u (cc σ x) σ).run=some σ') :
  mV P B N γ σ a w d (Instr.makeInterface u (a.eval x)) σ':=by
 unfold qM at hr;split at hr
 ·rename_i t ht;have vi:=hc.T _ _ ht;split at hr
  ·rename_i b f hf;split at hr
   ·rename_i y σ1 hg;obtain rfl:=aG hr;obtain⟨ij,s1,s2,cs,s3,s4⟩:=lN h (h.cc x) hg;obtain⟨k1,k2⟩:=Sv (w:=w) (I:=ij.I) vi hf;have s4':a.eval x=bR b cs:=by simpa using s4
    have hag:=ack vi hf;refine⟨.iface u (a.eval x),w,ij,run_makeInterface w u _ k1,s1.ve hd ⟨_,k2 y cs s3,?_⟩,?_⟩
    ·rw[s4'];unfold bR;rw[hag];rfl
    ·cases d<;>exact s2
   ·exact absurd hr (by intro k;cases k)
  ·exact absurd hr (by intro k;cases k)
 ·exact absurd hr (by intro k;cases k)
theorem Sw{o:Oper}{s:Sem Unit}{K:Act→World→Prop}{Q:Exit→Act→World→Prop}(hs:execOp a.eval o=(do s;pure .skip))(US:o.dst=none)
  (h:∃w' γ',s.run P w=.ok () w'∧cF B N γ' σ' a w'∧Ext B γ σ.mem w γ' σ'.mem w') (hK:Fb B N γ σ a w o.dst σ' K):o.wp P a w K Q:=by
 obtain⟨w',γ',h1,h2,h3⟩:=h;unfold Oper.wp;rw[hs];simp only[Sem.run_bind,h1,Result.andThen_ok,Sem.run_pure,Oper.upon_skip];exact hK γ' _ w' (by rw[US];exact h2) h3
theorem Eb{d:Option Nat}{k:Nat}(h:RY bf d=some k):d=some k∧cC bf k=true:=by
 unfold RY at h;split at h
 ·rename_i d;cases hb:cC bf d with
  | false=>rw[hb] at h;cases h
  | true=>rw[hb] at h;obtain rfl:=aG h;exact⟨rfl,hb⟩
 ·cases h
theorem LS(hc:eW P cx)(dB:oJ P B.G cx)(kX:wk P B.G inl){o:Oper}(h:cF B N γ σ a w)(hd:∀k,o.dst=some k→k<N)
  (hr:(o9 cx nb bf inl o σ).run=some σ') {K:Act→World→Prop} {Q:Exit→Act→World→Prop} (hK:Fb B N γ σ a w o.dst σ' K):o.wp P a w K Q:=by
 unfold o9 at hr;split at hr
 case h_1 x ho=>exact bK (s:=pure (a.eval x)) (by simp only[execOp,ho];rfl) (yx hc h hd hr) hK
 case h_2 x ho=>exact bK (s:=pure (a.eval x)) (by simp only[execOp,ho];rfl) (yx hc h hd hr) hK
 case h_3 c x y ho=>exact bK (s:=do pure (if ←asBool (a.eval c) then a.eval x else a.eval y)) (by simp only[execOp,ho];simp[bind_assoc]) (Lx h hd hr) hK
 case h_4 elem ho =>
  split at hr
  ·rename_i k t hk hT;rw[hk] at hd;refine bK (s:=Instr.alloc elem true (.tuple #[])) (by simp only[execOp,ho]) ?_ hK;rw[hk];exact JL hc h (hd k rfl) hT hr
  ·rename_i k hk hT;rw[hk] at hd;refine bK (s:=Instr.alloc elem true (.tuple #[])) (by simp only[execOp,ho]) ?_ hK;rw[hk];split at hr
   ·rename_i fs hO;exact JK hc h (hd k rfl) hO hr
   ·obtain⟨h1,hr2⟩:=aB hr;exact JJ hc h (hd k rfl) h1 hr2
  ·exact absurd hr (by intro k;cases k)
 case h_5 elem x ho =>
  unfold EO at hr;split at hr
  ·exact absurd hr (by intro k;cases k)
  ·exact absurd hr (by intro k;cases k)
  ·rename_i k hk h1 h2;rw[hk] at hd;refine bK (s:=Instr.box elem (a.eval x)) (by simp only[execOp,ho]) ?_ hK;rw[hk];split at hr
   ·exact NH h (hd k rfl) h1 h2 hr
   ·exact Xy h (hd k rfl) h1 h2 hr
  ·exact absurd hr (by intro k;cases k)
 case h_6 t parts ho =>
  refine bK (s:=Instr.build t (parts.map fun(i,x)=>(i,a.eval x))) (by simp only[execOp,ho]) ?_ hK;split at hr
  ·rename_i u v hT;split at hr
   ·rename_i x σ1 hb;obtain rfl:=aG hr;exact D7 hc h hd hT hb
   ·exact absurd hr (by intro k;cases k)
  ·rename_i n e hT;split at hr
   ·rename_i l σ1 hb;obtain rfl:=aG hr;exact E7 hc h hd hT hb
   ·exact absurd hr (by intro k;cases k)
  ·split at hr
   ·rename_i fs hO;split at hr
    ·rename_i z0 hz0;split at hr
     ·rename_i p q hb;obtain rfl:=aG hr;exact JN hc h hd hO hz0 hb
     ·rename_i u hb;obtain rfl:=aG hr;exact Hl hc h hd hO hz0 hb
     ·exact absurd hr (by intro k;cases k)
    ·exact absurd hr (by intro k;cases k)
   ·exact absurd hr (by intro k;cases k)
  ·exact absurd hr (by intro k;cases k)
 case h_7 t n parts ho =>
  refine bK (s:=Instr.buildSlice t n (parts.map fun(i,x)=>(i,a.eval x))) (by simp only[execOp,ho]) ?_ hK;split at hr
  ·rename_i e hT;split at hr
   ·rename_i k bu hparts;obtain⟨hk,_⟩:=Eb bu;have hp:parts=#[]:=by simpa using hparts
    rw[hk,hp];rw[hk] at hd;rw[Array.map_empty];exact Hp hc h (hd k rfl) hT hr
   ·obtain⟨hn,hr2⟩:=aB hr;split at hr2
    ·rename_i l σ1 hb;obtain rfl:=aG hr2;exact Ho hc h hd hT hn hb
    ·exact absurd hr2 (by intro k;cases k)
  ·exact NJ hc h hd hr
  ·exact absurd hr (by intro k;cases k)
 case h_8 t x ho=>exact bK (s:=Instr.loadAt t (a.eval x)) (by simp only[execOp,ho]) (LC hc h hd hr) hK
 case h_9 t x y ho =>
  split at hr
  ·rename_i hk;exact Sw (s:=Instr.storeAt t (a.eval x) (a.eval y)) (by simp only[execOp,ho]) hk (JI hc h hr) hK
  ·exact absurd hr (by intro k;cases k)
 case h_10 x ho =>
  have hv:=h.cc x;have fin:∀{v:aO} {y:Value},a.eval x=y→execOp a.eval o=(do pure (.value (←(pure y:Sem Value))))→b6 γ σ.mem w v .val [y]→σ'=σ.aP o.dst v→o.wp P a w K Q:=by
   intro v y he hs hr0 hσ;subst hσ;exact bK (s:=pure y) hs (bC h hd rfl hr0) hK
  split at hr
  ·rename_i b aA p hx;rw[hx] at hv;obtain⟨hl,hr2⟩:=aB hr;obtain⟨bx,hb,bh⟩:=jB hl;obtain⟨blk,cap,g1,g2⟩:=aV hb bh hv.2;have g2:=wZ g2;rw[g2] at hv;exact fin g2 (by simp only[execOp,ho,g2];rfl) hv (aG hr2).symm
  ·rename_i t y hx;rw[hx] at hv;obtain⟨blk,off,cs,g1,g2,g3⟩:=id hv;have g1:=wZ g1;rw[g1] at hv;exact fin g1 (by simp only[execOp,ho,g1];rfl) hv (aG hr).symm
  ·rename_i f c hx;rw[hx] at hv;obtain⟨arr,g1,g2,g3⟩:=id hv;have g1:=wZ g1;rw[g1] at hv;exact fin g1 (by simp only[execOp,ho,g1];rfl) hv (aG hr).symm
  ·exact absurd hr (by intro k;cases k)
 case h_11 op xt x y pos ho =>
  obtain⟨v,hb,hr2⟩:=bind_some hr;obtain rfl:=aG hr2;obtain⟨z,z1,z2⟩:=UB (P:=P) (x:=x) (y:=y) hc (h.cc x) (h.cc y) hb;refine bK (s:=gp op xt x y (a.eval x) (a.eval y)) (by simp only[execOp,ho,gp]) (bC h hd z1 z2) hK
 case h_12 op ty x ho =>
  obtain⟨v,hb,hr2⟩:=bind_some hr;obtain rfl:=aG hr2;obtain⟨z,z1,z2⟩:=ZG (P:=P) (h.cc x) hb;exact bK (s:=Op.unary op (a.eval x)) (by simp only[execOp,ho]) (bC h hd z1 z2) hK
 case h_13 src dst x ho=>exact bK (s:=convert src dst (a.eval x)) (by simp only[execOp,ho]) (E9 hc h hd hr) hK
 case h_14 f first caps ho =>
  split at hr
  ·rename_i cs aei hcs;obtain rfl:=aG hr;refine bK (s:=Instr.makeFunc (.func f) #[] (caps.map a.eval)) ?_ (LD h hd hcs) hK;have:first=#[]:=by simpa using aei
   simp only[execOp,ho,this,show Array.map a.eval #[]=#[] from by simp]
  ·exact absurd hr (by intro k;cases k)
 case h_15 t x lo hi ho=>exact bK (s:=Instr.sliceAt t (a.eval x) (lo.map a.eval) (hi.map a.eval) none) (by simp only[execOp,ho];rfl) (JH hc h hd hr) hK
 case h_16 s x k ho=>exact bK (s:=Instr.fieldAt s (a.eval x) k) (by simp only[execOp,ho]) (CO hc h hd hr) hK
 case h_17 xt x k ho =>
  have hv:=h.cc x;split at hr
  ·rename_i u y hx;rw[hx] at hv;obtain⟨hT,hr2⟩:=aB hr;split at hr2
   ·rename_i off v hf;obtain rfl:=aG hr2;obtain⟨z,z1,z2⟩:=Se (P:=P) hc (iw hT) hv hf;exact bK (s:=Instr.field xt (a.eval x) k) (by simp only[execOp,ho]) (bC h hd z1 z2) hK
   ·exact absurd hr2 (by intro k;cases k)
  ·exact absurd hr (by intro k;cases k)
 case h_18 t x i ho =>
  split at hr
  ·rename_i ki n hi;have hv:=h.cc i;rw[hi] at hv;obtain⟨ei,_⟩:=sW hv;refine bK (s:=Instr.indexAt t (a.eval x) (a.eval i)) (by simp only[execOp,ho]) ?_ hK;rw[ei];cases hm:cC bf 5000000 with
   | true=>rw[hm] at hr;exact JF hc h hd hr
   | false=>rw[hm] at hr;exact tO hc h hd hr
  ·exact absurd hr (by intro k;cases k)
 case h_19 t x i ho =>
  split at hr
  ·rename_i ki n hi;have hv:=h.cc i;rw[hi] at hv;obtain⟨ei,_⟩:=sW hv;refine bK (s:=Instr.index t (a.eval x) (a.eval i)) (by simp only[execOp,ho]) ?_ hK;rw[ei];exact JG hc h hd hr
  ·exact absurd hr (by intro k;cases k)
 case h_20 t l c ho =>
  split at hr
  ·rename_i k e kl ln kc cn hk hT hl YI;rw[hk] at hd;obtain⟨hin,hr2⟩:=bY hr;obtain⟨hf,iD⟩:=bY hr2;refine bK (s:=Instr.makeSlice t (a.eval l) (a.eval c)) (by simp only[execOp,ho]) ?_ hK;rw[hk];exact JO hc h (hd k rfl) hT hl YI hin hf iD
  ·exact absurd hr (by intro k;cases k)
 case h_21 t k ho =>
  split at hr
  ·rename_i vs hx;split at hr
   ·rename_i v hn;obtain rfl:=aG hr;exact bK (s:=Instr.extract (a.eval t) k) (by simp only[execOp,ho]) (NI h hd hx hn) hK
   ·exact absurd hr (by intro k;cases k)
  ·exact absurd hr (by intro k;cases k)
 case h_22 c ho=>exact UR hc dB kX ho h hd hr hK
 case h_23 u x ho=>exact bK (s:=Instr.makeInterface u (a.eval x)) (by simp only[execOp,ho]) (JS hc h hd hr) hK
 case h_24=>exact absurd hr (by intro k;cases k)
end
end Go.Ge
namespace Go.Ge
open RowKit
def aY(σ σ':St):Prop:=∀b bx,σ.mem b=some bx→bx.lk=true→σ'.mem b=some bx
theorem aY.refl(σ:St):aY σ σ:=fun _ _ h _=>h
theorem aY.trans{σ σ' acm:St}(h:aY σ σ')(k:aY σ' acm):aY σ acm:=fun b bx hb hl=>k b bx (h b bx hb hl) hl
theorem aY.put(σ:St)(d:Nat)(v:aO):aY σ (σ.put d v):=fun _ _ h _=>h
theorem aY.aP(σ:St)(d:Option Nat)(v:aO):aY σ (σ.aP d v):=by cases d<;>exact fun _ _ h _=>h
theorem aY.ZW{σ σ':St}(h:σ'.mem=σ.mem):aY σ σ':=fun b bx hb _=>by rw[h];exact hb
theorem iF{σ:St}{b:Nat}{bx:bE}(h:∀cQ,σ.mem b=some cQ→cQ.lk=false):aY σ (σ.bT b bx):=fun c cx hc hl=>by
 by_cases e:c=b
 ·subst e;rw[h cx hc] at hl;cases hl
 ·rw[vf,aM _ e];exact hc
theorem lQ{β:Type}{σ:St}{b:Nat}{val:aO}{tid:TypeId}{buf:Bool}{k:Nat→St→Tree β}{y:β}(h:(σ.aL b val tid buf k).run=some y) :
  ∃aA,aY σ (σ.bT b { val,tid,buf,ro:=false,lk:=false,aA })∧(k aA (σ.bT b { val,tid,buf,ro:=false,lk:=false,aA })).run=some y:=by
 unfold St.aL at h;split at h
 ·rename_i bx hb;cases hl:bx.lk with
  | true=>rw[hl] at h;cases h
  | false =>
    rw[hl] at h;exact⟨bx.aA+1,iF (fun cQ h0=>by rw[hb] at h0;obtain rfl:=aG h0;exact hl),h⟩
 ·rename_i hb;exact⟨0,iF (fun cQ h0=>by rw[hb] at h0;cases h0),h⟩
theorem IJ{σ σ':St}{b:Nat}(h:freeze σ b=some σ'):aY σ σ':=by
 unfold freeze at h;split at h
 ·rename_i bx hb;cases hro:bx.ro with
  | true=>simp only[hro,fy,uq] at h;rw[←h];exact aY.refl _
  | false =>
    cases hlk:bx.lk with
    | true=>simp[hro,hlk] at h
    | false =>
      simp only[hro,hlk,iA,uq] at h;rw[←h];exact iF fun cQ h0=>by rw[hb] at h0;obtain rfl:=aG h0;exact hlk
 ·cases h
theorem P5:∀{v:aO} {σ σ':St},gj σ v=some σ'→aY σ σ':=by
 intro v;induction v with
 | mix p q UF Si =>
   intro σ σ' h;obtain⟨σ1,h1,h2⟩:=we h;exact(UF h1).trans (Si h2)
 | whole b aA=>intro σ σ' h;exact IJ h
 | part b aA lo n=>intro σ σ' h;exact IJ h
 | _=>intro σ σ' h;obtain rfl:=aG h;exact aY.refl _
theorem oL{t:Ty}{x:t.den}{v:aO}{σ σ':St}(h:yl σ t v=some (x,σ')):aY σ σ':=by
 unfold yl at h;split at h
 ·split at h
  ·obtain⟨_,rfl⟩:=ec (aG h);exact aY.refl _
  ·cases h
 ·split at h
  ·rename_i y σ1 hl hf;obtain⟨_,rfl⟩:=ec (aG h);exact P5 hf
  ·cases h
theorem pH:∀{A:Ty} {x:A.den} {vs:List aO} {σ σ':St},jW σ A vs=some (x,σ')→aY σ σ':=by
 intro A;induction A with
 | pair t r Lf ihr =>
   intro x vs σ σ' hl;cases vs with
   | nil=>cases hl
   | cons v vs =>
     simp only[jW] at hl;split at hl
     ·rename_i p σ1 hp;split at hl
      ·rename_i q σ2 hq;obtain⟨_,rfl⟩:=ec (aG hl);exact(oL hp).trans (ihr hq)
      ·cases hl
     ·cases hl
 | unit =>
   intro x vs σ σ' hl;cases vs with
   | nil=>obtain⟨_,rfl⟩:=ec (aG hl);exact aY.refl _
   | cons v vs=>cases hl
 | _=>intro x vs σ σ' hl;cases vs<;>cases hl
theorem JT{t:Ty}:∀{parts:List (Nat×Operand)} {x x':t.den} {σ σ':St},fT σ t x parts=some (x',σ')→aY σ σ':=by
 intro parts;induction parts with
 | nil=>intro x x' σ σ' h;obtain⟨_,rfl⟩:=ec (aG h);exact aY.refl _
 | cons p r ih =>
   obtain⟨k,o⟩:=p;intro x x' σ σ' h;simp only[fT] at h;split at h
   ·split at h
    ·rename_i hg;split at h
     ·exact(oL hg).trans (ih h)
     ·cases h
    ·cases h
   ·cases h
theorem Bk{e:Ty}:∀{parts:List (Nat×Operand)} {l l':List e.den} {σ σ':St},fK σ e l parts=some (l',σ')→aY σ σ':=by
 intro parts;induction parts with
 | nil=>intro x x' σ σ' h;obtain⟨_,rfl⟩:=ec (aG h);exact aY.refl _
 | cons p r ih =>
   obtain⟨k,o⟩:=p;intro l l' σ σ' h;simp only[fK] at h;split at h
   ·rename_i hg;cases hlt:Nat.blt k l.length with
    | false=>rw[hlt] at h;cases h
    | true=>rw[hlt] at h;exact(oL hg).trans (ih h)
   ·cases h
theorem Fi{b aA:Nat}{p:List D0}{fit:aO→Bool}{u:aO}{σ σ':St}(hr:(storeAt b aA p fit u σ).run=some σ'):aY σ σ':=by
 unfold storeAt at hr;split at hr
 case h_2=>exact absurd hr (by intro k;cases k)
 rename_i bx hb;obtain⟨hc,hr2⟩:=aB hr;simp only[dW,nj] at hc;obtain⟨old,hn,iD⟩:=bind_some hr2;obtain⟨hfit,mh⟩:=aB iD;obtain⟨c,hs,ND⟩:=bind_some mh;obtain rfl:=aG ND;exact iF fun cQ h0=>by rw[hb] at h0;obtain rfl:=aG h0;exact hc.1.2
theorem P6{b aA:Nat}{p:List D0}{n:Nat}{u:aO}{σ σ':St}(hr:(ry b aA p n u σ).run=some σ'):aY σ σ':=by
 unfold ry at hr;split at hr
 case h_2=>exact absurd hr (by intro k;cases k)
 rename_i bx hb;obtain⟨hc,hr2⟩:=aB hr;simp only[dW,nj] at hc;obtain⟨old,hn,iD⟩:=bind_some hr2;obtain⟨hfit,mh⟩:=aB iD;obtain⟨c,hs,ND⟩:=bind_some mh;obtain⟨hpc,hr6⟩:=aB ND;obtain rfl:=aG hr6;exact iF fun cQ h0=>by rw[hb] at h0;obtain rfl:=aG h0;exact hc.1.1.1.2
theorem LU{cx:Ctx}{bf:List Nat}{ty:TypeId}{x y:aO}{σ σ':St}(hr:(kI cx bf ty x y σ).run=some σ'):aY σ σ':=by
 unfold kI at hr;split at hr
 case h_2=>exact absurd hr (by intro k;cases k)
 split at hr
 case h_2=>exact absurd hr (by intro k;cases k)
 obtain⟨bh,hr2⟩:=aB hr;obtain⟨old,hn,iD⟩:=bind_some hr2;split at iD
 ·rename_i u _;obtain⟨hT,mh⟩:=aB iD;cases hq:cC bf 8000000&&Zx u y with
  | true=>rw[hq] at mh;exact P6 mh
  | false =>
  rw[hq] at mh;replace mh:(match yl σ u y with|some (y,σ)=>storeAt _ _ _ (Xn u) (.data u y) σ|none=>.fail).run=some σ':=mh;split at mh
  ·rename_i hg;exact(oL hg).trans (Fi mh)
  ·exact absurd mh (by intro k;cases k)
 ·obtain⟨hT,mh⟩:=aB iD;exact Fi mh
theorem Aq{cx:Ctx}{nb:Nat}{d:Option Nat}{ty:TypeId}{s x:aO}{σ σ':St}(hr:(gJ cx nb d ty s x σ).run=some σ'):aY σ σ':=by
 unfold gJ at hr;split at hr
 case h_2=>exact absurd hr (by intro k;cases k)
 split at hr
 case h_2=>exact absurd hr (by intro k;cases k)
 split at hr
 ·obtain⟨hf,hr2⟩:=bY hr;obtain⟨aA,k1,k2⟩:=lQ hr2;obtain rfl:=aG k2;exact k1.trans (aY.put _ _ _)
 ·split at hr
  case h_2=>exact absurd hr (by intro k;cases k)
  rename_i bx l hb hl;obtain⟨hlk,jC⟩:=zv hr;have hlk:=(Bool.or_eq_false_iff.1 hlk).1;obtain⟨hf,hr2⟩:=bY jC;obtain rfl:=aG hr2;exact(iF fun cQ h0=>by rw[hb] at h0;obtain rfl:=aG h0;exact hlk).trans (aY.put _ _ _)
 ·exact absurd hr (by intro k;cases k)
theorem xw{e:Ty}{m:List e.den}{b aA:Nat}{q:List D0}{Zt:Nat→Ty→Bool}{lo:Int}{σ σ':St}(hr:(jz e m b aA q Zt lo σ).run=some σ'):aY σ σ':=by
 unfold jz at hr;split at hr
 case h_2=>exact absurd hr (by intro k;cases k)
 rename_i bx hb;obtain⟨hc,hr2⟩:=aB hr;simp only[dW,nj] at hc;have fin:∀{gy:bE},aY σ (σ.bT b gy):=fun {gy}=>iF fun cQ h0=>by rw[hb] at h0;obtain rfl:=aG h0;exact hc.1.2
 split at hr2
 ·split at hr2
  ·split at hr2
   ·obtain rfl:=aG hr2;exact fin
   ·exact absurd hr2 (by intro k;cases k)
  ·exact absurd hr2 (by intro k;cases k)
 ·obtain⟨old,_,iD⟩:=bind_some hr2;split at iD
  ·obtain⟨_,mh⟩:=aB iD;split at mh
   ·obtain⟨c,_,ND⟩:=bind_some mh;obtain rfl:=aG ND;exact fin
   ·exact absurd mh (by intro k;cases k)
  ·exact absurd iD (by intro k;cases k)
theorem IK{e:Ty}{mf:Int→List e.den}{t:aO}{σ:St}{r:Int×St}(hr:(G4 e mf t σ).run=some r):aY σ r.2:=by
 unfold G4 at hr;split at hr
 ·obtain⟨σ1,h1,h2⟩:=bind_some hr;obtain rfl:=aG h2;exact xw h1
 ·split at hr
  ·obtain⟨σ1,h1,h2⟩:=bind_some hr;obtain rfl:=aG h2;exact xw h1
  ·exact absurd hr (by intro k;cases k)
 ·obtain⟨σ1,h1,h2⟩:=bind_some hr;obtain rfl:=aG h2;exact xw h1
 ·exact absurd hr (by intro k;cases k)
theorem UT{σ:St}:∀{ps:List Bool} {A U:Ty} {vs:List aO} {x:A.den} {u:U.den} {ns:List Nat},rz σ ps A U vs=some (x,u,ns)→∀b∈ns,∀bx,σ.mem b=some bx→bx.lk=false:=by
 intro ps;induction ps with
 | nil =>
   intro A U vs x u ns h;cases A<;>first|(cases h;done)|skip
   cases U<;>first|(cases h;done)|skip
   cases vs with
   | cons v r=>cases h
   | nil =>
     obtain⟨_,q⟩:=ec (aG h);obtain⟨_,rfl⟩:=ec q;intro b hb;cases hb
 | cons p ps ih =>
   intro A U vs x u ns h;cases p with
   | false =>
     cases A<;>first|(cases h;done)|skip
     cases vs with
     | nil=>cases h
     | cons v r =>
       simp only[rz] at h;split at h
       ·rename_i h2;obtain⟨_,q⟩:=ec (aG h);obtain⟨_,rfl⟩:=ec q;exact ih h2
       ·cases h
   | true =>
     cases U<;>first|(cases h;done)|skip
     cases vs with
     | nil=>cases h
     | cons v0 r =>
     cases v0<;>first|(cases h;done)|skip
     rename_i b aA pth;cases pth with
     | cons _ _=>cases h
     | nil =>
     simp only[rz] at h;split at h
     case h_2=>cases h
     rename_i bx hb;cases hcd:(Nat.beq bx.aA aA&&!bx.buf&&!bx.lk&&!bx.ro&&Nat.beq bx.tid 0) with
     | false=>rw[hcd] at h;cases h
     | true =>
       rw[hcd] at h;simp only[dW,nj] at hcd;simp only[fy] at h;split at h
       case h_2=>cases h
       rename_i x1 y1 u1 ns1 h1 h2;cases hmn:cC ns1 b with
       | true=>rw[hmn] at h;cases h
       | false =>
         rw[hmn] at h;obtain⟨_,q⟩:=ec (aG h);obtain⟨_,rfl⟩:=ec q;intro c hc cx hcx;rcases List.mem_cons.1 hc with rfl|hc
         ·rw[hb] at hcx;obtain rfl:=aG hcx;exact hcd.1.1.2
         ·exact ih h2 c hc cx hcx
theorem UU:∀{U:Ty} {u:U.den} {ns:List Nat} {c:Nat} {v:aO},o8 U u ns c=some v→c∈ns:=by
 intro U;induction U with
 | pair t U Lf UL =>
   intro u ns c v h;cases ns with
   | nil=>cases h
   | cons b r =>
     simp only[o8] at h;cases hb:Nat.beq c b with
     | true=>obtain rfl:=fu hb;exact sU ..
     | false=>rw[hb] at h;exact vR _ (UL h)
 | _=>intro u ns c v h;cases h
theorem P7{ps:List Bool}{A U:Ty}{vs:List aO}{x:A.den}{u y:U.den}{ns:List Nat}{σ:St}(h:rz σ ps A U vs=some (x,u,ns)):aY σ (uu U y ns σ):=fun b bx hb hl=>by
 rw[sr];cases hv:o8 U y ns b with
 | none=>exact hb
 | some v =>
   have:=UT h b (UU hv) bx hb;rw[hl] at this;cases this
theorem P8{s:Xj}{d:Option Nat}{vals:List aO}{σ σ':St}(hr:(Cl s d vals σ).run=some σ'):aY σ σ':=by
 unfold Cl at hr;split at hr
 ·split at hr
  case h_2=>cases hr
  split at hr
  case h_2=>cases hr
  obtain⟨_,hr2⟩:=aB hr;obtain rfl:=aG hr2;exact aY.aP _ _ _
 ·split at hr
  case h_2=>cases hr
  split at hr
  case h_2=>cases hr
  obtain⟨_,hr2⟩:=aB hr;split at hr2
  case h_2=>cases hr2
  rename_i hx hhx;obtain⟨hcd,iD⟩:=aB hr2;simp only[dW,nj] at hcd;split at iD
  case h_2=>cases iD
  obtain rfl:=aG iD;exact(iF fun cQ h0=>by rw[hhx] at h0;obtain rfl:=aG h0;exact hcd.1.1.2).trans (aY.aP _ _ _)
 ·cases hr
theorem UW{b aA:Nat}:∀{fs:List mw} {j:Nat} {σ:St} {r:aO×St},(mkObj b aA fs j σ).run=some r→aY σ r.2:=by
 intro fs;induction fs with
 | nil=>intro j σ r hr;obtain rfl:=aG hr;exact aY.refl _
 | cons f q ih =>
   intro j σ r hr;cases f with
   | buf e eT =>
     obtain⟨_,jC⟩:=aB hr;obtain⟨aA,k1,k2⟩:=lQ jC;obtain⟨y,h1,h2⟩:=bind_some k2;obtain rfl:=aG h2;have:=ih h1;exact k1.trans this
   | _ =>
     obtain⟨y,h1,h2⟩:=bind_some hr;obtain rfl:=aG h2;have:=ih h1;exact this
theorem P9{b:Nat}:∀{fs:List mw} {j:Nat} {v:aO} {σ:St} {r:aO×St},(mz b fs j v σ).run=some r→aY σ r.2:=by
 intro fs;induction fs with
 | nil =>
   intro j v σ r hr;obtain rfl:=IG hr;exact aY.refl _
 | cons f q ih =>
   intro j v σ r hr;rcases E6 hr with ⟨x,u,y,rfl,h1,rfl⟩|⟨e,eT,u,rfl,he,jC⟩
   ·have:=ih h1;exact this
   ·obtain⟨aA,k1,k2⟩:=lQ jC;obtain⟨y,h1,h2⟩:=bind_some k2;obtain rfl:=aG h2;have:=ih h1;exact k1.trans this
theorem Sx{cx:Ctx}{inl:Nat→List aO→St→Tree (aO×St)}(kX:∀f vals σ v σ',(inl f vals σ).run=some (v,σ')→aY σ σ'){d:Option Nat}{f:Nat}{vals:List aO}{σ σ':St}
  (hr:(xh cx inl d f vals σ).run=some σ'):aY σ σ':=by
 unfold xh at hr;split at hr
 ·split at hr
  ·split at hr
   ·obtain⟨y,hy,hr2⟩:=bS hr;obtain rfl:=aG hr2;exact aY.aP _ _ _
   ·exact absurd hr (by intro k;cases k)
  ·split at hr
   ·rename_i hx;obtain⟨y,hy,hr2⟩:=bS hr;obtain rfl:=aG hr2;exact(pH hx).trans (aY.aP _ _ _)
   ·exact absurd hr (by intro k;cases k)
 ·have Fe:((inl f vals σ).bind fun r=>.ret (r.2.aP d r.1):Tree St).run=some σ'→aY σ σ':=by
   intro hr;obtain⟨r,jC,hr2⟩:=bind_some hr;obtain rfl:=aG hr2;exact(kX _ _ _ _ _ jC).trans (aY.aP _ _ _)
  split at hr
  ·exact P8 hr
  split at hr
  ·rename_i c hcr;split at hr
   ·rename_i x u ns hx;obtain⟨y,hy,hr2⟩:=bS hr;obtain rfl:=aG hr2;exact(P7 hx).trans (aY.aP _ _ _)
   ·exact Fe hr
  ·exact Fe hr
theorem LV{nb:Nat}{e:Ty}{d:Option Nat}{vals:List aO}{σ σ':St}(hr:(kM nb e d vals σ).run=some σ'):aY σ σ':=by
 unfold kM at hr;split at hr
 case h_2=>cases hr
 split at hr
 case h_2=>cases hr
 rename_i hg;obtain⟨_,hr⟩:=aB hr;obtain⟨_,hr⟩:=bY hr;obtain⟨aA,k1,k2⟩:=lQ hr;obtain rfl:=aG k2;exact((oL hg).trans k1).trans (aY.aP _ (some _) _)
theorem Qa{e A:Ty}{res:Bool}{spec:List e.den→A.den→Option (List e.den)}{d:Option Nat}{vals:List aO}{σ σ':St}(hr:(rA e A res spec d vals σ).run=some σ'):aY σ σ':=by
 unfold rA at hr;split at hr
 case h_2=>cases hr
 split at hr
 case h_2=>cases hr
 rename_i hg;split at hr
 case h_2=>cases hr
 rename_i b aA bx l hor;obtain⟨l',_,hr⟩:=bS hr;obtain⟨hb,bh,bu,hlk,hro,gL,_⟩:=su hor;have key:∀gy,aY _ (St.bT _ b gy):=fun gy=>iF fun cQ h0=>by rw[hb] at h0;obtain rfl:=aG h0;exact hlk
 cases res with
 | true =>
   cases d with
   | none=>cases hr
   | some k=>obtain rfl:=aG hr;exact((pH hg).trans (key _)).trans (aY.aP _ (some _) _)
 | false =>
   cases d with
   | none=>obtain⟨_,hr⟩:=aB hr;obtain rfl:=aG hr;exact((pH hg).trans (key _)).trans (aY.aP _ none _)
   | some k=>obtain⟨_,hr⟩:=aB hr;obtain rfl:=aG hr;exact((pH hg).trans (key _)).trans (aY.aP _ (some _) _)
theorem Qb{cx:Ctx}{nb:Nat}{bf:List Nat}{inl:Nat→List aO→St→Tree (aO×St)}(kX:∀f vals σ v σ',(inl f vals σ).run=some (v,σ')→aY σ σ'){d:Option Nat}{f:Nat}{vals:List aO}{σ σ':St}
  (hr:(uv cx nb bf inl d f vals σ).run=some σ'):aY σ σ':=by
 unfold uv at hr;split at hr
 ·exact LV hr
 ·exact Qa hr
 ·exact Sx kX hr
end Go.Ge
