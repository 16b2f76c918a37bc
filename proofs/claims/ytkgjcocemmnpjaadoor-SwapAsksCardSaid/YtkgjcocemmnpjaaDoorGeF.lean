/- A ghost interpreter of the model's code, and that it tells the truth: part 6. It says of a function of plain data what a call of it comes to. -/
import Derived.Test.YtkgjcocemmnpjaaDoorGeE
import Derived.Laws.Build
set_option linter.unusedVariables false
set_option linter.unusedSimpArgs false
set_option linter.unusedSectionVars false
namespace Go.Ge
open RowKit
def jY(P:Program)(G:eM)(inl:Nat→List au→St→Tree (au×St)):Prop :=
 ∀(B:iy) (γ:Gh) (σ σ':St) (w:World) (f:Nat) (vals:List au) (xs:Array Value) (v:au),B.G=G→aN B γ σ.mem w→fO γ σ.mem w vals xs.toList→(inl f vals σ).run=some (v,σ') →
  (∃fn code,P.funcs[f]?=some fn∧(fn.name == "runtime.NumGoroutine")=false∧fn.body=some code)∧σ'.slots=σ.slots ∧
  Calls P f xs w fun e w'=>∃val γ',e=.returned val∧aN B γ' σ'.mem w'∧Ext B γ σ.mem w γ' σ'.mem w'∧br γ' σ'.mem w' v .val [val]
section
variable {P:Program} {B:iy} {N:Nat} {γ:Gh} {σ σ':St} {a:Act} {w w':World} {d:Option Nat} {cx:Ctx} {nb:Nat} {bf:List Nat} {inl:Nat→List au→St→Tree (au×St)}
def pN(B:iy)(N:Nat)(γ:Gh)(σ:St)(a:Act)(w:World)(d:Option Nat)(σ':St)(K:Act→World→Prop):Prop :=
 ∀γ' v w',bP B N γ' σ' (a.put d v) w'→Ext B γ σ.mem w γ' σ'.mem w'→K (a.put d v) w'
theorem w8{f:Nat}{fn:Func}{code:Code}(h1:P.funcs[f]?=some fn)(h2:(fn.name == "runtime.NumGoroutine")=false)(h3:fn.body=some code)(args:Array Value)(w:World) :
  (callFunc f args).run P w=.ok (.enter f args) w:=by
 have Ka:¬fn.name = "runtime.NumGoroutine":=by simpa using h2
 simp[callFunc,h1,Ka,h3]
theorem aZ{o:Oper}{s:Sem Value}{K:Act→World→Prop}{Q:Exit→Act→World→Prop}(hs:execOp a.eval o=(do pure (.value (←s))))(h:gh P B N γ σ a w o.dst s σ')(hK:pN B N γ σ a w o.dst σ' K):o.wp P a w K Q:=by
 obtain⟨v,w',γ',h1,h2,h3⟩:=h;unfold Oper.wp;rw[hs];simp only[Sem.run_bind,h1,Result.andThen_ok,Sem.run_pure];exact hK γ' _ w' h2 h3
theorem vW{ops:List Operand}(h:bP B N γ σ a w):fO γ σ.mem w (ops.map (bz σ)) (ops.map a.eval):=by
 refine⟨by simp,fun i v x h1 h2=>?_⟩;rw[sQ] at h1 h2;cases ho:ops[i]? with
 | none=>rw[ho] at h1;cases h1
 | some o =>
   rw[ho] at h1 h2;obtain rfl:=aq h1;obtain rfl:=aq h2;exact h.bz o
theorem fO.append{mem:Nat→Option aR}{vs us:List au}{xs ys:List Value}(h:fO γ mem w vs xs)(k:fO γ mem w us ys):fO γ mem w (vs++us) (xs++ys):=by
 refine⟨by simp[h.1,k.1],fun i v x h1 h2=>?_⟩;rw[GQ] at h1 h2;rw[h.1] at h2;split at h1
 ·rename_i hi;rw[fF hi] at h2;exact h.2 i v x h1 h2
 ·rename_i hi;rw[dW hi] at h2;exact k.2 _ v x h1 h2
theorem aN.drop{mem:Nat→Option aR}{w':World}(h:aN B γ mem w){b:Nat}{bT bx:aR}(hb:mem b=some bT)(aE:bT.ag<bx.ag)(hw:jI B w w')
  (hold:∀k,k<w.heap.size→(∀c,γ.loc b≠some (k,c))→w'.heap[k]?=w.heap[k]?) (hcell:∀k o,k<w.heap.size→w'.cell? ⟨k,o,none⟩=w.cell? ⟨k,o,none⟩)
  (eH:bB (aT γ b none) (bD mem b bx) w' b bx):aN B (aT γ b none) (bD mem b bx) w'∧Ext B γ mem w (aT γ b none) (bD mem b bx) w':=by
 have hx:Ext B γ mem w (aT γ b none) (bD mem b bx) w' :=
  { below:=hw
    I:=fun _ _ x=>x
    jK:=fun _ _ x=>.inl x
    cells:=fun blk o x=>hcell blk o (h.jJ blk o x)
    boxes:=fun c cx hc=>by
     by_cases e:c=b
     ·subst e;obtain rfl:bT=cx:=aq (hb.symm.trans hc);exact⟨bx,aP _ _,Da aE,fun e=>absurd e (by omega)⟩
     ·exact⟨cx,by rw[az _ e];exact hc,en _,fun _=>⟨by simp[aT,e],rfl,rfl⟩⟩ }
 refine⟨?_,hx⟩;exact
  { b6:=h.pe hx
    base:=gj h.base hw.size
    boxes:=fun c cx hc=>by
     by_cases e:c=b
     ·subst e;rw[aP] at hc;obtain rfl:=aq hc;exact eH
     ·rw[az _ e] at hc;refine(h.boxes c cx hc).keep hx (by simp[aT,e]) fun blk k hl=>hold blk (h.fresh c blk k (by rw[hc];simp) hl).2 fun k' hl'=>e ?_;exact h.inj c b blk k k' (by rw[hc];simp) (by rw[hb];simp) hl hl'
    inj:=fun c d blk k k' hc hd h1 h2=>by
     by_cases e:c=b
     ·simp only[aT,fF e] at h1;cases h1
     ·by_cases e2:d=b
      ·simp only[aT,fF e2] at h2;cases h2
      ·simp only[aT,dW e] at h1;simp only[aT,dW e2] at h2;rw[az _ e] at hc;rw[az _ e2] at hd;exact h.inj c d blk k k' hc hd h1 h2
    fresh:=fun c blk k hc h1=>by
     by_cases e:c=b
     ·simp only[aT,fF e] at h1;cases h1
     ·simp only[aT,dW e] at h1;rw[az _ e] at hc;have:=h.fresh c blk k hc h1;exact⟨this.1,qh this.2 hw.size⟩
    jJ:=fun blk off hi=>qh (h.jJ blk off hi) hw.size
    sep:=fun c cx blk k off hc h1 hi=>by
     by_cases e:c=b
     ·simp only[aT,fF e] at h1;cases h1
     ·simp only[aT,dW e] at h1;rw[az _ e] at hc;exact h.sep c cx blk k off hc h1 hi }
theorem yC{mem:Nat→Option aR}{b:Nat}{bx:aR}(h:mem b=some bx):bD mem b bx=mem:=by
 funext i;by_cases e:i=b
 ·subst e;rw[aP,h]
 ·rw[az _ e]
theorem vk{f:Nat}{s:EE}{vals:List au}{xs:Array Value}(hs:tO P f s)(h:bP B N γ σ a w)(hd:∀k,d=some k→k<N)(hv:fO γ σ.mem w vals xs.toList)
  (hr:(nA s d vals σ).run=some σ') {K:Act→World→Prop} (hK:pN B N γ σ a w d σ' K) :
  (∃fn code,P.funcs[f]?=some fn∧(fn.name == "runtime.NumGoroutine")=false∧fn.body=some code)∧Calls P f xs w fun e w'=>∃v,e=.returned v∧K (a.put d v) w':=by
 unfold nA at hr;split at hr
 ·rename_i T b ag;split at hr
  case h_2=>cases hr
  rename_i bx hb;split at hr
  case h_2=>cases hr
  rename_i b' v' u un hval;obtain⟨hcd,hr2⟩:=ah hr;obtain rfl:=aq hr2;simp only[cA,ny] at hcd;obtain⟨⟨⟨⟨⟨⟨⟨⟨c1,c2⟩,c3⟩,c4⟩,c5⟩,c6⟩,c7⟩,c8⟩,c9⟩:=hcd;have c1:=cK c1;have c5:=cK c5;have c7:=cK c7;have c8:=cK c8;have c6:0<T:=by simpa using c6
  subst c7;subst c8;obtain⟨val,rest,hxs,g1,g2⟩:=hv.cons;have mj:rest=[]:=by have:=g2.1;simpa using this
  subst mj;obtain⟨blk,cap,hl,g3⟩:=aF hb c1 g1.2;have g3:=sP g3;simp only[bC] at g3;obtain rfl:xs=#[.pointer (some ⟨blk,0,none⟩)]:=by apply Array.toList_inj.1;rw[hxs,g3]
  have eH:=h.ok.boxes b' bx hb;unfold bB at eH;rw[c2] at eH;obtain⟨b7,cap',cur,tid,fr,a1,a2,a3,a4,a5⟩:=eH;rw[hl] at a1;obtain⟨rfl,rfl⟩:=bY (aq a1);have de:tid=T:=by
   rcases a4 with a4|a4
   ·rw[c5] at a4;exact absurd a4 (Db c6)
   ·rw[a4,c5]
  subst de;rw[hval] at a5;obtain⟨CJ,Dq,e1,e2,e3⟩:=a5;obtain⟨Kk,JF,e4,e5,e6⟩:=e3;obtain⟨⟨p,rfl,K8⟩,JG⟩:=e2;obtain⟨q,hq⟩:∃q,Kk=[q]:=by
   cases u<;>first|(cases c9;done)|skip
   obtain⟨⟨q,hq,_⟩,_⟩:=e5;exact⟨q,hq⟩
  subst hq;obtain rfl:JF=[]:=e6;have G5:cur=#[p,q]:=by apply Array.toList_inj.1;rw[e1,e4];rfl
  subst G5;obtain⟨K9,cap2,j1,j2⟩:=aF hb c1 JG;rw[hl] at j1;obtain⟨rfl,rfl⟩:=bY (aq j1);have j2:p=.pointer none∨p=.pointer (some ⟨blk,0,none⟩):=j2.imp sP sP;refine⟨hs.1,(hs.2 w blk p q fr a2 (a3 0 (by simp)) j2).mono fun e w' hw=>?_⟩;obtain⟨rfl,hw⟩:=hw;refine⟨_,rfl,?_⟩;have hres:∀{γ':Gh} {mem':Nat→Option aR} {w':World},br γ' mem' w' (.jT .nl) .val [.tuple #[]]:=fun {_ _ _}=>⟨#[],rfl,rfl⟩;rcases hw with rfl|rfl
  ·refine hK γ _ _ (h.lf hd hres) ?_;cases d<;>exact Ext.refl _ _ _ _
  ·have vX:({ bx with val:=bx.val }:aR)=bx:=by cases bx;rfl
   obtain⟨m1,m2⟩:=h.ok.write hb c4 hl a2 (cur':=#[.pointer (some ⟨blk,0,none⟩),q]) (v:=bx.val) (by simp) (by rw[vX])
    (fun w' mem' hx hg=>by
     rw[vX];unfold bB;rw[c2];refine⟨blk,cap,_,tid,fr,hl,hg,fun o ho=>a3 o (by simpa using ho),a4,?_⟩;rw[hval];refine⟨[.pointer (some ⟨blk,0,none⟩)],[q],rfl,?_,[q],[],rfl,e5.ext hx,rfl⟩;have La:fI mem' b' v' fun _=>∃blk cap,γ.loc b'=some (blk,cap):=by
      obtain⟨bT,k1,k2,k3⟩:=JG;obtain⟨eg,q1,q2,q3⟩:=hx.boxes b' bT k1;exact⟨eg,q1,gj k2 q2,fun _=>⟨blk,cap,hl⟩⟩
     obtain⟨eg,q1,q2,q3⟩:=La;exact⟨⟨_,rfl,rfl⟩,eg,q1,q2,fun _=>⟨blk,cap,hl,.inr rfl⟩⟩)
   rw[vX,yC hb] at m1 m2;refine hK γ _ _ (h.aD m2 m1 hd hres) ?_;cases d<;>exact m2
 ·rename_i T E b ag;split at hr
  case h_2=>cases hr
  rename_i bx hb;split at hr
  case h_2=>cases hr
  rename_i b' v' hh I5 un hval;obtain⟨hcd,hr2⟩:=ah hr;simp only[cA,ny] at hcd;obtain⟨⟨⟨⟨c1,c2⟩,c5⟩,c6⟩,c7⟩:=hcd;have c1:=cK c1;have c5:=cK c5;have c6:0<T:=by simpa using c6
  split at hr2
  case h_2=>cases hr2
  rename_i hx HS;obtain⟨hcd,eu⟩:=ah hr2;simp only[cA,ny] at hcd;obtain⟨⟨⟨⟨d1,d2⟩,d3⟩,d4⟩,d5⟩:=hcd;have d1:=cK d1;have d4:=cK d4;have d5:0<E:=by simpa using d5
  split at eu
  case h_2=>cases eu
  rename_i l Kl;change List Int at l;obtain rfl:=aq eu;obtain⟨val,rest,hxs,g1,g2⟩:=hv.cons;have mj:rest=[]:=by have:=g2.1;simpa using this
  subst mj;obtain⟨blk,cap,hl,g3⟩:=aF hb c1 g1.2;have g3:=sP g3;simp only[bC] at g3;obtain rfl:xs=#[.pointer (some ⟨blk,0,none⟩)]:=by apply Array.toList_inj.1;rw[hxs,g3]
  have eH:=h.ok.boxes b bx hb;unfold bB at eH;rw[c2] at eH;obtain⟨b7,cap',cur,tid,fr,a1,a2,a3,a4,a5⟩:=eH;rw[hl] at a1;obtain⟨rfl,rfl⟩:=bY (aq a1);have de:tid=T:=by
   rcases a4 with a4|a4
   ·rw[c5] at a4;exact absurd a4 (Db c6)
   ·rw[a4,c5]
  subst de;rw[hval] at a5;obtain⟨CJ,Dq,e1,e2,e3⟩:=a5;obtain⟨Kk,JF,e4,e5,e6⟩:=e3;obtain⟨⟨p,rfl,K8⟩,JG⟩:=e2;obtain⟨⟨q,rfl,hq1⟩,G6⟩:=e5;obtain rfl:JF=[]:=e6;have G5:cur=#[p,q]:=by apply Array.toList_inj.1;rw[e1,e4];rfl
  subst G5;obtain⟨e',n',k1,k2,k3⟩:=aF HS d1 G6;rw[aR.bQ d2 Kl] at k2;obtain⟨rfl,rfl⟩:=bY (aq k2);have G7:=h.ok.boxes hh hx HS;unfold bB at G7;rw[d2] at G7;obtain⟨e3,l3,q1,q2,q3⟩:=G7;rw[Kl] at q1;cases q1;have hlen:(cl l).length=l.length:=by simp[cl]
  let hx':aR:={ hx with val:=.data (.slice (.int .u8)) ([]:List Int),ag:=hx.ag+1 }
  have key:∃og:Option Nat,(∀k,og=some k→∃c,γ.loc hh=some (k,c))∧l.length≤maxLen ∧
    ((og=none∧q=.slice none 0 0∧cl l=[])∨∃(g cap:Nat) (cur:Array Value) (fr':Nat×Nat),og=some g∧q=.slice (some ⟨g,0,none⟩) (cl l).length cap∧w.heap[g]?=some (.cells cur E fr')∧(cl l).length≤cap∧cap≤maxLen∧cur.size=cap∧∀(j:Nat) (x:UInt8),(cl l)[j]?=some x→cur[j]?=some (Value.int .u8 x.toNat)):=by
   rcases k3 with ⟨k3,k4⟩|⟨g,G8,k3,k4⟩
   ·rcases q3 with ⟨_,q3⟩|⟨_,_,_,_,_,q3,_⟩
    ·subst q3;exact⟨none,(fun k hk=>by cases hk),kD _,.inl ⟨rfl,sP k4,rfl⟩⟩
    ·rw[k3] at q3;cases q3
   ·rcases q3 with ⟨q3,_⟩|⟨g',Km,G9,JH,Lb,q3,q4,q5,q6,q7,q8,q9,Gs⟩
    ·rw[k3] at q3;cases q3
    ·rw[k3] at q3;obtain⟨rfl,rfl⟩:=bY (aq q3);have Lc:JH=E:=by
      rcases q6 with q6|q6
      ·rw[d4] at q6;exact absurd q6 (Db d5)
      ·rw[q6,d4]
     subst Lc;have Is:(Ty.int IntKind.u8).size=1:=rfl;have Ld:l.length≤G8:=q7;refine⟨some g,fun k hk=>⟨G8,by rw[k3,aq hk]⟩,gj Ld q8,.inr ⟨g,G8,G9,Lb,rfl,?_,q4,by omega,q8,by rw[q9,Is,zQ],fun j x hj=>?_⟩⟩
     ·rw[hlen];exact sP k4
     ·simp only[cl,sQ,Option.map_eq_some_iff] at hj;obtain⟨y,hy,rfl⟩:=hj;obtain⟨r1,r2,r3⟩:=Gs j y hy;rw[Is,zQ] at r1;have hmin:(IntKind.u8).min=0:=by decide
      have hmax:(IntKind.u8).max=255:=by decide
      have L2:0≤y:=by have:=r2;rw[hmin] at this;exact this
      have L3:y≤255:=by have:=r3;rw[hmax] at this;exact this
      have hcell:G9.toList[j]?=some (.int .u8 y):=by
       have:((G9.toList.drop j).take 1)[0]?=some (.int .u8 y):=by rw[r1];rfl
       simpa [iO,mz] using this
      have uW:((UInt8.ofNat y.toNat).toNat:Int)=y:=by
       rw[UInt8.toNat_ofNat'];have:y.toNat<256:=by omega
       rw[Nat.mod_eq_of_lt (by simpa using this)];omega
      rw[uW];simpa using hcell
  obtain⟨og,Kn,Fa,hk⟩:=key;refine⟨hs.1,(hs.2 w blk p q fr (cl l) og a2 hk).mono fun e w' hw=>?_⟩;obtain⟨rfl,hw⟩:=hw;refine⟨_,rfl,?_⟩;have JI:jI B w w':=⟨hw.os,hw.tape,hw.output,hw.size,fun k hk=>by
   rcases qk k w.heap.size with hlt|hge
   ·refine hw.block k hlt fun e=>hk ?_;obtain⟨c,hc⟩:=Kn k e;exact(h.ok.fresh hh k c (by rw[HS];simp) hc).1
   ·exact absurd (.inl (gj h.ok.base hge)) hk⟩
  have JJ:bB (aT γ hh none) (bD σ.mem hh hx') w' hh hx':=by
   unfold bB;rw[show hx'.buf=true from d2];exact⟨.int .u8,[],rfl,q2,.inl ⟨by simp[aT],rfl⟩⟩
  obtain⟨m1,m2⟩:=h.ok.drop (bx:=hx') HS (ES _) JI (fun k hk hn=>hw.block k hk fun e=>by obtain⟨c,hc⟩:=Kn k e;exact hn c hc) hw.cell JJ;refine hK (aT γ hh none) _ w' (h.aD m2 m1 hd (v:=.data .str (cl l)) (val:=.string ⟨(cl l).toArray⟩) ?_) ?_
  ·exact⟨[.string ⟨(cl l).toArray⟩],⟨rfl,by rw[hlen];exact Fa⟩,rfl⟩
  ·cases d<;>exact m2
 ·cases hr
theorem w9(cQ:ia P B.G cx)(fD:jY P B.G inl){f:Nat}{vals:List au}{xs:Array Value}(h:bP B N γ σ a w)(hd:∀k,d=some k→k<N)(hv:fO γ σ.mem w vals xs.toList)
  (hr:(kJ cx inl d f vals σ).run=some σ') {K:Act→World→Prop} (hK:pN B N γ σ a w d σ' K) :
  (∃fn code,P.funcs[f]?=some fn∧(fn.name == "runtime.NumGoroutine")=false∧fn.body=some code)∧Calls P f xs w fun e w'=>∃v,e=.returned v∧K (a.put d v) w':=by
 unfold kJ at hr;split at hr
 ·rename_i c HT;have hh:=cQ.gE f c HT;refine⟨hh.body,?_⟩;split at hr
  ·rename_i It;split at hr
   ·rename_i x hx;obtain⟨y,hy,hr2⟩:=bg hr;obtain rfl:=aq hr2;have hargs:=vi (I':=fun b o=>b<w.heap.size) h.ok (fun b o hi=>h.ok.jJ b o hi) (fun b o _ hb=>hb) hv hx;refine(hh.calls (fun b o=>b<w.heap.size) w xs x y (fun b o hb=>hb) h.ok.wQ hargs hy).mono fun e w' hw=>?_;obtain⟨v,I',h1,h2,h3,h4,h5,h6⟩:=hw;refine⟨v,h1,?_⟩;obtain⟨m1,m2⟩:=h.ok.I9 (I':=γ.I) h2 (fun _ _ hi=>hi) (fun b o hi=>qh (h.ok.jJ b o hi) h2.size) (fun b o hi hn=>absurd hi hn);refine hK γ _ w' (h.aD m2 m1 hd (h6.flat It)) ?_;cases d<;>exact m2
   ·exact absurd hr (by intro k;cases k)
  ·split at hr
   ·rename_i x σ1 hx;obtain⟨y,hy,hr2⟩:=bg hr;obtain rfl:=aq hr2;obtain⟨dX,s1,s2,s3⟩:=iK h hv hx;refine(hh.calls dX.I w xs x y (fun b o hi=>s1.ok.jJ b o hi) s1.ok.wQ s3 hy).mono fun e w' hw=>?_;obtain⟨v,I',h1,h2,h3,h4,h5,h6⟩:=hw;refine⟨v,h1,?_⟩;obtain⟨m1,m2⟩:=s1.ok.I9 (I':=I') h2 h3 h4 h5;refine hK ⟨I',dX.loc⟩ _ w' (s1.aD m2 m1 hd (h6.rep (fun _ _ hi=>hi))) ?_;cases d<;>exact s2.trans m2
   ·exact absurd hr (by intro k;cases k)
 ·rename_i HT;have pO:((inl f vals σ).bind fun r=>.ret (r.2.aD d r.1):Tree St).run=some σ'→(∃fn code,P.funcs[f]?=some fn∧(fn.name == "runtime.NumGoroutine")=false∧fn.body=some code)∧Calls P f xs w fun e w'=>∃v,e=.returned v∧K (a.put d v) w':=by
   intro hr;obtain⟨r,eT,hr2⟩:=bind_some hr;obtain rfl:=aq hr2;obtain⟨v0,eR⟩:=r;obtain⟨hb,EG,tP⟩:=fD B γ σ eR w f vals xs v0 rfl h.ok hv eT;refine⟨hb,tP.mono fun e w' hw=>?_⟩;obtain⟨v,γ',h1,h2,h3,h4⟩:=hw;refine⟨v,h1,?_⟩;have hs0:eR={ slots:=σ.slots,mem:=eR.mem }:=by cases eR;simp only at EG;subst EG;rfl
   rw[hs0] at hK;refine hK γ' _ w' (h.aD h3 h2 hd h4) ?_;cases d<;>exact h3
  split at hr
  ·rename_i s hcs;exact vk (cQ.x6 f s hcs) h hd hv hr hK
  split at hr
  ·rename_i c Ko;split at hr
   ·rename_i x u N M hx;obtain⟨hdup,hr⟩:=ah hr;have hdup:=qD.1 hdup;obtain⟨y,hy,hr2⟩:=bg hr;obtain rfl:=aq hr2;have hh:=cQ.cO f c Ko;obtain⟨V,eo,g1,g2,g3⟩:=vj hv hx;obtain⟨bs,k1,k2,k3⟩:=vT h.ok g2 g3;have hlen:=qE g3;have hold:∀blk∈bI bs (M.map fun p=>γ.loc p.1),∃b k,(∃bx,σ.mem b=some bx)∧γ.loc b=some (blk,k):=fun blk hb=>vV k1 k3 hb;refine⟨hh.body,(hh.calls γ.I w xs eo bs _ x u y (fun b o hi=>h.ok.jJ b o hi) h.ok.wQ (fun b Q g hb=>by
     obtain⟨n,k,⟨bx,j1⟩,j2⟩:=hold b hb;exact(h.ok.b6 b Q g).1 (h.ok.fresh n b k (by rw[j1];simp) j2).1) g1 k2 (ry h.ok k1 k3 hdup) hy).mono fun e w' hw=>?_⟩
    obtain⟨v,I',ls',h1,h2,h3,h4,h5,h6,h7,h8,h9⟩:=hw;refine⟨v,h1,?_⟩;obtain⟨m1,m2⟩:=h.ok.refs g3 hdup k1 k3 h2 h3 h4 h5 h7 h8 h9;have hs:eY c.U y.2 N M σ={ slots:=σ.slots,mem:=(eY c.U y.2 N M σ).mem }:=rfl;refine hK ⟨I',dN M ls' γ.loc⟩ _ w' (by rw[hs];exact h.aD m2 m1 hd (h6.rep (fun _ _ hi=>hi))) ?_;cases d<;>exact m2
   ·exact pO hr
  ·exact pO hr
theorem aN.Am{mem:Nat→Option aR}{w':World}(h:aN B γ mem w){b:Nat}{eg:aR}{e:Ty}{l':List e.den}{L:Option (Nat×Nat)}{X:Nat→Prop}{I':Nat→Nat→Prop}{v:Value}
  (hX:∀k,X k→∃bT c,mem b=some bT∧bT.ro=false∧γ.loc b=some (k,c)) (hw:Ai w γ.I X w' I') (hown:n6 w' I' e l' L v) (Kp:∀blk c,L=some (blk,c)→X blk∨w.heap.size≤blk)
  (aE:∀bT,mem b=some bT→bT.ag<eg.ag∨(bT.ag=eg.ag∧L=γ.loc b∧eg.buf=bT.buf∧eg.row=bT.row)) (hval:eg.val=.data (.slice e) l') (aQ:eg.buf=true) (de:eg.tid=0) (he:0<e.size) :
  let γ':Gh:=⟨I',fun i=>if i=b then L else γ.loc i⟩
  aN B γ' (bD mem b eg) w'∧Ext B γ mem w γ' (bD mem b eg) w':=by
 intro γ';have hsame:∀k,k<w.heap.size→¬X k→w'.heap[k]?=w.heap[k]?:=fun k hk hb=>hw.below.block k fun q=>by
  rcases q with q|q
  ·have:w.heap.size≤k:=q;omega
  ·exact hb q
 have hfree:∀k,X k→∀o,¬γ.I k o:=fun k hk o hi=>by
  obtain⟨bT,c,h1,h2,h3⟩:=hX k hk;have:=(h.sep b bT k c o h1 h3 hi).1;rw[h2] at this;cases this
 have G4:∀k,¬B.has k→k<w.heap.size:=fun k hk=>C6 fun q=>hk (.inl (gj h.base q));have Gv:∀k,X k→B.has k∧k<w.heap.size:=fun k hk=>by
  obtain⟨bT,c,h1,h2,h3⟩:=hX k hk;exact h.fresh b k c (by rw[h1];simp) h3
 have hx:Ext B γ mem w γ' (bD mem b eg) w' :=
  { below:=⟨hw.below.os,hw.below.tape,hw.below.output,hw.below.size,fun k hk=>hsame k (G4 k hk) fun hb=>hk (Gv k hb).1⟩
    I:=hw.held
    jK:=fun b o x=>by
     by_cases hi:γ.I b o
     ·exact .inl hi
     ·exact .inr (.inl (gj h.base (hw.jK b o x hi)))
    cells:=fun b o hi=>dD (hsame b (h.jJ b o hi) fun hb=>hfree b hb o hi)
    boxes:=fun c cx hc=>by
     by_cases e1:c=b
     ·subst e1;refine⟨eg,aP _ _,?_,fun e2=>?_⟩
      ·rcases aE cx hc with q|q
       ·exact Da q
       ·exact wI q.1
      ·rcases aE cx hc with q|q
       ·omega
       ·exact⟨by simp[γ',q.2.1],q.2.2⟩
     ·exact⟨cx,by rw[az _ e1];exact hc,en _,fun _=>⟨by simp[γ',e1],rfl,rfl⟩⟩ }
 have Iu:∀blk c,L=some (blk,c)→blk<w'.heap.size∧∀o,¬I' blk o:=fun blk c hl=>by
  rcases hown with ⟨q,_⟩|⟨b7,cap,cur,tid,fr,q1,q2,q3,q4,q5,q6,q7,q8,q9⟩
  ·rw[q] at hl;cases hl
  ·rw[q1] at hl;obtain⟨rfl,rfl⟩:=bY (aq hl);exact⟨(Array.getElem?_eq_some_iff.1 q3).1,q8⟩
 have hne:∀{c d:Nat},c≠b→bD mem b eg c≠none→mem c≠none:=fun hc hm=>by rwa [az _ hc] at hm
 have kL:∀{d blk k c:Nat},d≠b→mem d≠none→L=some (blk,k)→γ.loc d=some (blk,c)→False:=fun {d blk k c} hd hm hl h2=>by
  rcases Kp blk k hl with hx1|hx1
  ·obtain⟨bT,c0,j1,j2,j3⟩:=hX blk hx1;exact hd (h.inj d b blk c c0 hm (by rw[j1];simp) h2 j3)
  ·have:=(h.fresh d blk c hm h2).2;omega
 refine⟨?_,hx⟩;exact
  { b6:=h.pe hx
    base:=gj h.base hw.below.size
    boxes:=fun c cx hc=>by
     by_cases e1:c=b
     ·subst e1;rw[aP] at hc;obtain rfl:=aq hc;unfold bB;rw[aQ];refine⟨e,l',hval,he,?_⟩;rcases hown with ⟨q1,q2,q3⟩|⟨b7,cap,cur,tid,fr,q1,q2,q3,q4,q5,q6,q7,q8,q9⟩
      ·exact .inl ⟨by simp[γ',q1],q2⟩
      ·exact .inr ⟨b7,cap,cur,tid,fr,by simp[γ',q1],q3,q4,.inl de,q5,q6,q7,q9⟩
     ·rw[az _ e1] at hc;refine(h.boxes c cx hc).keep hx (by simp[γ',e1]) fun blk k hl=>hsame blk (h.fresh c blk k (by rw[hc];simp) hl).2 fun hx1=>?_;obtain⟨bT,c0,j1,j2,j3⟩:=hX blk hx1;exact e1 (h.inj c b blk k c0 (by rw[hc];simp) (by rw[j1];simp) hl j3)
    inj:=fun c d blk k k' hc hd h1 h2=>by
     by_cases e1:c=b
     ·by_cases e2:d=b
      ·rw[e1,e2]
      ·exfalso;simp only[γ',fF e1] at h1;simp only[γ',dW e2] at h2;exact kL e2 (hne (d:=0) e2 hd) h1 h2
     ·by_cases e2:d=b
      ·exfalso;simp only[γ',dW e1] at h1;simp only[γ',fF e2] at h2;exact kL e1 (hne (d:=0) e1 hc) h2 h1
      ·simp only[γ',dW e1] at h1;simp only[γ',dW e2] at h2;exact h.inj c d blk k k' (hne (d:=0) e1 hc) (hne (d:=0) e2 hd) h1 h2
    fresh:=fun c blk k hc h1=>by
     by_cases e1:c=b
     ·simp only[γ',fF e1] at h1;refine⟨?_,(Iu blk k h1).1⟩;rcases Kp blk k h1 with q|q
      ·exact(Gv blk q).1
      ·exact .inl (gj h.base q)
     ·simp only[γ',dW e1] at h1;have:=h.fresh c blk k (hne (d:=0) e1 hc) h1;exact⟨this.1,qh this.2 hw.below.size⟩
    jJ:=hw.jJ
    sep:=fun c cx blk k off hc h1 hi=>by
     by_cases e1:c=b
     ·simp only[γ',fF e1] at h1;exact absurd hi ((Iu blk k h1).2 off)
     ·simp only[γ',dW e1] at h1;rw[az _ e1] at hc;by_cases hi0:γ.I blk off
      ·exact h.sep c cx blk k off hc h1 hi0
      ·have h3:=hw.jK blk off hi hi0;have h2:=(h.fresh c blk k (by rw[hc];simp) h1).2;omega }
theorem n6.rep{I:Nat→Nat→Prop}{loc:Nat→Option (Nat×Nat)}{mem:Nat→Option aR}{w:World}{e:Ty}{l:List e.den}{L:Option (Nat×Nat)}{v:Value}{b ag:Nat}{bx:aR}(h:n6 w I e l L v)
  (nT:loc b=L) (hb:mem b=some bx) (aE:bx.ag=ag) (aQ:bx.buf=true) (hval:bx.val=.data (.slice e) l):br ⟨I,loc⟩ mem w (.whole b ag) .val [v]:=by
 rcases h with ⟨q1,q2,q3⟩|⟨b7,cap,cur,tid,fr,q1,q2,q3,q4,q5,q6,q7,q8,q9⟩
 ·exact⟨⟨v,rfl,by rw[q3];rfl⟩,cJ hb aE ⟨e,l.length,aQ,aR.bQ aQ hval,.inl ⟨by rw[←q1];exact nT,by rw[q3]⟩⟩⟩
 ·exact⟨⟨v,rfl,by rw[q2];rfl⟩,cJ hb aE ⟨e,l.length,aQ,aR.bQ aQ hval,.inr ⟨b7,cap,by rw[←q1];exact nT,by rw[q2]⟩⟩⟩
theorem DC{mem:Nat→Option aR}(h:aN B γ mem w){b ag:Nat}{bx:aR}{e:Ty}{l:List e.den}{v:Value}(hb:mem b=some bx)(aE:bx.ag=ag)(aQ:bx.buf=true)(hro:bx.ro=false)(hval:bx.val=.data (.slice e) l)
  (hv:br γ mem w (.whole b ag) .val [v]):n6 w γ.I e l (γ.loc b) v∧0<e.size:=by
 obtain⟨e',n,k1,k2,k3⟩:=aF hb aE hv.2;rw[aR.bQ aQ hval] at k2;obtain⟨rfl,rfl⟩:=bY (aq k2);have eH:=h.boxes b bx hb;unfold bB at eH;rw[aQ] at eH;obtain⟨e3,l3,q1,q2,q3⟩:=eH;rw[hval] at q1;cases q1;refine⟨?_,q2⟩;rcases q3 with ⟨q3,q4⟩|⟨blk,cap,cur,tid,fr,q3,q4,q5,q6,q7,q8,q9,Gs⟩
 ·rcases k3 with ⟨k3,k4⟩|⟨b7,cap',k3,k4⟩
  ·exact .inl ⟨k3,q4,sP k4⟩
  ·rw[q3] at k3;cases k3
 ·rcases k3 with ⟨k3,k4⟩|⟨b7,cap',k3,k4⟩
  ·rw[q3] at k3;cases k3
  ·rw[q3] at k3;obtain⟨rfl,rfl⟩:=bY (aq k3);refine .inr ⟨blk,cap,cur,tid,fr,q3,sP k4,q4,q5,q7,q8,q9,fun o hi=>?_,Gs⟩;have:=(h.sep b bx blk cap o hb q3 hi).1;rw[hro] at this;cases this
theorem jZ{e:Ty}{v:au}{b ag:Nat}{bx:aR}{l:List e.den}(h:mH e σ v=some (b,ag,bx,l)):σ.mem b=some bx∧bx.ag=ag∧bx.buf=true∧bx.lk=false∧bx.ro=false∧bx.tid=0 ∧
  ∃l0:List e.den,bx.val=.data (.slice e) l0∧((v=.whole b ag∧l=l0)∨∃n,v=.part b ag 0 n∧l=sub l0 0 n):=by
 unfold mH at h;split at h
 ·rename_i b0 Fe;split at h
  ·rename_i bT hb;cases hc:(Nat.beq bT.ag Fe&&bT.buf&&!bT.lk&&!bT.ro&&Nat.beq bT.tid 0) with
   | false=>rw[hc] at h;cases h
   | true =>
     rw[hc] at h;simp only[cA,ny] at hc;simp only[gD] at h;split at h
     ·rename_i u l0 hval;split at h
      ·rename_i l1 hl;obtain⟨q,hq⟩:=eO hl;subst q;subst hq;cases h;exact⟨hb,cK hc.1.1.1.1,hc.1.1.1.2,hc.1.1.2,hc.1.2,cK hc.2,_,hval,.inl ⟨rfl,rfl⟩⟩
      ·cases h
     ·cases h
  ·cases h
 ·rename_i b0 Fe lo n;split at h
  ·rename_i bT hb;cases hc:(Nat.beq bT.ag Fe&&bT.buf&&!bT.lk&&!bT.ro&&Nat.beq bT.tid 0&&decide (lo=0)) with
   | false=>rw[hc] at h;cases h
   | true =>
     rw[hc] at h;simp only[cA,ny,u5] at hc;simp only[gD] at h;split at h
     ·rename_i u l0 hval;split at h
      ·rename_i l1 hl;obtain⟨q,hq⟩:=eO hl;subst q;subst hq;cases h;have h0:=hc.2;subst h0;exact⟨hb,cK hc.1.1.1.1.1,hc.1.1.1.1.2,hc.1.1.1.2,hc.1.1.2,cK hc.1.2,_,hval,.inr ⟨n,rfl,rfl⟩⟩
      ·cases h
     ·cases h
  ·cases h
 ·cases h
theorem An{mem:Nat→Option aR}(h:aN B γ mem w){b ag:Nat}{bx:aR}{e:Ty}{l:List e.den}{n:Int}{v:Value}(hb:mem b=some bx)(aE:bx.ag=ag)(aQ:bx.buf=true)(hro:bx.ro=false)(hval:bx.val=.data (.slice e) l)
  (hv:br γ mem w (.part b ag 0 n) .val [v]):n6 w γ.I e (sub l 0 n) (γ.loc b) v∧0<e.size:=by
 obtain⟨e',k,k2,k3,k4,k5,base,cap',k6,k7,k8,kF,k9⟩:=aF hb aE hv.2;rw[aR.bQ aQ hval] at k2;obtain⟨rfl,rfl⟩:=bY (aq k2);have eH:=h.boxes b bx hb;unfold bB at eH;rw[aQ] at eH;obtain⟨e3,l3,q1,q2,q3⟩:=eH;rw[hval] at q1;cases q1;refine⟨?_,q2⟩;obtain k6:=sP k6;have hlen:(sub l 0 n).length=n.toNat:=by
  have:n.toNat≤l.length:=by omega
  simp only[sub,ig,wD];omega
 rcases kF.2 rfl aQ with ⟨z1,rfl,rfl⟩|⟨blk,z1,rfl⟩
 ·rcases q3 with ⟨q3,q4⟩|⟨blk,cap,cur,tid,fr,q3,_⟩
  ·subst q4;have:n.toNat=0:=by omega
   exact .inl ⟨z1,by simp[sub],by rw[k6,this]⟩
  ·rw[z1] at q3;cases q3
 ·rcases q3 with ⟨q3,q4⟩|⟨b7,cap,cur,tid,fr,q3,q4,q5,q6,q7,q8,q9,Gs⟩
  ·rw[z1] at q3;cases q3
  ·rw[z1] at q3;obtain⟨rfl,rfl⟩:=bY (aq q3);refine .inr ⟨blk,cap',cur,tid,fr,z1,by rw[hlen];exact k6,q4,q5,by rw[hlen];omega,q8,q9,fun o hi=>?_,fun i x hx=>Gs i x ?_⟩
   ·have:=(h.sep b bx blk cap' o hb z1 hi).1;rw[hro] at this;cases this
   ·have hx':((l.drop (0:Int).toNat).take n.toNat)[i]?=some x:=hx;rw[iO] at hx';split at hx'
    ·simpa using hx'
    ·cases hx'
theorem Cb{e:Ty}{v:au}{b ag:Nat}{bx:aR}{l:List e.den}{val:Value}(hm:aN B γ σ.mem w)(h:mH e σ v=some (b,ag,bx,l))(hv:br γ σ.mem w v .val [val]):n6 w γ.I e l (γ.loc b) val∧0<e.size:=by
 obtain⟨hb,aE,aQ,hlk,hro,de,l0,hval,DD⟩:=jZ h;rcases DD with ⟨rfl,rfl⟩|⟨n,rfl,rfl⟩
 ·exact DC hm hb aE aQ hro hval hv
 ·exact An hm hb aE aQ hro hval hv
theorem j7{f:Nat}{s:EE}(h:kI cx bf d f=some s):find cx.x6 f=some s:=by
 unfold kI at h;split at h
 ·rename_i e he;split at h
  ·obtain rfl:=aq h;exact he
  ·cases h
 ·rename_i he;obtain rfl:=aq h;exact he
 ·cases h
theorem si{f:Nat}{e:Ty}{vals:List au}{xs:Array Value}(hs:tO P f (.clone e))(h:bP B N γ σ a w)(hd:∀k,d=some k→k<N)(hv:fO γ σ.mem w vals xs.toList)
  (hr:(fy nb e d vals σ).run=some σ') {K:Act→World→Prop} (hK:pN B N γ σ a w d σ' K) :
  (∃fn code,P.funcs[f]?=some fn∧(fn.name == "runtime.NumGoroutine")=false∧fn.body=some code)∧Calls P f xs w fun e w'=>∃v,e=.returned v∧K (a.put d v) w':=by
 unfold fy at hr;split at hr
 case h_2=>cases hr
 rename_i k x;split at hr
 case h_2=>cases hr
 rename_i l σ1 hg;change List e.den at l;obtain⟨he,hr⟩:=ah hr;have he:0<e.size:=by simpa using he
 obtain⟨hfit,hr⟩:=bu hr;obtain⟨ag,aE,hr2⟩:=cc hr;obtain rfl:=aq hr2;obtain⟨val,rest,hxs,g1,g2⟩:=hv.cons;have mj:rest=[]:=by have:=g2.1;simpa using this
 subst mj;obtain⟨dX,s1,s2,cs,c1,c2⟩:=fM h g1 hg;have c2:=sP c2;refine⟨hs.1,(hs.2 dX.I w xs l (fun b o hi=>s1.ok.jJ b o hi) ⟨cs,[],by rw[hxs,c2],c1,rfl⟩ hfit).mono fun q w' hw=>?_⟩;obtain⟨v,I',L,rfl,h1,h2,h3⟩:=hw;refine⟨v,rfl,?_⟩;obtain⟨m1,m2⟩:=s1.ok.Am (b:=nb+k) (eg:={ val:=.data (.slice e) l,tid:=0,buf:=true,ro:=false,lk:=false,ag }) (fun _ hf=>hf.elim) h1 h2 (fun blk c hl=>.inr (h3 blk c hl))
  (fun bT h0=>.inl (aE bT h0)) rfl rfl rfl he
 exact hK _ _ w' (s1.step m2 m1 (hd k rfl) (h2.rep (by simp) (aP _ _) rfl rfl rfl)) (s2.trans m2)
theorem vl{f:Nat}{e A:Ty}{res:Bool}{spec:List e.den→A.den→Option (List e.den)}{vals:List au}{xs:Array Value}(hs:tO P f (.own e A res spec))(h:bP B N γ σ a w)(hd:∀k,d=some k→k<N)(hv:fO γ σ.mem w vals xs.toList)
  (hr:(iF e A res spec d vals σ).run=some σ') {K:Act→World→Prop} (hK:pN B N γ σ a w d σ' K) :
  (∃fn code,P.funcs[f]?=some fn∧(fn.name == "runtime.NumGoroutine")=false∧fn.body=some code)∧Calls P f xs w fun e w'=>∃v,e=.returned v∧K (a.put d v) w':=by
 unfold iF at hr;split at hr
 case h_2=>cases hr
 rename_i v0 vs;split at hr
 case h_2=>cases hr
 rename_i x σ1 hg;split at hr
 case h_2=>cases hr
 rename_i b ag bx l Gw;obtain⟨l',hspec,hr⟩:=bg hr;obtain⟨hb,aE,aQ,hlk,hro,de,l0,hval,DD⟩:=jZ Gw;obtain⟨val,rest,hxs,g1,g2⟩:=hv.cons;obtain⟨dX,s1,s2,hargs⟩:=iK h g2 hg;obtain⟨hown,he⟩:=Cb s1.ok Gw (g1.ext s2);refine⟨hs.1,(hs.2 dX.I w xs val rest l l' (dX.loc b) x (fun b o hi=>s1.ok.jJ b o hi) hxs hown hargs hspec).mono fun q w' hw=>?_⟩;obtain⟨I',h1,h2⟩:=hw;have hX:∀k,(∃c,dX.loc b=some (k,c))→∃bT c,σ1.mem b=some bT∧bT.ro=false∧dX.loc b=some (k,c):=fun k ⟨c,hc⟩=>⟨bx,c,hb,hro,hc⟩;cases res with
 | true =>
   cases d with
   | none=>cases hr
   | some k =>
     obtain rfl:=aq hr;obtain⟨v',L',rfl,h3,h4⟩:=h2;refine⟨v',rfl,?_⟩;obtain⟨m1,m2⟩:=s1.ok.Am (b:=b) (eg:={ bx with val:=.data (.slice e) l',ag:=ag+1 }) hX h1 h3 h4 (fun bT h0=>by
      rw[hb] at h0;obtain rfl:=aq h0;exact .inl (by simp[aE])) rfl aQ de he
     exact hK _ _ w' (s1.step m2 m1 (hd k rfl) (h3.rep (by simp) (aP _ _) rfl aQ rfl)) (s2.trans m2)
 | false =>
   have hr':sD v0=true∧σ'=(σ1.bt b { bx with val:=.data (.slice e) l' }).aD d (.jT .nl):=by
    cases d with
    | none=>obtain⟨q1,q2⟩:=ah hr;exact⟨q1,(aq q2).symm⟩
    | some k=>obtain⟨q1,q2⟩:=ah hr;exact⟨q1,(aq q2).symm⟩
   obtain⟨Lf,rfl⟩:=hr';obtain rfl:l=l0:=by
    rcases DD with ⟨_,q⟩|⟨n,rfl,_⟩
    ·exact q
    ·cases Lf
   obtain⟨rfl,hlen,h3⟩:=h2;refine⟨_,rfl,?_⟩;obtain⟨m1,m2⟩:=s1.ok.Am (b:=b) (eg:={ bx with val:=.data (.slice e) l' }) hX h1 h3 (fun blk c hl=>.inl ⟨c,hl⟩) (fun bT h0=>by
    rw[hb] at h0;obtain rfl:=aq h0;exact .inr ⟨rfl,rfl,rfl,by rw[aR.bQ aQ hval,aR.bQ (bx:={ bx with val:=.data (.slice e) l' }) aQ rfl,hlen]⟩) rfl aQ de he
   refine hK _ _ w' (s1.aD m2 m1 hd (v:=.jT .nl) (val:=.tuple #[]) ⟨#[],rfl,rfl⟩) ?_;cases d<;>exact s2.trans m2
theorem vm(cQ:ia P B.G cx)(fD:jY P B.G inl){f:Nat}{vals:List au}{xs:Array Value}(h:bP B N γ σ a w)(hd:∀k,d=some k→k<N)(hv:fO γ σ.mem w vals xs.toList)
  (hr:(jk cx nb bf inl d f vals σ).run=some σ') {K:Act→World→Prop} (hK:pN B N γ σ a w d σ' K) :
  (∃fn code,P.funcs[f]?=some fn∧(fn.name == "runtime.NumGoroutine")=false∧fn.body=some code)∧Calls P f xs w fun e w'=>∃v,e=.returned v∧K (a.put d v) w':=by
 unfold jk at hr;split at hr
 ·rename_i e he;exact si (cQ.x6 f _ (j7 he)) h hd hv hr hK
 ·rename_i e A r s he;exact vl (cQ.x6 f _ (j7 he)) h hd hv hr hK
 ·exact w9 cQ fD h hd hv hr hK
theorem tQ{o:Oper}{f:Nat}{xs:Array Value}{K:Act→World→Prop}{Q:Exit→Act→World→Prop}(hs:(execOp a.eval o).run P w=(callFunc f xs).run P w)
  (h:(∃fn code,P.funcs[f]?=some fn∧(fn.name == "runtime.NumGoroutine")=false∧fn.body=some code)∧Calls P f xs w fun e w'=>∃v,e=.returned v∧K (a.put o.dst v) w'):o.wp P a w K Q:=by
 obtain⟨⟨fn,code,h1,h2,h3⟩,hc⟩:=h;unfold Oper.wp;rw[hs,w8 h1 h2 h3];refine hc.mono fun e w' hw=>?_;obtain⟨v,rfl,hk⟩:=hw;exact hk
theorem yD(hc:dy P cx){t ty:TypeId}{v:au}{x:Value}{n:Int}(hm:aN B γ σ.mem w)(hv:br γ σ.mem w v .val [x])(ht:Bk (find cx.T t) v=true)(hl:lenOf σ v=some n) :
  (Builtin.len_ #[t] ty #[x]).run P w=.ok (goInt n) w∧IntKind.i64.min≤n∧n≤IntKind.i64.max:=by
 have hmax:(maxLen:Int)≤IntKind.i64.max:=by decide
 have hmin:IntKind.i64.min≤0:=by decide
 have HU:∀{base:Option Addr} {m c:Nat},(∃e,find cx.T t=some (.slice e))→x=.slice base m c→n=m→m≤maxLen→(Builtin.len_ #[t] ty #[x]).run P w=.ok (goInt n) w∧IntKind.i64.min≤n∧n≤IntKind.i64.max:=by
  intro base m c he hx hn hm;obtain⟨e,he⟩:=he;obtain⟨bX,f1,_⟩:=(hc.T _ _ he).slice;subst hx;subst hn;refine⟨?_,by omega,by omega⟩;simp[Builtin.len_,run_underlying f1]
 have EG:∀{o:Option Ty},(match o with|some (.slice _)=>true|_=>false)=true→∃e,o=some (.slice e):=by
  intro o h;split at h
  ·exact⟨_,rfl⟩
  ·cases h
 cases v with
 | data u y =>
   cases u with
   | str =>
     obtain⟨rfl,h2⟩:=kM hv;obtain rfl:=aq hl;have hT:=(hc.T _ _ (ek ht)).str;have e1:(⟨List.toArray (α:=UInt8) y⟩:ByteArray).size=List.length (α:=UInt8) y:=by
      show(List.toArray (α:=UInt8) y).size=_
      exact C4
     refine⟨?_,?_,?_⟩
     ·simp only[Builtin.len_];simp[run_underlying hT,e1,len]
     ·simp only[len];omega
     ·simp only[len];omega
   | slice e =>
     obtain rfl:=aq hl;obtain⟨cs,h1,h2⟩:=cq.1 hv;rcases h1 with ⟨⟨_,h1⟩,h3⟩|⟨blk,off,cap,h1,h3,h4,_⟩
     ·rw[h1] at h2;exact HU ⟨e,ek ht⟩ (show x=.slice _ 0 0 from h2) (by rw[h3];rfl) (kD _)
     ·rw[h1] at h2;exact HU ⟨e,ek ht⟩ (show x=.slice _ _ _ from h2) rfl (gj h3 h4)
   | arr m e =>
     obtain⟨bX,f1,_⟩:=(hc.T _ _ (ek ht)).arr;simp only[lenOf] at hl;cases hb:Nat.ble m 4294967296 with
     | false=>rw[hb] at hl;cases hl
     | true =>
       rw[hb] at hl;obtain rfl:=aq hl;have:=rR hb;have h9:(4294967296:Int)≤IntKind.i64.max:=by decide
       refine⟨by simp[Builtin.len_,run_underlying f1],by omega,by omega⟩
   | _=>cases hl
 | gk =>
   obtain rfl:=aq hl;obtain rfl:x=_:=by simpa [br] using hv
   exact HU (EG ht) rfl rfl (kD _)
 | whole b ag =>
   simp only[lenOf] at hl;split at hl
   ·rename_i bx hb;cases Fj:(Nat.beq bx.ag ag&&bx.buf) with
    | false=>rw[Fj] at hl;cases hl
    | true =>
      rw[Fj] at hl;simp only[cA] at Fj;simp only[gD] at hl;split at hl
      ·rename_i u l fT;obtain rfl:=aq hl;obtain⟨e',k,g1,g2,g3⟩:=aF hb (cK Fj.1) hv.2;rw[aR.bQ g1 fT] at g2;obtain⟨rfl,rfl⟩:=bY (aq g2);rcases g3 with ⟨g3,g4⟩|⟨blk,cap,g3,g4⟩
       ·have eH:=hm.boxes b bx hb;rw[bB,g1] at eH;obtain⟨e3,l3,q1,q2,q3⟩:=eH;rw[fT] at q1;cases q1;rcases q3 with ⟨_,q3⟩|⟨blk,cap,cur,tid,fr,q3,_⟩
        ·exact HU (EG ht) (sP g4) (by rw[q3];rfl) (kD _)
        ·rw[g3] at q3;cases q3
       ·obtain⟨cur,tid,fr,q1,q2,q3,q4,_⟩:=((hm.boxes b bx hb).row g3).1 _ l g1 fT;exact HU (EG ht) (sP g4) rfl (gj q3 q4)
      ·cases hl
   ·cases hl
 | part b ag lo n' =>
   simp only[lenOf] at hl;cases hlv:live σ b ag with
   | false=>rw[hlv] at hl;cases hl
   | true =>
     rw[hlv] at hl;obtain rfl:=aq hl;obtain⟨bx,hb,aE⟩:=eS hlv;obtain⟨e',k,g2,g3,g4,g5,base,cap,g6,g7,g8,gF,g9⟩:=aF hb aE hv.2;exact HU (EG ht) (sP g6) (C2 g4).symm (gj g7 g8)
 | _=>cases hl
theorem cU.take{w:World}{I:Nat→Nat→Prop}{e:Ty}{l:List e.den}{cs:List Value}(h:cU w I e l cs)(k:Nat):cU w I e (l.take k) (cs.take (k*e.size)):=by
 intro i x hx;rw[iO] at hx;split at hx
 ·rename_i hi;have hm:(i+1)*e.size≤k*e.size:=iN _ hi;rw[mD] at hm;rw[Bg,CZ,qi (by omega)];exact h i x hx
 ·cases hx
theorem cU.drop{w:World}{I:Nat→Nat→Prop}{e:Ty}{l:List e.den}{cs:List Value}(h:cU w I e l cs)(k:Nat):cU w I e (l.drop k) (cs.drop (k*e.size)):=by
 intro i x hx;rw[mz] at hx;rw[lH,←lI];exact h _ x hx
theorem mT{α:Type}{l m:List α}{lo:Int}(h0:0≤lo)(h:lo+m.length≤l.length):(over l lo m).length=l.length:=by
 simp only[over,ji,ig,wD];omega
theorem cU.over{w:World}{I:Nat→Nat→Prop}{e:Ty}{l m:List e.den}{cs news:List Value}{lo:Int}(h:cU w I e l cs)(hm:cU w I e m news)(hn:news.length=m.length*e.size)(h0:0≤lo)
  (hl:lo+m.length≤l.length) (hc:l.length*e.size≤cs.length):cU w I e (over l lo m) (splice cs (lo.toNat*e.size) news):=by
 have h1:(lo.toNat+m.length)*e.size≤l.length*e.size:=iN _ (by omega);rw[lI] at h1;have a1:=(h.take lo.toNat).append (rest:=[]) hm (by rw[ig,ig,qi (by omega),qi (by omega)]) hn;rw[xX] at a1;have a2:=a1.append (rest:=[]) (h.drop (lo.toNat+m.length)) (by rw[ji,ji,lI,hn,ig,ig,qi (by omega),qi (by omega)]);have e1:splice cs (lo.toNat*e.size) news=cs.take (lo.toNat*e.size)++news++cs.drop ((lo.toNat+m.length)*e.size):=by
  simp only[splice,hn,lI]
 rw[e1];intro i x hx;have hi:i<l.length:=by have:=(List.getElem?_eq_some_iff.1 hx).1;rw[mT h0 hl] at this;exact this
 have Kq:(i+1)*e.size≤l.length*e.size:=iN _ hi;by_cases Iv:(lo.toNat+m.length)*e.size+(l.length-(lo.toNat+m.length))*e.size=l.length*e.size
 ·have a3:cU w I e (Go.Ge.over l lo m) (cs.take (lo.toNat*e.size)++news++(cs.drop ((lo.toNat+m.length)*e.size))):=by
   intro i x hx;by_cases Lg:i<lo.toNat+m.length
   ·have hx':(l.take lo.toNat++m)[i]?=some x:=by
     simp only[Go.Ge.over] at hx;rw[EL (by rw[ji,ig];omega)] at hx;exact hx
    have hm2:(i+1)*e.size≤(lo.toNat+m.length)*e.size:=iN _ Lg;rw[fY (by rw[ji,ig,hn,qi (by omega),←lI];exact hm2)];exact a1 i x hx'
   ·have hx':(l.drop (lo.toNat+m.length))[i-(lo.toNat+m.length)]?=some x:=by
     simp only[Go.Ge.over] at hx;rw[F4 (by rw[ji,ig];omega)] at hx;rw[←hx];congr 1;rw[ji,ig];omega
    have:=h.drop (lo.toNat+m.length) _ x hx';have e2:i*e.size=(cs.take (lo.toNat*e.size)++news).length+(i-(lo.toNat+m.length))*e.size:=by
     rw[ji,ig,hn,qi (by omega),←lI,←lI];congr 1;omega
    rw[e2,←lH,ou];exact this
  exact a3 i x hx
 ·exact absurd (by rw[←lI];congr 1;omega) Iv
theorem jO(h:bP B N γ σ a w){e:Ty}{m:List e.den}{b ag:Nat}{q:List oz}{EW:Nat→Ty→Bool}{lo:Int}{base:Option Addr}{news:List Value}
  (hr:(eP e m b ag q EW lo σ).run=some σ') (hE:cU w γ.I e m news) (hn:news.length=m.length*e.size) (hone:∀u∈news,u.oneCell'=true) (h0:0≤lo)
  (aQ:∀bx (l:List e.den),σ.mem b=some bx→bx.ag=ag→bx.buf=true→bx.val=.data (.slice e) l→q=[]→lo+m.length≤l.length)
  (JK:∀bx k (l:List e.den),σ.mem b=some bx→bx.ag=ag→bx.buf=false→(BT q bx.val).run=some (.data (.arr k e) l)→EW k e=true→lo+m.length≤k)
  (hbase:m=[]∨∃blk c,γ.loc b=some (blk,c)∧base=some ⟨blk,bC q+lo.toNat*e.size,none⟩) :
  ∃w',(match base with|some ad=>storeCells ad news|none=>pure ()).run P w=.ok () w'∧bP B N γ σ' a w'∧Ext B γ σ.mem w γ σ'.mem w':=by
 unfold eP at hr;split at hr
 case h_2=>cases hr
 rename_i bx hb;obtain⟨hcd,hr2⟩:=ah hr;simp only[cA,ny] at hcd;obtain⟨⟨aE,hlk⟩,hro⟩:=hcd;have aE:=cK aE;have eH:=h.ok.boxes b bx hb;have hnil:m=[]→news=[]:=fun hm=>by subst hm;simpa using hn
 have Iw:m=[]→(match base with|some ad=>storeCells ad news|none=>pure ()).run P w=.ok () w:=fun hm=>by
  rw[hnil hm];cases base<;>rfl
 have DE:∀(blk c:Nat) (cur:Array Value) (tid:TypeId) (fr:Nat×Nat),γ.loc b=some (blk,c)→w.heap[blk]?=some (.cells cur tid fr)→iw cur fr→bC q+lo.toNat*e.size+news.length≤cur.size →
   (match base with|some ad=>storeCells ad news|none=>pure ()).run P w=.ok () (w.setRow blk (splice cur.toList (bC q+lo.toNat*e.size) news).toArray):=by
  intro blk c cur tid fr hl hg CI hle;rcases hbase with hm|⟨b7,c',hl',rfl⟩
  ·rw[Iw hm,hnil hm];simp only[splice,xX,BJ,ow,wC,Array.toArray_toList];rw[setRow_self w blk cur tid fr hg]
  ·rw[hl] at hl';obtain⟨rfl,rfl⟩:=bY (aq hl');have:=cm (P:=P) blk (bC q+lo.toNat*e.size) tid fr news 0 cur w hg CI (by omega) hone;rw[ow] at this;exact this
 split at hr2
 ·rename_i pP;split at hr2
  case h_2=>cases hr2
  rename_i u l fT;split at hr2
  case h_2=>cases hr2
  rename_i m' hm';obtain rfl:=aq hr2;obtain⟨hq,G6⟩:=eO hm';subst hq;obtain rfl:m'=m:=G6;have hle:=aQ bx l hb aE pP fT rfl;have hlen:=mT h0 hle;unfold bB at eH;rw[pP] at eH;obtain⟨e2,l2,j1,j2,j3⟩:=eH;rw[fT] at j1;cases j1;have hrw:({ bx with val:=.data (.slice e) (over l lo m') }:aR).row=bx.row:=by
   rw[aR.bQ pP fT];exact(aR.bQ (bx:=⟨.data (.slice e) (over (α:=e.den) l lo m'),bx.tid,bx.buf,bx.ro,bx.lk,bx.ag⟩) (l:=over (α:=e.den) l lo m') pP rfl).trans (by rw[hlen])
  rcases j3 with ⟨k1,k2⟩|⟨blk,cap,cur,tid,fr,k1,k2,k3,de,k4,k5,k6,k7⟩
  ·subst k2;have hm0:m'=[]:=by
    cases m' with
    | nil=>rfl
    | cons x r=>simp at hle;omega
   subst hm0;have e1:σ.bt b { bx with val:=.data (.slice e) (over ([]:List e.den) lo []) }=σ:=by
    have:({ bx with val:=.data (.slice e) (over ([]:List e.den) lo []) }:aR)=bx:=by
     cases bx;simp only at fT;subst fT;simp[over]
    rw[this];cases σ;simp only[St.bt]
    congr 1
    funext i;by_cases hi:i=b
    ·subst hi;simp only[wH,gD];exact hb.symm
    ·simp[ec hi]
   rw[e1];exact⟨w,Iw rfl,h,Ext.refl _ _ _ _⟩
  ·have hoff:bC ([]:List oz)+lo.toNat*e.size+news.length≤cur.size:=by
    have:(lo.toNat+m'.length)*e.size≤cap*e.size:=iN _ (by omega);rw[lI] at this;simp only[bC];omega
   have hst:=DE blk cap cur tid fr k1 k2 k3.th hoff;have He:lo.toNat*e.size+news.length≤cur.toList.length:=by simp only[bC] at hoff;show _≤cur.size;omega
   have hsz:(splice cur.toList (lo.toNat*e.size) news).toArray.size=cur.size:=by have:=bM He;simpa using this
   obtain⟨m1,m2⟩:=h.ok.write hb hro k1 k2 (cur':=(splice cur.toList (lo.toNat*e.size) news).toArray) (v:=.data (.slice e) (over l lo m')) hsz hrw
    (fun w' mem' hx hg=>by
     show bB γ mem' w' b { bx with val:=.data (.slice e) (over l lo m') }
     unfold bB;simp only[pP];refine⟨e,_,rfl,j2,.inr ⟨blk,cap,_,tid,fr,k1,hg,k3.same hsz,de,by rw[hlen];exact k4,k5,by rw[hsz];exact k6,?_⟩⟩;intro i x hx';have:=cU.over (l:=l) (cs:=cur.toList) k7 hE hn h0 hle (by show _≤cur.size;rw[k6];exact iN _ k4) i x hx';simpa using aX.mono hx.I hx.cells this)
   simp only[bC,kS] at hst;exact⟨_,hst,h.go m2 m1,m2⟩
 ·rename_i pP;obtain⟨old,DF,eu⟩:=bind_some hr2;split at eu
  case h_2=>cases eu
  rename_i k u l;obtain⟨Hf,fS⟩:=ah eu;split at fS
  case h_2=>cases fS
  rename_i m' hm';obtain⟨c,hs,u7⟩:=bind_some fS;obtain rfl:=aq u7;obtain⟨hq,G6⟩:=eO hm';subst hq;obtain rfl:m'=m:=G6;have hle:=JK bx k l hb aE pP DF Hf;unfold bB at eH;rw[pP] at eH;obtain⟨blk,cap,cur,tid,fr,k1,k2,k3,de,k4⟩:=eH;obtain⟨p1,p2⟩:=jW k4 DF;have hvs:bL (.data (.arr k e) l)=k*e.size:=rfl;rw[hvs] at p1 p2;obtain⟨r1,r2,r3⟩:=p2;have Kr:lo+m'.length≤(List.length (α:=e.den) l:Int):=by rw[r1];exact hle
  have hlen:List.length (α:=e.den) (over (α:=e.den) l lo m')=List.length (α:=e.den) l:=mT (l:=l) h0 Kr;have JL:(lo.toNat+m'.length)*e.size≤k*e.size:=iN _ (by omega);rw[lI] at JL;have hoff:bC q+lo.toNat*e.size+news.length≤cur.size:=by have p1':bC q+k*e.size≤cur.size:=p1;omega
  have hst:=DE blk cap cur tid fr k1 k2 k3 hoff;have Fk:((cur.toList.drop (bC q)).take (k*e.size)).length=k*e.size:=r2;have Gx:lo.toNat*e.size+news.length≤((cur.toList.drop (bC q)).take (k*e.size)).length:=by rw[Fk];omega
  have hnew:aX w γ.I (.arr k e) (over l lo m') (splice ((cur.toList.drop (bC q)).take (k*e.size)) (lo.toNat*e.size) news):=by
   refine⟨hlen.trans r1,by rw[bM Gx,Fk],?_⟩;exact cU.over (l:=l) r3 hE hn h0 Kr (by rw[Fk];exact wI (by rw[r1]))
  have JM:=iJ cur.toList (bC q) (lo.toNat*e.size) (k*e.size) news (by omega) p1;have hrw:({ bx with val:=c }:aR).row=bx.row:=ri (bx:=bx) (p:=q) (v:=.data (.arr k e) (over l lo m')) (by rw[pP];exact hs) fun hp _=>by
   subst hp;have fT:bx.val=.data (.arr k e) l:=aq DF;rw[aR.gU pP fT];exact aR.gU (bx:=⟨_,bx.tid,bx.buf,bx.ro,bx.lk,bx.ag⟩) pP rfl
  have He:bC q+lo.toNat*e.size+news.length≤cur.toList.length:=hoff;have hsz:(splice cur.toList (bC q+lo.toNat*e.size) news).toArray.size=cur.size:=by have:=bM He;simpa using this
  obtain⟨m1,m2⟩:=h.ok.write hb hro k1 k2 (cur':=(splice cur.toList (bC q+lo.toNat*e.size) news).toArray) (v:=c) hsz hrw
   (fun w' mem' hx hg=>by
    show bB γ mem' w' b { bx with val:=c }
    unfold bB;simp only[pP];refine⟨blk,cap,_,tid,fr,k1,hg,k3.same hsz,de,?_⟩;have:=lQ (k4.ext hx) DF hs (show br γ mem' w' (.data (.arr k e) (over l lo m')) .cells _ from aX.mono hx.I hx.cells hnew) (by rw[bM Gx,Fk];rfl);rw[JM] at this;simpa using this)
  exact⟨_,hst,h.go m2 m1,m2⟩
theorem pQ{e:Ty}{mf:Int→List e.den}{t:au}{tv:Value}{r:Int×St}(h:bP B N γ σ a w)(hv:br γ σ.mem w t .val [tv])(hr:(qn e mf t σ).run=some r) :
  ∃base cap,tv=.slice base r.1.toNat cap∧0≤r.1∧∀news,cU w γ.I e (mf r.1) news→news.length=(mf r.1).length*e.size→(∀u∈news,u.oneCell'=true)→(mf r.1).length≤r.1.toNat →
   ∃w',(match base with|some ad=>storeCells ad news|none=>pure ()).run P w=.ok () w'∧bP B N γ r.2 a w'∧Ext B γ σ.mem w γ r.2.mem w':=by
 unfold qn at hr;split at hr
 ·rename_i b ag lo n;obtain⟨σ1,eT,hr2⟩:=bind_some hr;obtain rfl:=aq hr2;have yE:∃bx,σ.mem b=some bx∧bx.ag=ag:=by
   unfold eP at eT;split at eT
   ·rename_i bx hb;obtain⟨hcd,_⟩:=ah eT;simp only[cA] at hcd;exact⟨bx,hb,cK hcd.1.1⟩
   ·cases eT
  obtain⟨bx,hb,aE⟩:=yE;obtain⟨e',k,g2,g3,g4,g5,base,cap,g6,g7,g8,gF,g9⟩:=aF hb aE hv.2;refine⟨base,cap,by simpa using g6,g4,fun news hE hn hone hle=>?_⟩;dsimp only at hE hn hle;refine jO h eT hE hn hone g3 (fun eg l hb' _ pP fT _=>?_) (fun eg k' l hb' _ pP DF _=>?_) ?_
  ·obtain rfl:=aq (hb.symm.trans hb');rw[aR.bQ pP fT] at g2;obtain⟨_,rfl⟩:=bY (aq g2);omega
  ·obtain rfl:=aq (hb.symm.trans hb');have fT:bx.val=.data (.arr k' e) l:=aq DF;rw[aR.gU pP fT] at g2;obtain⟨_,rfl⟩:=bY (aq g2);omega
  ·rcases g9 with g9|⟨blk,c,g9,g10⟩
   ·left;exact EJ (by rw[g9,show(0:Int).toNat=0 from rfl] at hle;rw[g9];omega)
   ·by_cases hm:mf n=[]
    ·exact .inl hm
    ·right;have he:e'=e:=by
      unfold eP at eT;rw[hb] at eT;obtain⟨_,eu⟩:=ah eT;split at eu
      ·rename_i pP;split at eu
       case h_2=>cases eu
       rename_i u l fT;split at eu
       case h_2=>cases eu
       rename_i m' hm';obtain⟨hq,_⟩:=eO hm';rw[aR.bQ pP fT] at g2;obtain⟨rfl,_⟩:=bY (aq g2);exact hq.symm
      ·rename_i pP;obtain⟨old,DF,fS⟩:=bind_some eu;split at fS
       case h_2=>cases fS
       rename_i k' u l;obtain⟨_,u7⟩:=ah fS;split at u7
       case h_2=>cases u7
       rename_i m' hm';obtain⟨hq,_⟩:=eO hm';have fT:bx.val=.data (.arr k' u) l:=aq DF;rw[aR.gU pP fT] at g2;obtain⟨rfl,_⟩:=bY (aq g2);exact hq.symm
     subst he;exact⟨blk,c,g9,by rw[g10];simp[bC]⟩
 ·rename_i b ag;split at hr
  case h_2=>cases hr
  rename_i n hlen;obtain⟨σ1,eT,hr2⟩:=bind_some hr;obtain rfl:=aq hr2;have yE:∃bx,σ.mem b=some bx∧bx.ag=ag:=by
   unfold eP at eT;split at eT
   ·rename_i bx hb;obtain⟨hcd,_⟩:=ah eT;simp only[cA] at hcd;exact⟨bx,hb,cK hcd.1.1⟩
   ·cases eT
  obtain⟨bx,hb,aE⟩:=yE;obtain⟨e',k,g1,g2,g3⟩:=aF hb aE hv.2;have gN:=h.ok.boxes b bx hb;have hl:∃l:List e.den,bx.val=.data (.slice e) l∧n=l.length:=by
   unfold eP at eT;rw[hb] at eT;obtain⟨_,eu⟩:=ah eT;split at eu
   ·split at eu
    case h_2=>cases eu
    rename_i u l Ks fT;split at eu
    case h_2=>cases eu
    rename_i m' hm';obtain⟨hq,_⟩:=eO hm';subst hq;refine⟨l,fT,?_⟩;simp only[lenOf,hb,aE,g1,wH,Bool.and_self,gD,fT] at hlen;exact(aq hlen).symm
   ·rename_i pP;rw[g1] at pP;cases pP
  obtain⟨l,fT,rfl⟩:=hl;rw[aR.bQ g1 fT] at g2;obtain⟨rfl,rfl⟩:=bY (aq g2);have fin:∀{base:Option Addr} {cap:Nat},tv=.slice base l.length cap→(l.length=0∨∃blk c,γ.loc b=some (blk,c)∧base=some ⟨blk,0,none⟩) →
    ∃base cap,tv=.slice base (l.length:Int).toNat cap∧(0:Int)≤l.length∧∀news,cU w γ.I e (mf l.length) news→news.length=(mf l.length).length*e.size→(∀u∈news,u.oneCell'=true)→(mf l.length).length≤(l.length:Int).toNat →
     ∃w',(match base with|some ad=>storeCells ad news|none=>pure ()).run P w=.ok () w'∧bP B N γ σ1 a w'∧Ext B γ σ.mem w γ σ1.mem w':=by
   intro base cap Lh hb0;refine⟨base,cap,by simpa using Lh,by omega,fun news hE hn hone hle=>?_⟩;refine jO h eT hE hn hone (by omega) (fun eg l' hb' _ pP Ix _=>?_) (fun eg k' l' hb' _ pP DF _=>?_) ?_
   ·obtain rfl:=aq (hb.symm.trans hb');rw[fT] at Ix;cases Ix;omega
   ·obtain rfl:=aq (hb.symm.trans hb');rw[g1] at pP;cases pP
   ·rcases hb0 with hb0|⟨blk,c,q1,q2⟩
    ·left;exact EJ (by omega)
    ·right;exact⟨blk,c,q1,by rw[q2];simp[bC]⟩
  rcases g3 with ⟨g3,g4⟩|⟨blk,cap,g3,g4⟩
  ·obtain g4:tv=_:=by simpa using g4
   rw[bB,g1] at gN;obtain⟨e2,l2,j1,j2,j3⟩:=gN;rw[fT] at j1;cases j1;rcases j3 with ⟨_,j4⟩|⟨_,_,_,_,_,j3,_⟩
   ·exact fin (base:=none) (cap:=0) (by rw[g4,j4];rfl) (.inl (by rw[j4];rfl))
   ·rw[g3] at j3;cases j3
  ·exact fin (sP g4) (.inr ⟨blk,cap,g3,rfl⟩)
 ·rename_i b ag q u k lo n;obtain⟨σ1,eT,hr2⟩:=bind_some hr;obtain rfl:=aq hr2;have yE:∃bx,σ.mem b=some bx∧bx.ag=ag:=by
   unfold eP at eT;split at eT
   ·rename_i bx hb;obtain⟨hcd,_⟩:=ah eT;simp only[cA] at hcd;exact⟨bx,hb,cK hcd.1.1⟩
   ·cases eT
  obtain⟨bx,hb,aE⟩:=yE;obtain⟨hq,blk,c,g1,g3,g4,g5,base,cap,g6,g7,g9⟩:=aF hb aE hv.2;refine⟨base,cap,by simpa using g6,g4,fun news hE hn hone hle=>?_⟩;dsimp only at hE hn hle;refine jO h eT hE hn hone g3 (fun eg l hb' _ pP fT Ks=>absurd Ks hq) (fun eg k' l hb' _ pP DF Hf=>?_) ?_
  ·simp only[cA] at Hf;have:=cK Hf.1;omega
  ·rcases g9 with g9|g10
   ·left;exact EJ (by rw[g9,show(0:Int).toNat=0 from rfl] at hle;rw[g9];omega)
   ·by_cases hm:mf n=[]
    ·exact .inl hm
    ·right;have he:u=e:=by
      unfold eP at eT;rw[hb] at eT;obtain⟨_,eu⟩:=ah eT;split at eu
      ·split at eu
       ·exact absurd rfl hq
       ·cases eu
      ·obtain⟨old,DF,fS⟩:=bind_some eu;split at fS
       case h_2=>cases fS
       obtain⟨Hf,u7⟩:=ah fS;split at u7
       case h_2=>cases u7
       rename_i m' hm';obtain⟨Dr,_⟩:=eO hm';simp only[cA] at Hf;exact(Ty.eq_of_beq Hf.2).trans Dr.symm
     subst he;exact⟨blk,c,g1,g10⟩
 ·cases hr
theorem tT{I:Nat→Nat→Prop}{e:Ty}{m:List e.den}{v:Value}(h:mP w I e m v)(n:Nat)(hn:n≤m.length) :
  ∃news,(Builtin.firstCells e.size n v).run P w=.ok news.toArray w∧news.length=n*e.size∧(∀u∈news,u.oneCell'=true)∧cU w I e (m.take n) news∧(Builtin.lenOf v).run P w=.ok m.length w:=by
 rcases h with ⟨rfl,base,cap,r1,r2,r3⟩|⟨blk,off,cap,r1,r2,r3,r4⟩
 ·obtain rfl:n=0:=by simpa using hn
  subst r1;refine⟨[],?_,by simp,fun u hu=>absurd hu (by simp),fun i x hx=>absurd hx (by simp),rfl⟩;cases base with
  | none=>rfl
  | some ad=>exact run_firstCells_some w e.size 0 ad 0 cap [] (by simp) (fun j v hj=>by cases hj)
 ·obtain⟨news,n1,n2,n3,n4⟩:=tF (w:=w) (l:=m.take n) fun i x hx=>by
   rw[iO] at hx;split at hx
   ·exact r4 i x hx
   ·cases hx
  rw[ig,qi hn] at n1;refine⟨news,?_,n1,n3,n4,by rw[r1];rfl⟩;rw[r1];exact run_firstCells_some w e.size n _ m.length cap news n1 (fun j u hj=>by rw[addr_add];exact n2 j u hj)
theorem tU{I:Nat→Nat→Prop}{s:List UInt8}(n:Nat)(hn:n≤s.length) :
  ∃news,(Builtin.firstCells 1 n (.string ⟨s.toArray⟩)).run P w=.ok news.toArray w∧news.length=n∧(∀u∈news,u.oneCell'=true)∧cU w I (.int .u8) ((bO s).take n:List Int) news∧(Builtin.lenOf (.string ⟨s.toArray⟩)).run P w=.ok (bO s).length w:=by
 refine⟨(s.take n).map fun b=>Value.int .u8 b.toNat,?_,by simp[hn],fun u hu=>?_,fun i x hx=>?_,?_⟩
 ·simp only[Builtin.firstCells,Sem.run_pure]
  congr 1
  apply x4;have e1:(⟨s.toArray⟩:ByteArray).extract 0 n=⟨(s.take n).toArray⟩:=by
   have:=yp s (i:=0) (j:=n) (by omega) (by omega);simpa [sub,minus] using this
  rw[e1];simp
 ·obtain⟨_,_,rfl⟩:=List.mem_map.1 hu;rfl
 ·have hx':((bO s).take n)[i]?=some x:=hx;rw[iO] at hx';split at hx'
  ·rename_i hi;simp only[bO,sQ] at hx';cases hb:s[i]? with
   | none=>rw[hb] at hx';cases hx'
   | some b =>
     rw[hb] at hx';obtain rfl:(b.toNat:Int)=x:=aq hx';refine⟨?_,w4 b⟩;apply zN;intro j;rw[iO];split
     ·rename_i hj;obtain rfl:j=0:=by simp[Ty.size] at hj;exact hj
      rw[mz];simp[Ty.size,hb,hi]
     ·rename_i hj;obtain⟨k,rfl⟩:∃k,j=k+1:=⟨j-1,by simp[Ty.size] at hj;omega⟩;simp
  ·cases hx'
 ·simp[Builtin.lenOf,bO,ByteArray.size]
theorem lz(s:List UInt8):(bO s).length=s.length:=wF ..
theorem DG{s:List UInt8}{n:Nat}(h:n≤(bO s).length):n≤s.length:=by rw[lz] at h;exact h
theorem Ao(hm:aN B γ σ.mem w){e:Ty}{m:List e.den}{x:au}{v:Value}(hv:br γ σ.mem w x .val [v])(h:jC e σ x=some m)(n:Nat)(hn:n≤m.length) :
  ∃news,(Builtin.firstCells e.size n v).run P w=.ok news.toArray w∧news.length=n*e.size∧(∀u∈news,u.oneCell'=true)∧cU w γ.I e (m.take n) news∧(Builtin.lenOf v).run P w=.ok m.length w:=by
 unfold jC at h;split at h
 ·rename_i t;obtain⟨q,hq⟩:=eO h;subst q;subst hq;obtain⟨ev,_⟩:=kM hv;rw[ev];have hn':n≤List.length (α:=UInt8) t:=DG hn;obtain⟨news,n1,n2,n3,n4,n5⟩:=tU (P:=P) (w:=w) (I:=γ.I) (s:=t) n hn';exact⟨news,n1,by rw[n2];simp[Ty.size],n3,n4,n5⟩
 ·exact tT (iA hm hv h) n hn
theorem tV(hc:dy P cx){tt tx ty:TypeId}{t x:Operand}(h:bP B N γ σ a w)(hd:∀k,d=some k→k<N)(hr:(kV cx d tt (bz σ t) (bz σ x) σ).run=some σ') :
  gh P B N γ σ a w d (Builtin.copy_ #[tt,tx] ty #[a.eval t,a.eval x]) σ':=by
 unfold kV at hr;split at hr
 case h_2=>cases hr
 rename_i e hT;split at hr
 case h_1=>cases hr
 rename_i m hm;obtain⟨r,eT,hr2⟩:=bind_some hr;obtain rfl:=aq hr2;obtain⟨bX,k1,k2,k3,k4⟩:=(hc.T _ _ hT).slice;obtain⟨base,cap,c1,c2,c3⟩:=pQ (P:=P) h (h.bz t) eT;have hlen:(mE (α:=e.den) m r.1).length=Nat.min m.length r.1.toNat:=by
  simp only[mE,ig];exact Nat.min_comm _ _
 obtain⟨news,n1,n2,n3,n4,n5⟩:=Ao (P:=P) h.ok (h.bz x) hm (Nat.min m.length r.1.toNat) (Nat.min_le_left _ _);have Iy:(m.take (Nat.min m.length r.1.toNat))=mE (α:=e.den) m r.1:=by
  simp only[mE];rcases Nat.le_total m.length r.1.toNat with hle|hle
  ·rw[show Nat.min m.length r.1.toNat=m.length from qi hle,EN (en _),EN hle]
  ·rw[show Nat.min m.length r.1.toNat=r.1.toNat from Nat.min_eq_right hle]
 rw[Iy] at n4;obtain⟨w',s1,s2,s3⟩:=c3 news n4 (by rw[n2,hlen]) n3 (by rw[hlen];exact Nat.min_le_right _ _);have hmax:(mE (α:=e.den) m r.1).length≤maxLen:=by
  rcases ER (mE (α:=e.den) m r.1).length with h0|h0
  ·omega
  ·rw[hlen];refine gj (Nat.min_le_left _ _) ?_;have hv:=h.bz x;unfold jC at hm;split at hm
   ·rename_i s hs;obtain⟨q,hq⟩:=eO hm;subst q;subst hq;rw[hs] at hv;obtain⟨_,h2⟩:=kM hv;exact gj (wI (lz s)) h2
   ·rcases iA h.ok hv hm with ⟨rfl,_⟩|⟨_,_,cap,_,h2,h3,_⟩
    ·exact kD _
    ·exact gj h2 h3
 refine⟨goInt (mE (α:=e.den) m r.1).length,w',γ,?_,?_,?_⟩
 ·have hsz:=k2.sizeOf w;simp only[Builtin.copy_,c1];simp only[Gf,GL,GM,Sem.run_bind,run_underlying k1,Result.andThen_ok,n5,hsz,n1,hlen];cases base with
  | none=>simp only[Sem.run_pure,Result.andThen_ok] at s1⊢;injection s1 with _ s1;subst s1;rfl
  | some ad=>simp only at s1⊢;simp only[Sem.run_bind,s1,Result.andThen_ok,Sem.run_pure]
 ·have h9:(maxLen:Int)≤IntKind.i64.max:=by decide
  have h8:IntKind.i64.min≤0:=by decide
  have:=s2.lf hd (v:=.data (.int .i64) (len (mE (α:=e.den) m r.1))) (val:=goInt (mE (α:=e.den) m r.1).length) (mkInt ⟨by simp only[len];omega,by simp only[len];omega⟩);exact this
 ·cases d<;>exact s3
theorem sj(hc:dy P cx){tt ty:TypeId}{t:Operand}(h:bP B N γ σ a w)(hr:(kW cx tt (bz σ t) σ).run=some σ') :
  gh P B N γ σ a w none (Builtin.clear_ #[tt] ty #[a.eval t]) σ':=by
 unfold kW at hr;split at hr
 case h_2=>cases hr
 rename_i e hT;obtain⟨r,eT,hr2⟩:=bind_some hr;obtain rfl:=aq hr2;obtain⟨bX,k1,k2,k3,k4⟩:=(hc.T _ _ hT).slice;obtain⟨base,cap,c1,c2,c3⟩:=pQ (P:=P) h (h.bz t) eT;have hlen:(wJ r.1 e.zero).length=r.1.toNat:=by simp[wJ]
 obtain⟨z,z1,z2⟩:=k2.zero w;have hz:=jM z2 k4 r.1.toNat;have HO:=gG w γ.I (.arr r.1.toNat e);have hcells:(Builtin.zeroCells z.cells r.1.toNat).toList=cP (.arr r.1.toNat e):=by
  have hzl:z.cells.size=e.size:=by rw[←cG e,←z2];simp
  rw[←hz];simp only[Builtin.zeroCells,madeCells,hzl]
 obtain⟨w',s1,s2,s3⟩:=c3 (cP (.arr r.1.toNat e)) (fun i x hx=>HO.2.2 i x hx) (by rw[cG,hlen];rfl) (fun u hu=>HO.one u hu) (wI hlen);refine⟨.tuple #[],w',γ,?_,s2,s3⟩;simp only[Builtin.clear_,c1];simp only[Gf,GL,Sem.run_bind,run_underlying k1,Result.andThen_ok];cases base with
 | none=>simp only[Sem.run_pure,Result.andThen_ok] at s1⊢;injection s1 with _ s1;subst s1;rfl
 | some ad =>
   simp only at s1;by_cases h0:r.1.toNat=0
   ·have:cP (.arr r.1.toNat e)=[]:=EJ (by rw[cG];simp[Ty.size,h0]);rw[this] at s1;injection s1 with _ s1
    subst s1;rw[h0];simp only[Sem.run_pure,Result.andThen_ok]
   ·obtain⟨k,hk⟩:∃k,r.1.toNat=k+1:=⟨r.1.toNat-1,by omega⟩;rw[hk] at s1 hcells⊢;simp only[Sem.run_bind,z1,Result.andThen_ok,hcells,s1,Sem.run_pure]
theorem pR{least:Bool}{p q r:au}{u v:Value}(hu:br γ σ.mem w p .val [u])(hv:br γ σ.mem w q .val [v])(hr:(wL least p q).run=some r) :
  ∃z,((if least then Builtin.min2 u v else Builtin.max2 u v)).run P w=.ok z w∧br γ σ.mem w r .val [z]:=by
 unfold wL at hr;split at hr
 ·rename_i k n k' m;obtain⟨hk,hr2⟩:=ah hr;obtain rfl:=kT hk;obtain rfl:=aq hr2;obtain⟨rfl,h1⟩:=iZ hu;obtain⟨rfl,h2⟩:=iZ hv;have cmp:∀n m:Int,k.min≤n∧n≤k.max→k.min≤m∧m≤k.max→br γ σ.mem w (.data (.int k) (GR n m)) .val [.int k (if m<n then m else n)]∧br γ σ.mem w (.data (.int k) (imax n m)) .val [.int k (if m > n then m else n)]:=by
   intro n m h1 h2;constructor
   ·unfold GR;by_cases hlt:m<n
    ·simp only[hlt,decide_true,gD,iP];exact mkInt h2
    ·simp only[hlt,decide_false,eD,sS];exact mkInt h1
   ·unfold imax;by_cases hlt:n<m
    ·simp only[hlt,decide_true,gD,gt_iff_lt,iP];exact mkInt h2
    ·simp only[hlt,decide_false,eD,gt_iff_lt,sS];exact mkInt h1
  cases least with
  | true=>exact⟨_,rfl,(cmp n m h1 h2).1⟩
  | false=>exact⟨_,rfl,(cmp n m h1 h2).2⟩
 ·cases hr
end
end Go.Ge
namespace Go.Ge
open RowKit
section
variable {P:Program} {B:iy} {N:Nat} {γ:Gh} {σ σ':St} {a:Act} {w w':World} {d:Option Nat} {cx:Ctx} {nb:Nat} {bf:List Nat} {inl:Nat→List au→St→Tree (au×St)}
theorem xb{f:Operand→au}{l:List Operand}{x:au}(h:l.map f=[x]):∃o,l=[o]∧f o=x:=by
 cases l with
 | nil=>cases h
 | cons o r=>cases r with
   | nil=>exact⟨o,rfl,by simpa using h⟩
   | cons p r=>simp at h
theorem sM{f:Operand→au}{l:List Operand}{x y:au}(h:l.map f=[x,y]):∃o p,l=[o,p]∧f o=x∧f p=y:=by
 cases l with
 | nil=>cases h
 | cons o r =>
   obtain⟨p,hp,hq⟩:=xb (l:=r) (f:=f) (x:=y) (by simp at h⊢;exact h.2);subst hp;exact⟨o,p,rfl,by simp at h;exact h.1,hq⟩
theorem cM{α:Type}{a:Array α}{l:List α}(h:a.toList=l):a=l.toArray:=by rw[←h]
theorem Cc{α:Type}(k:Value→Array Value→Sem α)(x:Value)(xs:Array Value):(match(#[x]++xs)[0]? with|some recv=>k recv ((#[x]++xs).extract 1 (#[x]++xs).size)|x=>stuck "call: a method without a receiver")=k x xs.toList.toArray:=by
 have h0:(#[x]++xs)[0]?=some x:=by rw[←GN,CU];rfl
 have h1:(#[x]++xs).extract 1 (#[x]++xs).size=xs.toList.toArray:=by
  apply x4;rw[Array.toList_extract,CU,C5];simp[List.extract];rw[←EO,List.take_length]
 rw[h0,h1]
theorem Ap(hc:dy P cx)(cQ:ia P B.G cx)(fD:jY P B.G inl){o:Oper}{c:Call}(ho:o.op=.call c)(h:bP B N γ σ a w)(hd:∀k,o.dst=some k→k<N)
  (hr:(jD cx nb bf inl o.dst o.type c σ).run=some σ') {K:Act→World→Prop} {Q:Exit→Act→World→Prop} (hK:pN B N γ σ a w o.dst σ' K):o.wp P a w K Q:=by
 unfold jD at hr;split at hr
 ·rename_i b tW;split at hr
  ·
   rename_i x t hx ht;obtain⟨ox,CP,rfl⟩:=xb hx;cases hlt:Bk (find cx.T t) (bz σ ox) with
   | false =>
     rw[hlt] at hr;simp only[eD] at hr;split at hr
     ·rename_i e b ag q u k lo n he hx;obtain⟨hl,hr2⟩:=ah hr;simp only[cA,u5] at hl;obtain rfl:=aq hr2;obtain⟨bx,gN,aE⟩:=eS hl.1;have hv:=h.bz ox;rw[hx] at hv;obtain⟨_,blk,c',g1,g2,g3,g4,base,cap,g5,g6,g7⟩:=aF gN aE hv.2;obtain g5:a.eval ox=_:=by simpa using g5
      refine aZ (s:=Builtin.len_ c.argTypes o.type (c.args.map a.eval)) ?_ (aU h hd (x:=.int .i64 n) ?_ (mkInt ?_)) hK
      ·unfold execOp;simp only[ho,resolve,tW,invoke,builtin];rfl
      ·rw[cM CP,cM ht,show Array.map a.eval [ox].toArray=#[a.eval ox] from by simp,g5];simp[Builtin.len_,run_underlying (lS hc he).1,C2 g3];rfl
      ·exact⟨Int.le_trans (by decide) g3,Int.le_trans hl.2 (by decide)⟩
     ·exact absurd hr (by intro k;cases k)
   | true =>
   have hr2:(match lenOf σ (bz σ ox) with|some n=>Tree.ret (σ.aD o.dst (.data (.int .i64) n))|none=>.fail).run=some σ':=by rw[hlt] at hr;exact hr
   split at hr2
   ·rename_i n hn;obtain rfl:=aq hr2;obtain⟨l1,l2⟩:=yD (ty:=o.type) hc h.ok (h.bz ox) hlt hn;refine aZ (s:=Builtin.len_ c.argTypes o.type (c.args.map a.eval)) ?_ (aU h hd (x:=.int .i64 n) ?_ (mkInt l2)) hK
    ·unfold execOp;simp only[ho,resolve,tW,invoke,builtin];rfl
    ·rw[cM CP,cM ht,show Array.map a.eval [ox].toArray=#[a.eval ox] from by simp];exact l1
   ·exact absurd hr2 (by intro k;cases k)
  ·rename_i s x t u hx ht;obtain⟨os,ox,CP,rfl,rfl⟩:=sM hx;have key:(∃e,P.underlying u=some (.slice e))∨P.underlying u=some .string→(dM cx nb o.dst t (bz σ os) (bz σ ox) σ).run=some σ'→o.wp P a w K Q:=by
    intro hk hr2;refine aZ (s:=Builtin.append_ c.argTypes o.type (c.args.map a.eval)) ?_ ?_ hK
    ·unfold execOp;simp only[ho,resolve,tW,invoke,builtin];rfl
    ·rw[cM CP,cM ht,show Array.map a.eval [os,ox].toArray=#[a.eval os,a.eval ox] from by simp];exact qC hc h hd hk hr2
   split at hr
   ·rename_i hu;exact key (.inr (hc.T _ _ hu).str) hr
   ·rename_i e hu;obtain⟨bX,f1,_⟩:=(hc.T _ _ hu).slice;exact key (.inl ⟨bX,f1⟩) hr
   ·exact absurd hr (by intro k;cases k)
  ·rename_i t x tt tx hx ht;obtain⟨ot,ox,CP,rfl,rfl⟩:=sM hx;have key:(kV cx o.dst tt (bz σ ot) (bz σ ox) σ).run=some σ'→o.wp P a w K Q:=by
    intro hr2;refine aZ (s:=Builtin.copy_ c.argTypes o.type (c.args.map a.eval)) ?_ ?_ hK
    ·unfold execOp;simp only[ho,resolve,tW,invoke,builtin];rfl
    ·rw[cM CP,cM ht,show Array.map a.eval [ot,ox].toArray=#[a.eval ot,a.eval ox] from by simp];exact tV hc h hd hr2
   split at hr
   ·exact key hr
   ·exact key hr
   ·exact absurd hr (by intro k;cases k)
  ·rename_i t tt hx ht;obtain⟨ot,CP,rfl⟩:=xb hx;split at hr
   ·rename_i Aq;refine aZ (s:=Builtin.clear_ c.argTypes o.type (c.args.map a.eval)) ?_ ?_ hK
    ·unfold execOp;simp only[ho,resolve,tW,invoke,builtin];rfl
    ·rw[cM CP,cM ht,show Array.map a.eval [ot].toArray=#[a.eval ot] from by simp,Aq];exact sj hc h hr
   ·exact absurd hr (by intro k;cases k)
  ·rename_i x y hx;obtain⟨ox,oy,CP,rfl,rfl⟩:=sM hx;obtain⟨v,hb,hr2⟩:=bind_some hr;obtain rfl:=aq hr2;obtain⟨z,z1,z2⟩:=pR (P:=P) (h.bz ox) (h.bz oy) hb;refine aZ (s:=Builtin.min_ c.argTypes o.type (c.args.map a.eval)) ?_ (aU h hd (x:=z) ?_ z2) hK
   ·unfold execOp;simp only[ho,resolve,tW,invoke,builtin];rfl
   ·rw[cM CP,show Array.map a.eval [ox,oy].toArray=#[a.eval ox,a.eval oy] from by simp];simp only[iP] at z1;simp[Builtin.min_,z1]
  ·rename_i x y hx;obtain⟨ox,oy,CP,rfl,rfl⟩:=sM hx;obtain⟨v,hb,hr2⟩:=bind_some hr;obtain rfl:=aq hr2;obtain⟨z,z1,z2⟩:=pR (P:=P) (h.bz ox) (h.bz oy) hb;refine aZ (s:=Builtin.max_ c.argTypes o.type (c.args.map a.eval)) ?_ (aU h hd (x:=z) ?_ z2) hK
   ·unfold execOp;simp only[ho,resolve,tW,invoke,builtin];rfl
   ·rw[cM CP,show Array.map a.eval [ox,oy].toArray=#[a.eval ox,a.eval oy] from by simp];simp only[zM,sS] at z1;simp[Builtin.max_,z1]
  ·exact absurd hr (by intro k;cases k)
 ·rename_i f tW;split at hr
  ·rename_i fid caps hf;obtain⟨Iz,hr2⟩:=ah hr;have hv:=h.bz f;rw[hf] at hv;obtain⟨arr,v1,v2,v3⟩:=hv;obtain v1:=sP v1;have DH:fO γ σ.mem w (caps.map fun b=>.ptr b.1 b.2 []) arr.toList:=by
    refine⟨by simpa using v2,fun i v x h1 h2=>?_⟩;rw[sQ] at h1;cases hi:caps[i]? with
    | none=>rw[hi] at h1;cases h1
    | some bv =>
      rw[hi] at h1;obtain rfl:=aq h1;have hl:=List.all_eq_true.1 Iz bv (zL hi);obtain⟨bx,hb,aE⟩:=eS hl;have Li:=v3 i bv.1 bv.2 (by rw[hi]);obtain⟨blk,cap,g1,g2⟩:=aF hb aE Li;have hx:x=.pointer (some ⟨blk,0,none⟩):=by
       have:arr[i]?=some x:=by simpa using h2
       rw[g2] at this;exact(aq this).symm
      subst hx;exact⟨⟨_,rfl,rfl⟩,bx,hb,wI aE.symm,fun _=>⟨blk,cap,g1,rfl⟩⟩
   have hall:fO γ σ.mem w (c.args.toList.map (bz σ)++caps.map fun b=>.ptr b.1 b.2 []) (c.args.map a.eval++arr).toList:=by
    rw[CU,CW];exact(vW h).append DH
   refine tQ (f:=fid) (xs:=c.args.map a.eval++arr) ?_ (vm cQ fD h hd hall hr2 hK);unfold execOp;simp only[ho,resolve,tW,Deferred.ofValue,v1,Sem.run_bind,Sem.run_pure,Result.andThen_ok,invoke];simp
  ·exact absurd hr (by intro k;cases k)
 ·
  rename_i r name tW;unfold ir at hr;split at hr
  ·rename_i cn IA;split at hr
   ·rename_i x σ1 hx;obtain⟨y,hy,hr2⟩:=bg hr;obtain rfl:=aq hr2;have hall:fO γ σ.mem w (bz σ r::c.args.toList.map (bz σ)) (a.eval r::(c.args.map a.eval).toList):=by
     rw[CW];exact vW (ops:=r::c.args.toList) h
    obtain⟨dX,s1,s2,s3⟩:=iK h hall hx;obtain⟨f,u,e1,e2,e3⟩:=cQ.inv name cn IA dX.I w (a.eval r) _ x y (fun b o hi=>s1.ok.jJ b o hi) s1.ok.wQ s3 hy;refine tQ (f:=f) (xs:=(u::(c.args.map a.eval).toList).toArray) ?_ ⟨e2,e3.mono fun e w' hw=>?_⟩
    ·rw[←e1];unfold execOp;simp only[ho,resolve,tW,Sem.run_bind,Sem.run_pure,Result.andThen_ok,invoke];exact congrArg (fun z:Sem Next=>z.run P w) (Cc (fun v=>callMethod v name) (a.eval r) (Array.map a.eval c.args))
    ·obtain⟨v,I',h1,h2,h3,h4,h5,h6⟩:=hw;refine⟨v,h1,?_⟩;obtain⟨m1,m2⟩:=s1.ok.I9 (I':=I') h2 h3 h4 h5;refine hK ⟨I',dX.loc⟩ _ w' (s1.aD m2 m1 hd (h6.rep (fun _ _ hi=>hi))) ?_;cases o.dst<;>exact s2.trans m2
   ·exact absurd hr (by intro k;cases k)
  ·exact absurd hr (by intro k;cases k)
theorem yF{I:Nat→Nat→Prop}{tid:TypeId}{u:Nat}:∀{t:Ty} {a:Ty} {f:a.den→t.den},Den P t tid→ya t u=some ⟨a,f⟩ →
  P.concrete u=true∧∀(y:a.den) (cs:List Value),aX w I a y cs→aX w I t (f y) [.iface u (bA a cs)]:=by
 intro t;induction t with
 | alt n a r eN ihr =>
   intro b f hd h;unfold ya at h;obtain⟨h1,h2⟩:=hd.rest;cases hn:Nat.beq n u with
   | true =>
     rw[hn] at h;obtain rfl:=cK hn;cases h;exact⟨h2,fun y cs hy=>⟨h1.Dl hd,cs,rfl,hy⟩⟩
   | false =>
     rw[hn] at h;simp only[eD] at h;split at h
     ·rename_i b' g hg;cases h;obtain⟨k1,k2⟩:=ihr h1 hg;exact⟨k1,fun y cs hy=>k2 y cs hy⟩
     ·cases h
 | _=>intro b f hd h;cases h
theorem Fl{tid:TypeId}{u:Nat}{t:Ty}{a:Ty}{f:a.den→t.den}(hd:Den P t tid)(h:ya t u=some ⟨a,f⟩):t.isAgg=false:=by
 cases t with
 | alt n b r=>simp only[Den,dc,cA] at hd;exact(Ty.tf hd.2).2
 | _=>cases h
theorem sn(hc:dy P cx){ty u:TypeId}{x:Operand}(h:bP B N γ σ a w)(hd:∀k,d=some k→k<N)(hr:(iq cx d ty u (bz σ x) σ).run=some σ') :
  gh P B N γ σ a w d (Instr.makeInterface u (a.eval x)) σ':=by
 unfold iq at hr;split at hr
 ·rename_i t ht;have Fm:=hc.T _ _ ht;split at hr
  ·rename_i b f hf;split at hr
   ·rename_i y σ1 hg;obtain rfl:=aq hr;obtain⟨dX,s1,s2,cs,s3,s4⟩:=fM h (h.bz x) hg;obtain⟨k1,k2⟩:=yF (w:=w) (I:=dX.I) Fm hf;have Lj:a.eval x=bA b cs:=by simpa using s4
    have hag:=Fl Fm hf;refine⟨.iface u (a.eval x),w,dX,run_makeInterface w u _ k1,s1.lf hd ⟨_,k2 y cs s3,?_⟩,?_⟩
    ·rw[Lj];unfold bA;rw[hag];rfl
    ·cases d<;>exact s2
   ·exact absurd hr (by intro k;cases k)
  ·exact absurd hr (by intro k;cases k)
 ·exact absurd hr (by intro k;cases k)
theorem yG{o:Oper}{s:Sem Unit}{K:Act→World→Prop}{Q:Exit→Act→World→Prop}(hs:execOp a.eval o=(do s;pure .skip))(Aq:o.dst=none)
  (h:∃w' γ',s.run P w=.ok () w'∧bP B N γ' σ' a w'∧Ext B γ σ.mem w γ' σ'.mem w') (hK:pN B N γ σ a w o.dst σ' K):o.wp P a w K Q:=by
 obtain⟨w',γ',h1,h2,h3⟩:=h;unfold Oper.wp;rw[hs];simp only[Sem.run_bind,h1,Result.andThen_ok,Sem.run_pure,Oper.upon_skip];exact hK γ' _ w' (by rw[Aq];exact h2) h3
theorem oI{d:Option Nat}{k:Nat}(h:x9 bf d=some k):d=some k∧bN bf k=true:=by
 unfold x9 at h;split at h
 ·rename_i d;cases hb:bN bf d with
  | false=>rw[hb] at h;cases h
  | true=>rw[hb] at h;obtain rfl:=aq h;exact⟨rfl,hb⟩
 ·cases h
theorem tX(hc:dy P cx)(cQ:ia P B.G cx)(fD:jY P B.G inl){o:Oper}(h:bP B N γ σ a w)(hd:∀k,o.dst=some k→k<N)
  (hr:(gP cx nb bf inl o σ).run=some σ') {K:Act→World→Prop} {Q:Exit→Act→World→Prop} (hK:pN B N γ σ a w o.dst σ' K):o.wp P a w K Q:=by
 unfold gP at hr;split at hr
 case h_1 x ho=>exact aZ (s:=pure (a.eval x)) (by simp only[execOp,ho];rfl) (lg hc h hd hr) hK
 case h_2 x ho=>exact aZ (s:=pure (a.eval x)) (by simp only[execOp,ho];rfl) (lg hc h hd hr) hK
 case h_3 c x y ho=>exact aZ (s:=do pure (if ←asBool (a.eval c) then a.eval x else a.eval y)) (by simp only[execOp,ho];simp[bind_assoc]) (tw h hd hr) hK
 case h_4 elem ho =>
  split at hr
  ·rename_i k t hk hT;rw[hk] at hd;refine aZ (s:=Instr.alloc elem true (.tuple #[])) (by simp only[execOp,ho]) ?_ hK;rw[hk];exact r6 hc h (hd k rfl) hT hr
  ·rename_i k hk hT;rw[hk] at hd;refine aZ (s:=Instr.alloc elem true (.tuple #[])) (by simp only[execOp,ho]) ?_ hK;rw[hk];split at hr
   ·rename_i fs hO;exact r5 hc h (hd k rfl) hO hr
   ·obtain⟨h1,hr2⟩:=ah hr;exact rZ hc h (hd k rfl) h1 hr2
  ·exact absurd hr (by intro k;cases k)
 case h_5 elem x ho =>
  unfold oU at hr;split at hr
  ·exact absurd hr (by intro k;cases k)
  ·exact absurd hr (by intro k;cases k)
  ·rename_i k hk h1 h2;rw[hk] at hd;refine aZ (s:=Instr.box elem (a.eval x)) (by simp only[execOp,ho]) ?_ hK;rw[hk];split at hr
   ·exact ve h (hd k rfl) h1 h2 hr
   ·exact B6 h (hd k rfl) h1 h2 hr
  ·exact absurd hr (by intro k;cases k)
 case h_6 t parts ho =>
  refine aZ (s:=Instr.build t (parts.map fun(i,x)=>(i,a.eval x))) (by simp only[execOp,ho]) ?_ hK;split at hr
  ·rename_i u v hT;split at hr
   ·rename_i x σ1 hb;obtain rfl:=aq hr;exact oE hc h hd hT hb
   ·exact absurd hr (by intro k;cases k)
  ·rename_i n e hT;split at hr
   ·rename_i l σ1 hb;obtain rfl:=aq hr;exact pJ hc h hd hT hb
   ·exact absurd hr (by intro k;cases k)
  ·split at hr
   ·rename_i fs hO;split at hr
    ·rename_i z0 Gr;split at hr
     ·rename_i p q hb;obtain rfl:=aq hr;exact r8 hc h hd hO Gr hb
     ·rename_i u hb;obtain rfl:=aq hr;exact qy hc h hd hO Gr hb
     ·exact absurd hr (by intro k;cases k)
    ·exact absurd hr (by intro k;cases k)
   ·exact absurd hr (by intro k;cases k)
  ·exact absurd hr (by intro k;cases k)
 case h_7 t n parts ho =>
  refine aZ (s:=Instr.buildSlice t n (parts.map fun(i,x)=>(i,a.eval x))) (by simp only[execOp,ho]) ?_ hK;split at hr
  ·rename_i e hT;split at hr
   ·rename_i k aQ hparts;obtain⟨hk,_⟩:=oI aQ;have hp:parts=#[]:=by simpa using hparts
    rw[hk,hp];rw[hk] at hd;rw[Array.map_empty];exact qA hc h (hd k rfl) hT hr
   ·obtain⟨hn,hr2⟩:=ah hr;split at hr2
    ·rename_i l σ1 hb;obtain rfl:=aq hr2;exact qz hc h hd hT hn hb
    ·exact absurd hr2 (by intro k;cases k)
  ·exact vg hc h hd hr
  ·exact absurd hr (by intro k;cases k)
 case h_8 t x ho=>exact aZ (s:=Instr.loadAt t (a.eval x)) (by simp only[execOp,ho]) (tE hc h hd hr) hK
 case h_9 t x y ho =>
  split at hr
  ·rename_i hk;exact yG (s:=Instr.storeAt t (a.eval x) (a.eval y)) (by simp only[execOp,ho]) hk (rY hc h hr) hK
  ·exact absurd hr (by intro k;cases k)
 case h_10 x ho =>
  have hv:=h.bz x;have fin:∀{v:au} {y:Value},a.eval x=y→execOp a.eval o=(do pure (.value (←(pure y:Sem Value))))→br γ σ.mem w v .val [y]→σ'=σ.aD o.dst v→o.wp P a w K Q:=by
   intro v y he hs Jc Ll;subst Ll;exact aZ (s:=pure y) hs (aU h hd rfl Jc) hK
  split at hr
  ·rename_i b ag p hx;rw[hx] at hv;obtain⟨hl,hr2⟩:=ah hr;obtain⟨bx,hb,aE⟩:=eS hl;obtain⟨blk,cap,g1,g2⟩:=aF hb aE hv.2;have g2:=sP g2;rw[g2] at hv;exact fin g2 (by simp only[execOp,ho,g2];rfl) hv (aq hr2).symm
  ·rename_i t y hx;rw[hx] at hv;obtain⟨blk,off,cs,g1,g2,g3⟩:=id hv;have g1:=sP g1;rw[g1] at hv;exact fin g1 (by simp only[execOp,ho,g1];rfl) hv (aq hr).symm
  ·rename_i f c hx;rw[hx] at hv;obtain⟨arr,g1,g2,g3⟩:=id hv;have g1:=sP g1;rw[g1] at hv;exact fin g1 (by simp only[execOp,ho,g1];rfl) hv (aq hr).symm
  ·exact absurd hr (by intro k;cases k)
 case h_11 op xt x y pos ho =>
  obtain⟨v,hb,hr2⟩:=bind_some hr;obtain rfl:=aq hr2;obtain⟨z,z1,z2⟩:=z8 (P:=P) (x:=x) (y:=y) hc (h.bz x) (h.bz y) hb;refine aZ (s:=dF op xt x y (a.eval x) (a.eval y)) (by simp only[execOp,ho,dF]) (aU h hd z1 z2) hK
 case h_12 op ty x ho =>
  obtain⟨v,hb,hr2⟩:=bind_some hr;obtain rfl:=aq hr2;obtain⟨z,z1,z2⟩:=Ds (P:=P) (h.bz x) hb;exact aZ (s:=Op.unary op (a.eval x)) (by simp only[execOp,ho]) (aU h hd z1 z2) hK
 case h_13 src dst x ho=>exact aZ (s:=convert src dst (a.eval x)) (by simp only[execOp,ho]) (pK hc h hd hr) hK
 case h_14 f first caps ho =>
  split at hr
  ·rename_i cs Hg hcs;obtain rfl:=aq hr;refine aZ (s:=Instr.makeFunc (.func f) #[] (caps.map a.eval)) ?_ (tG h hd hcs) hK;have:first=#[]:=by simpa using Hg
   simp only[execOp,ho,this,show Array.map a.eval #[]=#[] from by simp]
  ·exact absurd hr (by intro k;cases k)
 case h_15 t x lo hi ho=>exact aZ (s:=Instr.sliceAt t (a.eval x) (lo.map a.eval) (hi.map a.eval) none) (by simp only[execOp,ho];rfl) (rX hc h hd hr) hK
 case h_16 s x k ho=>exact aZ (s:=Instr.fieldAt s (a.eval x) k) (by simp only[execOp,ho]) (nR hc h hd hr) hK
 case h_17 xt x k ho =>
  have hv:=h.bz x;split at hr
  ·rename_i u y hx;rw[hx] at hv;obtain⟨hT,hr2⟩:=ah hr;split at hr2
   ·rename_i off v hf;obtain rfl:=aq hr2;obtain⟨z,z1,z2⟩:=yo (P:=P) hc (ek hT) hv hf;exact aZ (s:=Instr.field xt (a.eval x) k) (by simp only[execOp,ho]) (aU h hd z1 z2) hK
   ·exact absurd hr2 (by intro k;cases k)
  ·exact absurd hr (by intro k;cases k)
 case h_18 t x i ho =>
  split at hr
  ·rename_i ki n hi;have hv:=h.bz i;rw[hi] at hv;obtain⟨ei,_⟩:=iZ hv;refine aZ (s:=Instr.indexAt t (a.eval x) (a.eval i)) (by simp only[execOp,ho]) ?_ hK;rw[ei];cases hm:bN bf 5000000 with
   | true=>rw[hm] at hr;exact rV hc h hd hr
   | false=>rw[hm] at hr;exact jh hc h hd hr
  ·exact absurd hr (by intro k;cases k)
 case h_19 t x i ho =>
  split at hr
  ·rename_i ki n hi;have hv:=h.bz i;rw[hi] at hv;obtain⟨ei,_⟩:=iZ hv;refine aZ (s:=Instr.index t (a.eval x) (a.eval i)) (by simp only[execOp,ho]) ?_ hK;rw[ei];exact rW hc h hd hr
  ·exact absurd hr (by intro k;cases k)
 case h_20 t l c ho =>
  split at hr
  ·rename_i k e kl ln kc cn hk hT hl CK;rw[hk] at hd;obtain⟨hin,hr2⟩:=bu hr;obtain⟨hf,eu⟩:=bu hr2;refine aZ (s:=Instr.makeSlice t (a.eval l) (a.eval c)) (by simp only[execOp,ho]) ?_ hK;rw[hk];exact r9 hc h (hd k rfl) hT hl CK hin hf eu
  ·exact absurd hr (by intro k;cases k)
 case h_21 t k ho =>
  split at hr
  ·rename_i vs hx;split at hr
   ·rename_i v hn;obtain rfl:=aq hr;exact aZ (s:=Instr.extract (a.eval t) k) (by simp only[execOp,ho]) (vf h hd hx hn) hK
   ·exact absurd hr (by intro k;cases k)
  ·exact absurd hr (by intro k;cases k)
 case h_22 c ho=>exact Ap hc cQ fD ho h hd hr hK
 case h_23 u x ho=>exact aZ (s:=Instr.makeInterface u (a.eval x)) (by simp only[execOp,ho]) (sn hc h hd hr) hK
 case h_24=>exact absurd hr (by intro k;cases k)
end
end Go.Ge
namespace Go.Ge
open RowKit
def aH(σ σ':St):Prop:=∀b bx,σ.mem b=some bx→bx.lk=true→σ'.mem b=some bx
theorem aH.refl(σ:St):aH σ σ:=fun _ _ h _=>h
theorem aH.trans{σ σ' Fo:St}(h:aH σ σ')(k:aH σ' Fo):aH σ Fo:=fun b bx hb hl=>k b bx (h b bx hb hl) hl
theorem aH.put(σ:St)(d:Nat)(v:au):aH σ (σ.put d v):=fun _ _ h _=>h
theorem aH.aD(σ:St)(d:Option Nat)(v:au):aH σ (σ.aD d v):=by cases d<;>exact fun _ _ h _=>h
theorem aH.DI{σ σ':St}(h:σ'.mem=σ.mem):aH σ σ':=fun b bx hb _=>by rw[h];exact hb
theorem ew{σ:St}{b:Nat}{bx:aR}(h:∀bT,σ.mem b=some bT→bT.lk=false):aH σ (σ.bt b bx):=fun c cx hc hl=>by
 by_cases e:c=b
 ·subst e;rw[h cx hc] at hl;cases hl
 ·rw[jL,az _ e];exact hc
theorem fP{β:Type}{σ:St}{b:Nat}{val:au}{tid:TypeId}{buf:Bool}{k:Nat→St→Tree β}{y:β}(h:(σ.ay b val tid buf k).run=some y) :
  ∃ag,aH σ (σ.bt b { val,tid,buf,ro:=false,lk:=false,ag })∧(k ag (σ.bt b { val,tid,buf,ro:=false,lk:=false,ag })).run=some y:=by
 unfold St.ay at h;split at h
 ·rename_i bx hb;cases hl:bx.lk with
  | true=>rw[hl] at h;cases h
  | false =>
    rw[hl] at h;exact⟨bx.ag+1,ew (fun bT h0=>by rw[hb] at h0;obtain rfl:=aq h0;exact hl),h⟩
 ·rename_i hb;exact⟨0,ew (fun bT h0=>by rw[hb] at h0;cases h0),h⟩
theorem rz{σ σ':St}{b:Nat}(h:freeze σ b=some σ'):aH σ σ':=by
 unfold freeze at h;split at h
 ·rename_i bx hb;cases hro:bx.ro with
  | true=>simp only[hro,gD,iX] at h;rw[←h];exact aH.refl _
  | false =>
    cases hlk:bx.lk with
    | true=>simp[hro,hlk] at h
    | false =>
      simp only[hro,hlk,eD,iX] at h;rw[←h];exact ew fun bT h0=>by rw[hb] at h0;obtain rfl:=aq h0;exact hlk
 ·cases h
theorem xd:∀{v:au} {σ σ':St},dA σ v=some σ'→aH σ σ':=by
 intro v;induction v with
 | mix p q lq kO =>
   intro σ σ' h;obtain⟨σ1,h1,h2⟩:=jX h;exact(lq h1).trans (kO h2)
 | whole b ag=>intro σ σ' h;exact rz h
 | part b ag lo n=>intro σ σ' h;exact rz h
 | _=>intro σ σ' h;obtain rfl:=aq h;exact aH.refl _
theorem gI{t:Ty}{x:t.den}{v:au}{σ σ':St}(h:kU σ t v=some (x,σ')):aH σ σ':=by
 unfold kU at h;split at h
 ·split at h
  ·obtain⟨_,rfl⟩:=bY (aq h);exact aH.refl _
  ·cases h
 ·split at h
  ·rename_i y σ1 hl hf;obtain⟨_,rfl⟩:=bY (aq h);exact xd hf
  ·cases h
theorem gX:∀{A:Ty} {x:A.den} {vs:List au} {σ σ':St},eX σ A vs=some (x,σ')→aH σ σ':=by
 intro A;induction A with
 | pair t r zS ihr =>
   intro x vs σ σ' hl;cases vs with
   | nil=>cases hl
   | cons v vs =>
     simp only[eX] at hl;split at hl
     ·rename_i p σ1 hp;split at hl
      ·rename_i q σ2 hq;obtain⟨_,rfl⟩:=bY (aq hl);exact(gI hp).trans (ihr hq)
      ·cases hl
     ·cases hl
 | unit =>
   intro x vs σ σ' hl;cases vs with
   | nil=>obtain⟨_,rfl⟩:=bY (aq hl);exact aH.refl _
   | cons v vs=>cases hl
 | _=>intro x vs σ σ' hl;cases vs<;>cases hl
theorem so{t:Ty}:∀{parts:List (Nat×Operand)} {x x':t.den} {σ σ':St},dx σ t x parts=some (x',σ')→aH σ σ':=by
 intro parts;induction parts with
 | nil=>intro x x' σ σ' h;obtain⟨_,rfl⟩:=bY (aq h);exact aH.refl _
 | cons p r ih =>
   obtain⟨k,o⟩:=p;intro x x' σ σ' h;simp only[dx] at h;split at h
   ·split at h
    ·rename_i hg;split at h
     ·exact(gI hg).trans (ih h)
     ·cases h
    ·cases h
   ·cases h
theorem mU{e:Ty}:∀{parts:List (Nat×Operand)} {l l':List e.den} {σ σ':St},dh σ e l parts=some (l',σ')→aH σ σ':=by
 intro parts;induction parts with
 | nil=>intro x x' σ σ' h;obtain⟨_,rfl⟩:=bY (aq h);exact aH.refl _
 | cons p r ih =>
   obtain⟨k,o⟩:=p;intro l l' σ σ' h;simp only[dh] at h;split at h
   ·rename_i hg;cases hlt:Nat.blt k l.length with
    | false=>rw[hlt] at h;cases h
    | true=>rw[hlt] at h;exact(gI hg).trans (ih h)
   ·cases h
theorem pS{b ag:Nat}{p:List oz}{fit:au→Bool}{u:au}{σ σ':St}(hr:(storeAt b ag p fit u σ).run=some σ'):aH σ σ':=by
 unfold storeAt at hr;split at hr
 case h_2=>exact absurd hr (by intro k;cases k)
 rename_i bx hb;obtain⟨hc,hr2⟩:=ah hr;simp only[cA,ny] at hc;obtain⟨old,hn,eu⟩:=bind_some hr2;obtain⟨hfit,fS⟩:=ah eu;obtain⟨c,hs,u7⟩:=bind_some fS;obtain rfl:=aq u7;exact ew fun bT h0=>by rw[hb] at h0;obtain rfl:=aq h0;exact hc.1.2
theorem xe{b ag:Nat}{p:List oz}{n:Nat}{u:au}{σ σ':St}(hr:(iE b ag p n u σ).run=some σ'):aH σ σ':=by
 unfold iE at hr;split at hr
 case h_2=>exact absurd hr (by intro k;cases k)
 rename_i bx hb;obtain⟨hc,hr2⟩:=ah hr;simp only[cA,ny] at hc;obtain⟨old,hn,eu⟩:=bind_some hr2;obtain⟨hfit,fS⟩:=ah eu;obtain⟨c,hs,u7⟩:=bind_some fS;obtain⟨JA,Ip⟩:=ah u7;obtain rfl:=aq Ip;exact ew fun bT h0=>by rw[hb] at h0;obtain rfl:=aq h0;exact hc.1.1.1.2
theorem tY{cx:Ctx}{bf:List Nat}{ty:TypeId}{x y:au}{σ σ':St}(hr:(fh cx bf ty x y σ).run=some σ'):aH σ σ':=by
 unfold fh at hr;split at hr
 case h_2=>exact absurd hr (by intro k;cases k)
 split at hr
 case h_2=>exact absurd hr (by intro k;cases k)
 obtain⟨aE,hr2⟩:=ah hr;obtain⟨old,hn,eu⟩:=bind_some hr2;split at eu
 ·rename_i u _;obtain⟨hT,fS⟩:=ah eu;cases hq:bN bf 8000000&&Dg u y with
  | true=>rw[hq] at fS;exact xe fS
  | false =>
  rw[hq] at fS;replace fS:(match kU σ u y with|some (y,σ)=>storeAt _ _ _ (BW u) (.data u y) σ|none=>.fail).run=some σ':=fS;split at fS
  ·rename_i hg;exact(gI hg).trans (pS fS)
  ·exact absurd fS (by intro k;cases k)
 ·obtain⟨hT,fS⟩:=ah eu;exact pS fS
theorem mo{cx:Ctx}{nb:Nat}{d:Option Nat}{ty:TypeId}{s x:au}{σ σ':St}(hr:(dM cx nb d ty s x σ).run=some σ'):aH σ σ':=by
 unfold dM at hr;split at hr
 case h_2=>exact absurd hr (by intro k;cases k)
 split at hr
 case h_2=>exact absurd hr (by intro k;cases k)
 split at hr
 ·obtain⟨hf,hr2⟩:=bu hr;obtain⟨ag,k1,k2⟩:=fP hr2;obtain rfl:=aq k2;exact k1.trans (aH.put _ _ _)
 ·split at hr
  case h_2=>exact absurd hr (by intro k;cases k)
  rename_i bx l hb hl;obtain⟨hlk,eT⟩:=lU hr;have hlk:=(Bool.or_eq_false_iff.1 hlk).1;obtain⟨hf,hr2⟩:=bu eT;obtain rfl:=aq hr2;exact(ew fun bT h0=>by rw[hb] at h0;obtain rfl:=aq h0;exact hlk).trans (aH.put _ _ _)
 ·exact absurd hr (by intro k;cases k)
theorem kP{e:Ty}{m:List e.den}{b ag:Nat}{q:List oz}{EW:Nat→Ty→Bool}{lo:Int}{σ σ':St}(hr:(eP e m b ag q EW lo σ).run=some σ'):aH σ σ':=by
 unfold eP at hr;split at hr
 case h_2=>exact absurd hr (by intro k;cases k)
 rename_i bx hb;obtain⟨hc,hr2⟩:=ah hr;simp only[cA,ny] at hc;have fin:∀{eg:aR},aH σ (σ.bt b eg):=fun {eg}=>ew fun bT h0=>by rw[hb] at h0;obtain rfl:=aq h0;exact hc.1.2
 split at hr2
 ·split at hr2
  ·split at hr2
   ·obtain rfl:=aq hr2;exact fin
   ·exact absurd hr2 (by intro k;cases k)
  ·exact absurd hr2 (by intro k;cases k)
 ·obtain⟨old,_,eu⟩:=bind_some hr2;split at eu
  ·obtain⟨_,fS⟩:=ah eu;split at fS
   ·obtain⟨c,_,u7⟩:=bind_some fS;obtain rfl:=aq u7;exact fin
   ·exact absurd fS (by intro k;cases k)
  ·exact absurd eu (by intro k;cases k)
theorem rA{e:Ty}{mf:Int→List e.den}{t:au}{σ:St}{r:Int×St}(hr:(qn e mf t σ).run=some r):aH σ r.2:=by
 unfold qn at hr;split at hr
 ·obtain⟨σ1,h1,h2⟩:=bind_some hr;obtain rfl:=aq h2;exact kP h1
 ·split at hr
  ·obtain⟨σ1,h1,h2⟩:=bind_some hr;obtain rfl:=aq h2;exact kP h1
  ·exact absurd hr (by intro k;cases k)
 ·obtain⟨σ1,h1,h2⟩:=bind_some hr;obtain rfl:=aq h2;exact kP h1
 ·exact absurd hr (by intro k;cases k)
theorem yH{mem:Nat→Option aR}:∀{o:OT} {v:au} {u:o.den} {N M:List (Nat×Nat)},bV mem o v=some (u,N,M)→∀b∈aK N M,∀bx,mem b=some bx→bx.lk=false:=by
 intro o;induction o with
 | dat t =>
   intro v u N M h;unfold bV at h;split at h
   ·cases h;intro b hb;cases hb
   ·cases h
 | buf e bX =>
   intro v u N M h;unfold bV at h;split at h
   case h_2=>cases h
   rename_i b ag;split at h
   case h_2=>cases h
   rename_i bx hb;cases hcd:(Nat.beq bx.ag ag&&bx.buf&&!bx.lk&&!bx.ro&&Nat.beq bx.tid bX&&Nat.blt 0 e.size) with
   | false=>rw[hcd] at h;cases h
   | true =>
     rw[hcd] at h;simp only[cA,ny] at hcd;simp only[gD] at h;split at h
     case h_2=>cases h
     split at h
     case h_2=>cases h
     cases h;intro c hc cx xV;have:c=b:=by simpa [aK] using hc
     subst this;rw[hb] at xV;obtain rfl:=aq xV;exact hcd.1.1.1.2
 | ref tid o ih =>
   intro v u N M h;unfold bV at h;split at h
   case h_2=>cases h
   rename_i b ag;split at h
   case h_2=>cases h
   rename_i bx hb;cases hcd:(Nat.beq bx.ag ag&&!bx.buf&&!bx.lk&&!bx.ro&&Nat.beq bx.tid tid) with
   | false=>rw[hcd] at h;cases h
   | true =>
     rw[hcd] at h;simp only[cA,ny] at hcd;simp only[gD] at h;split at h
     case h_2=>cases h
     rename_i u1 N1 M1 hr;cases h;intro c hc cx xV;unfold aK at hc;simp only[jj,zO,wG] at hc;rcases hc with rfl|hc
     ·rw[hb] at xV;obtain rfl:=aq xV;exact hcd.1.1.2
     ·exact ih hr c hc cx xV
 | pair p q lq kO =>
   intro v u N M h;unfold bV at h;split at h
   case h_2=>cases h
   split at h
   case h_2=>cases h
   rename_i x N1 M1 y N2 M2 h1 h2;cases h;intro c hc cx xV;unfold aK at hc;simp only[nN,xY] at hc;rcases hc with (hc|hc)|(hc|hc)
   ·exact lq h1 c (oQ _ hc) cx xV
   ·exact kO h2 c (oQ _ hc) cx xV
   ·exact lq h1 c (nU _ hc) cx xV
   ·exact kO h2 c (nU _ hc) cx xV
 | unit =>
   intro v u N M h;unfold bV at h;split at h
   case h_2=>cases h
   cases h;intro b hb;cases hb
theorem Ar{σ:St}:∀{ps:List Bool} {A:Ty} {U:OT} {vs:List au} {x:A.den} {u:U.den} {N M:List (Nat×Nat)},dm σ ps A U vs=some (x,u,N,M)→∀b∈aK N M,∀bx,σ.mem b=some bx→bx.lk=false:=by
 intro ps;induction ps with
 | nil =>
   intro A U vs x u N M h;cases A<;>first|(cases h;done)|skip
   cases U<;>first|(cases h;done)|skip
   cases vs with
   | cons v r=>cases h
   | nil=>cases h;intro b hb;cases hb
 | cons p ps ih =>
   intro A U vs x u N M h;cases p with
   | false =>
     cases A<;>first|(cases h;done)|skip
     cases vs with
     | nil=>cases h
     | cons v r =>
       simp only[dm] at h;split at h
       ·rename_i h2;cases h;exact ih h2
       ·cases h
   | true =>
     cases U<;>first|(cases h;done)|skip
     rename_i o U;cases o<;>first|(cases h;done)|skip
     cases vs with
     | nil=>cases h
     | cons v r =>
       simp only[dm] at h;split at h
       ·rename_i x1 N1 M1 y1 u1 N2 M2 h1 h2;cases h;intro c hc cx xV;unfold aK at hc;simp only[nN,xY] at hc;rcases hc with (hc|hc)|(hc|hc)
        ·exact yH h1 c (oQ _ hc) cx xV
        ·exact ih h2 c (oQ _ hc) cx xV
        ·exact yH h1 c (nU _ hc) cx xV
        ·exact ih h2 c (nU _ hc) cx xV
       ·cases h
theorem xg{ps:List Bool}{A:Ty}{U:OT}{vs:List au}{x:A.den}{u y:U.den}{N M:List (Nat×Nat)}{σ:St}(h:dm σ ps A U vs=some (x,u,N,M)):aH σ (eY U y N M σ):=fun b bx hb hl=>by
 rw[dJ];cases hv:dZ U y N (M.map fun p=>(p.1,p.2+1)) b with
 | none=>exact hb
 | some v =>
   have:=Ar h b (by have:=gB hv;rwa [jN] at this) bx hb;rw[hl] at this;cases this
theorem xh{s:EE}{d:Option Nat}{vals:List au}{σ σ':St}(hr:(nA s d vals σ).run=some σ'):aH σ σ':=by
 unfold nA at hr;split at hr
 ·split at hr
  case h_2=>cases hr
  split at hr
  case h_2=>cases hr
  obtain⟨_,hr2⟩:=ah hr;obtain rfl:=aq hr2;exact aH.aD _ _ _
 ·split at hr
  case h_2=>cases hr
  split at hr
  case h_2=>cases hr
  obtain⟨_,hr2⟩:=ah hr;split at hr2
  case h_2=>cases hr2
  rename_i hx HS;obtain⟨hcd,eu⟩:=ah hr2;simp only[cA,ny] at hcd;split at eu
  case h_2=>cases eu
  obtain rfl:=aq eu;exact(ew fun bT h0=>by rw[HS] at h0;obtain rfl:=aq h0;exact hcd.1.1.2).trans (aH.aD _ _ _)
 ·cases hr
theorem As{b ag:Nat}:∀{fs:List gf} {j:Nat} {σ:St} {r:au×St},(mkObj b ag fs j σ).run=some r→aH σ r.2:=by
 intro fs;induction fs with
 | nil=>intro j σ r hr;obtain rfl:=aq hr;exact aH.refl _
 | cons f q ih =>
   intro j σ r hr;cases f with
   | buf e bX =>
     obtain⟨_,eT⟩:=ah hr;obtain⟨ag,k1,k2⟩:=fP eT;obtain⟨y,h1,h2⟩:=bind_some k2;obtain rfl:=aq h2;have:=ih h1;exact k1.trans this
   | _ =>
     obtain⟨y,h1,h2⟩:=bind_some hr;obtain rfl:=aq h2;have:=ih h1;exact this
theorem xj{b:Nat}:∀{fs:List gf} {j:Nat} {v:au} {σ:St} {r:au×St},(fU b fs j v σ).run=some r→aH σ r.2:=by
 intro fs;induction fs with
 | nil =>
   intro j v σ r hr;obtain rfl:=rj hr;exact aH.refl _
 | cons f q ih =>
   intro j v σ r hr;rcases pI hr with ⟨x,u,y,rfl,h1,rfl⟩|⟨e,bX,u,rfl,he,eT⟩
   ·have:=ih h1;exact this
   ·obtain⟨ag,k1,k2⟩:=fP eT;obtain⟨y,h1,h2⟩:=bind_some k2;obtain rfl:=aq h2;have:=ih h1;exact k1.trans this
theorem yI{cx:Ctx}{inl:Nat→List au→St→Tree (au×St)}(fD:∀f vals σ v σ',(inl f vals σ).run=some (v,σ')→aH σ σ'){d:Option Nat}{f:Nat}{vals:List au}{σ σ':St}
  (hr:(kJ cx inl d f vals σ).run=some σ'):aH σ σ':=by
 unfold kJ at hr;split at hr
 ·split at hr
  ·split at hr
   ·obtain⟨y,hy,hr2⟩:=bg hr;obtain rfl:=aq hr2;exact aH.aD _ _ _
   ·exact absurd hr (by intro k;cases k)
  ·split at hr
   ·rename_i hx;obtain⟨y,hy,hr2⟩:=bg hr;obtain rfl:=aq hr2;exact(gX hx).trans (aH.aD _ _ _)
   ·exact absurd hr (by intro k;cases k)
 ·have pO:((inl f vals σ).bind fun r=>.ret (r.2.aD d r.1):Tree St).run=some σ'→aH σ σ':=by
   intro hr;obtain⟨r,eT,hr2⟩:=bind_some hr;obtain rfl:=aq hr2;exact(fD _ _ _ _ _ eT).trans (aH.aD _ _ _)
  split at hr
  ·exact xh hr
  split at hr
  ·rename_i c Ko;split at hr
   ·rename_i x u N M hx;obtain⟨_,hr⟩:=ah hr;obtain⟨y,hy,hr2⟩:=bg hr;obtain rfl:=aq hr2;exact(xg hx).trans (aH.aD _ _ _)
   ·exact pO hr
  ·exact pO hr
theorem tZ{nb:Nat}{e:Ty}{d:Option Nat}{vals:List au}{σ σ':St}(hr:(fy nb e d vals σ).run=some σ'):aH σ σ':=by
 unfold fy at hr;split at hr
 case h_2=>cases hr
 split at hr
 case h_2=>cases hr
 rename_i hg;obtain⟨_,hr⟩:=ah hr;obtain⟨_,hr⟩:=bu hr;obtain⟨ag,k1,k2⟩:=fP hr;obtain rfl:=aq k2;exact((gI hg).trans k1).trans (aH.aD _ (some _) _)
theorem xk{e A:Ty}{res:Bool}{spec:List e.den→A.den→Option (List e.den)}{d:Option Nat}{vals:List au}{σ σ':St}(hr:(iF e A res spec d vals σ).run=some σ'):aH σ σ':=by
 unfold iF at hr;split at hr
 case h_2=>cases hr
 split at hr
 case h_2=>cases hr
 rename_i hg;split at hr
 case h_2=>cases hr
 rename_i b ag bx l Gw;obtain⟨l',_,hr⟩:=bg hr;obtain⟨hb,aE,aQ,hlk,hro,de,_⟩:=jZ Gw;have key:∀eg,aH _ (St.bt _ b eg):=fun eg=>ew fun bT h0=>by rw[hb] at h0;obtain rfl:=aq h0;exact hlk
 cases res with
 | true =>
   cases d with
   | none=>cases hr
   | some k=>obtain rfl:=aq hr;exact((gX hg).trans (key _)).trans (aH.aD _ (some _) _)
 | false =>
   cases d with
   | none=>obtain⟨_,hr⟩:=ah hr;obtain rfl:=aq hr;exact((gX hg).trans (key _)).trans (aH.aD _ none _)
   | some k=>obtain⟨_,hr⟩:=ah hr;obtain rfl:=aq hr;exact((gX hg).trans (key _)).trans (aH.aD _ (some _) _)
theorem xo{cx:Ctx}{nb:Nat}{bf:List Nat}{inl:Nat→List au→St→Tree (au×St)}(fD:∀f vals σ v σ',(inl f vals σ).run=some (v,σ')→aH σ σ'){d:Option Nat}{f:Nat}{vals:List au}{σ σ':St}
  (hr:(jk cx nb bf inl d f vals σ).run=some σ'):aH σ σ':=by
 unfold jk at hr;split at hr
 ·exact tZ hr
 ·exact xk hr
 ·exact yI fD hr
end Go.Ge
