/- A ghost interpreter of the model's code, and that it tells the truth: part 5. It says of a function of plain data what a call of it comes to. -/
import Derived.Test.YtefacgohfjccgaaGreatDoorGeD
import Derived.Laws.Build
set_option linter.unusedVariables false
set_option linter.unusedSimpArgs false
set_option linter.unusedSectionVars false
namespace Go.Ge
open RowKit
def yG(P:Program)(G:jN)(inl:Nat→List aS→St→Tree (aS×St)):Prop :=
 ∀(B:tJ) (γ:Gh) (σ σ':St) (w:World) (f:Nat) (vals:List aS) (xs:Array Value) (v:aS),B.G=G→bK B γ σ.mem w→nx γ σ.mem w vals xs.toList→(inl f vals σ).run=some (v,σ') →
  (∃fn code,P.funcs[f]?=some fn∧(fn.name == "runtime.NumGoroutine")=false∧fn.body=some code)∧σ'.slots=σ.slots ∧
  Calls P f xs w fun e w'=>∃val γ',e=.returned val∧bK B γ' σ'.mem w'∧Ext B γ σ.mem w γ' σ'.mem w'∧cI γ' σ'.mem w' v .val [val]
section
variable {P:Program} {B:tJ} {N:Nat} {γ:Gh} {σ σ':St} {a:Act} {w w':World} {d:Option Nat} {cx:Ctx} {nb:Nat} {bf:List Nat} {inl:Nat→List aS→St→Tree (aS×St)}
def G9(B:tJ)(N:Nat)(γ:Gh)(σ:St)(a:Act)(w:World)(d:Option Nat)(σ':St)(K:Act→World→Prop):Prop :=
 ∀γ' v w',dB B N γ' σ' (a.put d v) w'→Ext B γ σ.mem w γ' σ'.mem w'→K (a.put d v) w'
theorem Sf{f:Nat}{fn:Func}{code:Code}(h1:P.funcs[f]?=some fn)(h2:(fn.name == "runtime.NumGoroutine")=false)(h3:fn.body=some code)(args:Array Value)(w:World) :
  (callFunc f args).run P w=.ok (.enter f args) w:=by
 have h2':¬fn.name = "runtime.NumGoroutine":=by simpa using h2
 simp[callFunc,h1,h2',h3]
theorem b5{o:Oper}{s:Sem Value}{K:Act→World→Prop}{Q:Exit→Act→World→Prop}(hs:execOp a.eval o=(do pure (.value (←s))))(h:p6 P B N γ σ a w o.dst s σ')(hK:G9 B N γ σ a w o.dst σ' K):o.wp P a w K Q:=by
 obtain⟨v,w',γ',h1,h2,h3⟩:=h;unfold Oper.wp;rw[hs];simp only[Sem.run_bind,h1,Result.andThen_ok,Sem.run_pure];exact hK γ' _ w' h2 h3
theorem QS{ops:List Operand}(h:dB B N γ σ a w):nx γ σ.mem w (ops.map (cL σ)) (ops.map a.eval):=by
 refine⟨by simp,fun i v x h1 h2=>?_⟩;rw[KY] at h1 h2;cases ho:ops[i]? with
 | none=>rw[ho] at h1;cases h1
 | some o =>
   rw[ho] at h1 h2;obtain rfl:=aN h1;obtain rfl:=aN h2;exact h.cL o
theorem nx.append{mem:Nat→Option Box}{vs us:List aS}{xs ys:List Value}(h:nx γ mem w vs xs)(k:nx γ mem w us ys):nx γ mem w (vs++us) (xs++ys):=by
 refine⟨by simp[h.1,k.1],fun i v x h1 h2=>?_⟩;rw[TO] at h1 h2;rw[h.1] at h2;split at h1
 ·rename_i hi;rw[bu hi] at h2;exact h.2 i v x h1 h2
 ·rename_i hi;rw[br hi] at h2;exact k.2 _ v x h1 h2
theorem bK.drop{mem:Nat→Option Box}{w':World}(h:bK B γ mem w){b:Nat}{dM bx:Box}(hb:mem b=some dM)(bF:dM.aC<bx.aC)(hw:xw B w w')
  (hold:∀k,k<w.heap.size→(∀c,γ.loc b≠some (k,c))→w'.heap[k]?=w.heap[k]?) (hcell:∀k o,k<w.heap.size→w'.cell? ⟨k,o,none⟩=w.cell? ⟨k,o,none⟩)
  (jt:cR (bT γ b none) (cQ mem b bx) w' b bx):bK B (bT γ b none) (cQ mem b bx) w'∧Ext B γ mem w (bT γ b none) (cQ mem b bx) w':=by
 have hx:Ext B γ mem w (bT γ b none) (cQ mem b bx) w' :=
  { below:=hw
    I:=fun _ _ x=>x
    sg:=fun _ _ x=>.inl x
    cells:=fun blk o x=>hcell blk o (h.we blk o x)
    boxes:=fun c cx hc=>by
     by_cases e:c=b
     ·subst e;obtain rfl:dM=cx:=aN (hb.symm.trans hc);exact⟨bx,bL _ _,ac3 bF,fun e=>absurd e (by omega)⟩
     ·exact⟨cx,by rw[aR _ e];exact hc,cU _,fun _=>⟨by simp[bT,e],rfl,rfl⟩⟩ }
 refine⟨?_,hx⟩;exact
  { bp:=h.GV hx
    base:=gY h.base hw.size
    boxes:=fun c cx hc=>by
     by_cases e:c=b
     ·subst e;rw[bL] at hc;obtain rfl:=aN hc;exact jt
     ·rw[aR _ e] at hc;refine(h.boxes c cx hc).keep hx (by simp[bT,e]) fun blk k hl=>hold blk (h.fresh c blk k (by rw[hc];simp) hl).2 fun k' hl'=>e ?_;exact h.inj c b blk k k' (by rw[hc];simp) (by rw[hb];simp) hl hl'
    inj:=fun c d blk k k' hc hd h1 h2=>by
     by_cases e:c=b
     ·simp only[bT,bu e] at h1;cases h1
     ·by_cases e2:d=b
      ·simp only[bT,bu e2] at h2;cases h2
      ·simp only[bT,br e] at h1;simp only[bT,br e2] at h2;rw[aR _ e] at hc;rw[aR _ e2] at hd;exact h.inj c d blk k k' hc hd h1 h2
    fresh:=fun c blk k hc h1=>by
     by_cases e:c=b
     ·simp only[bT,bu e] at h1;cases h1
     ·simp only[bT,br e] at h1;rw[aR _ e] at hc;have:=h.fresh c blk k hc h1;exact⟨this.1,GI this.2 hw.size⟩
    we:=fun blk off hi=>GI (h.we blk off hi) hw.size
    sep:=fun c cx blk k off hc h1 hi=>by
     by_cases e:c=b
     ·simp only[bT,bu e] at h1;cases h1
     ·simp only[bT,br e] at h1;rw[aR _ e] at hc;exact h.sep c cx blk k off hc h1 hi }
theorem UC{mem:Nat→Option Box}{b:Nat}{bx:Box}(h:mem b=some bx):cQ mem b bx=mem:=by
 funext i;by_cases e:i=b
 ·subst e;rw[bL,h]
 ·rw[aR _ e]
theorem Pg{f:Nat}{s:Spc}{vals:List aS}{xs:Array Value}(hs:jc P f s)(h:dB B N γ σ a w)(hd:∀k,d=some k→k<N)(hv:nx γ σ.mem w vals xs.toList)
  (hr:(D7 s d vals σ).run=some σ') {K:Act→World→Prop} (hK:G9 B N γ σ a w d σ' K) :
  (∃fn code,P.funcs[f]?=some fn∧(fn.name == "runtime.NumGoroutine")=false∧fn.body=some code)∧Calls P f xs w fun e w'=>∃v,e=.returned v∧K (a.put d v) w':=by
 unfold D7 at hr;split at hr
 ·rename_i T b aC;split at hr
  case h_2=>cases hr
  rename_i bx hb;split at hr
  case h_2=>cases hr
  rename_i b' v' u un hval;obtain⟨hcd,hr2⟩:=aD hr;obtain rfl:=aN hr2;simp only[dW,nq] at hcd;obtain⟨⟨⟨⟨⟨⟨⟨⟨c1,c2⟩,c3⟩,c4⟩,c5⟩,c6⟩,c7⟩,c8⟩,c9⟩:=hcd;have c1:=gz c1;have c5:=gz c5;have c7:=gz c7;have c8:=gz c8;have c6:0<T:=by simpa using c6
  subst c7;subst c8;obtain⟨val,rest,hxs,g1,g2⟩:=hv.cons;have rE:rest=[]:=by have:=g2.1;simpa using this
  subst rE;obtain⟨blk,cap,hl,g3⟩:=bC hb c1 g1.2;have g3:=zq g3;simp only[cP] at g3;obtain rfl:xs=#[.pointer (some ⟨blk,0,none⟩)]:=by apply Array.toList_inj.1;rw[hxs,g3]
  have jt:=h.ok.boxes b' bx hb;unfold cR at jt;rw[c2] at jt;obtain⟨dX,cap',cur,tid,fr,a1,a2,a3,a4,a5⟩:=jt;rw[hl] at a1;obtain⟨rfl,rfl⟩:=e9 (aN a1);have jb:tid=T:=by
   rcases a4 with a4|a4
   ·rw[c5] at a4;exact absurd a4 (ac4 c6)
   ·rw[a4,c5]
  subst jb;rw[hval] at a5;obtain⟨WW,WX,e1,e2,e3⟩:=a5;obtain⟨cs3,cs4,e4,e5,e6⟩:=e3;obtain⟨⟨p,rfl,hp1⟩,hp2⟩:=e2;obtain⟨q,hq⟩:∃q,cs3=[q]:=by
   cases u<;>first|(cases c9;done)|skip
   obtain⟨⟨q,hq,_⟩,_⟩:=e5;exact⟨q,hq⟩
  subst hq;obtain rfl:cs4=[]:=e6;have Ld:cur=#[p,q]:=by apply Array.toList_inj.1;rw[e1,e4];rfl
  subst Ld;obtain⟨an4,cap2,j1,j2⟩:=bC hb c1 hp2;rw[hl] at j1;obtain⟨rfl,rfl⟩:=e9 (aN j1);have j2:p=.pointer none∨p=.pointer (some ⟨blk,0,none⟩):=j2.imp zq zq;refine⟨hs.1,(hs.2 w blk p q fr a2 (a3 0 (by simp)) j2).mono fun e w' hw=>?_⟩;obtain⟨rfl,hw⟩:=hw;refine⟨_,rfl,?_⟩;have hres:∀{γ':Gh} {mem':Nat→Option Box} {w':World},cI γ' mem' w' (.FQ .nl) .val [.tuple #[]]:=fun {_ _ _}=>⟨#[],rfl,rfl⟩;rcases hw with rfl|rfl
  ·refine hK γ _ _ (h.xy hd hres) ?_;cases d<;>exact Ext.refl _ _ _ _
  ·have rF:({ bx with val:=bx.val }:Box)=bx:=by cases bx;rfl
   obtain⟨m1,m2⟩:=h.ok.write hb c4 hl a2 (cur':=#[.pointer (some ⟨blk,0,none⟩),q]) (v:=bx.val) (by simp) (by rw[rF])
    (fun w' mem' hx hg=>by
     rw[rF];unfold cR;rw[c2];refine⟨blk,cap,_,tid,fr,hl,hg,fun o ho=>a3 o (by simpa using ho),a4,?_⟩;rw[hval];refine⟨[.pointer (some ⟨blk,0,none⟩)],[q],rfl,?_,[q],[],rfl,e5.ext hx,rfl⟩;have hp3:n9 mem' b' v' fun _=>∃blk cap,γ.loc b'=some (blk,cap):=by
      obtain⟨dM,k1,k2,k3⟩:=hp2;obtain⟨iJ,q1,q2,q3⟩:=hx.boxes b' dM k1;exact⟨iJ,q1,gY k2 q2,fun _=>⟨blk,cap,hl⟩⟩
     obtain⟨iJ,q1,q2,q3⟩:=hp3;exact⟨⟨_,rfl,rfl⟩,iJ,q1,q2,fun _=>⟨blk,cap,hl,.inr rfl⟩⟩)
   rw[rF,UC hb] at m1 m2;refine hK γ _ _ (h.aW m2 m1 hd hres) ?_;cases d<;>exact m2
 ·rename_i T E b aC;split at hr
  case h_2=>cases hr
  rename_i bx hb;split at hr
  case h_2=>cases hr
  rename_i b' v' hh hv' un hval;obtain⟨hcd,hr2⟩:=aD hr;simp only[dW,nq] at hcd;obtain⟨⟨⟨⟨c1,c2⟩,c5⟩,c6⟩,c7⟩:=hcd;have c1:=gz c1;have c5:=gz c5;have c6:0<T:=by simpa using c6
  split at hr2
  case h_2=>cases hr2
  rename_i hx hhx;obtain⟨hcd,jP⟩:=aD hr2;simp only[dW,nq] at hcd;obtain⟨⟨⟨⟨d1,d2⟩,d3⟩,d4⟩,d5⟩:=hcd;have d1:=gz d1;have d4:=gz d4;have d5:0<E:=by simpa using d5
  split at jP
  case h_2=>cases jP
  rename_i l hhv;change List Int at l;obtain rfl:=aN jP;obtain⟨val,rest,hxs,g1,g2⟩:=hv.cons;have rE:rest=[]:=by have:=g2.1;simpa using this
  subst rE;obtain⟨blk,cap,hl,g3⟩:=bC hb c1 g1.2;have g3:=zq g3;simp only[cP] at g3;obtain rfl:xs=#[.pointer (some ⟨blk,0,none⟩)]:=by apply Array.toList_inj.1;rw[hxs,g3]
  have jt:=h.ok.boxes b bx hb;unfold cR at jt;rw[c2] at jt;obtain⟨dX,cap',cur,tid,fr,a1,a2,a3,a4,a5⟩:=jt;rw[hl] at a1;obtain⟨rfl,rfl⟩:=e9 (aN a1);have jb:tid=T:=by
   rcases a4 with a4|a4
   ·rw[c5] at a4;exact absurd a4 (ac4 c6)
   ·rw[a4,c5]
  subst jb;rw[hval] at a5;obtain⟨WW,WX,e1,e2,e3⟩:=a5;obtain⟨cs3,cs4,e4,e5,e6⟩:=e3;obtain⟨⟨p,rfl,hp1⟩,hp2⟩:=e2;obtain⟨⟨q,rfl,hq1⟩,hq2⟩:=e5;obtain rfl:cs4=[]:=e6;have Ld:cur=#[p,q]:=by apply Array.toList_inj.1;rw[e1,e4];rfl
  subst Ld;obtain⟨e',n',k1,k2,k3⟩:=bC hhx d1 hq2;rw[Box.dZ d2 hhv] at k2;obtain⟨rfl,rfl⟩:=e9 (aN k2);have ah6:=h.ok.boxes hh hx hhx;unfold cR at ah6;rw[d2] at ah6;obtain⟨e3,l3,q1,q2,q3⟩:=ah6;rw[hhv] at q1;cases q1;have hlen:(bt l).length=l.length:=by simp[bt]
  let hx':Box:={ hx with val:=.data (.slice (.int .u8)) ([]:List Int),aC:=hx.aC+1 }
  have key:∃og:Option Nat,(∀k,og=some k→∃c,γ.loc hh=some (k,c))∧l.length≤maxLen ∧
    ((og=none∧q=.slice none 0 0∧bt l=[])∨∃(g cap:Nat) (cur:Array Value) (fr':Nat×Nat),og=some g∧q=.slice (some ⟨g,0,none⟩) (bt l).length cap∧w.heap[g]?=some (.cells cur E fr')∧(bt l).length≤cap∧cap≤maxLen∧cur.size=cap∧∀(j:Nat) (x:UInt8),(bt l)[j]?=some x→cur[j]?=some (Value.int .u8 x.toNat)):=by
   rcases k3 with ⟨k3,k4⟩|⟨g,ah7,k3,k4⟩
   ·rcases q3 with ⟨_,q3⟩|⟨_,_,_,_,_,q3,_⟩
    ·subst q3;exact⟨none,(fun k hk=>by cases hk),rT _,.inl ⟨rfl,zq k4,rfl⟩⟩
    ·rw[k3] at q3;cases q3
   ·rcases q3 with ⟨q3,_⟩|⟨g',ank,ah8,alM,frg,q3,q4,q5,q6,q7,q8,q9,q10⟩
    ·rw[k3] at q3;cases q3
    ·rw[k3] at q3;obtain⟨rfl,rfl⟩:=e9 (aN q3);have htg:alM=E:=by
      rcases q6 with q6|q6
      ·rw[d4] at q6;exact absurd q6 (ac4 d5)
      ·rw[q6,d4]
     subst htg;have ajM:(Ty.int IntKind.u8).size=1:=rfl;have q7':l.length≤ah7:=q7;refine⟨some g,fun k hk=>⟨ah7,by rw[k3,aN hk]⟩,gY q7' q8,.inr ⟨g,ah7,ah8,frg,rfl,?_,q4,by omega,q8,by rw[q9,ajM,EV],fun j x hj=>?_⟩⟩
     ·rw[hlen];exact zq k4
     ·simp only[bt,KY,Option.map_eq_some_iff] at hj;obtain⟨y,hy,rfl⟩:=hj;obtain⟨r1,r2,r3⟩:=q10 j y hy;rw[ajM,EV] at r1;have hmin:(IntKind.u8).min=0:=by decide
      have hmax:(IntKind.u8).max=255:=by decide
      have r2':0≤y:=by have:=r2;rw[hmin] at this;exact this
      have r3':y≤255:=by have:=r3;rw[hmax] at this;exact this
      have hcell:ah8.toList[j]?=some (.int .u8 y):=by
       have:((ah8.toList.drop j).take 1)[0]?=some (.int .u8 y):=by rw[r1];rfl
       simpa [gN,nW] using this
      have hy2:((UInt8.ofNat y.toNat).toNat:Int)=y:=by
       rw[UInt8.toNat_ofNat'];have:y.toNat<256:=by omega
       rw[Nat.mod_eq_of_lt (by simpa using this)];omega
      rw[hy2];simpa using hcell
  obtain⟨og,hog,hlm,hk⟩:=key;refine⟨hs.1,(hs.2 w blk p q fr (bt l) og a2 hk).mono fun e w' hw=>?_⟩;obtain⟨rfl,hw⟩:=hw;refine⟨_,rfl,?_⟩;have alN:xw B w w':=⟨hw.os,hw.tape,hw.output,hw.size,fun k hk=>by
   rcases xe k w.heap.size with hlt|hge
   ·refine hw.block k hlt fun e=>hk ?_;obtain⟨c,hc⟩:=hog k e;exact(h.ok.fresh hh k c (by rw[hhx];simp) hc).1
   ·exact absurd (.inl (gY h.ok.base hge)) hk⟩
  have alO:cR (bT γ hh none) (cQ σ.mem hh hx') w' hh hx':=by
   unfold cR;rw[show hx'.buf=true from d2];exact⟨.int .u8,[],rfl,q2,.inl ⟨by simp[bT],rfl⟩⟩
  obtain⟨m1,m2⟩:=h.ok.drop (bx:=hx') hhx (T7 _) alN (fun k hk hn=>hw.block k hk fun e=>by obtain⟨c,hc⟩:=hog k e;exact hn c hc) hw.cell alO;refine hK (bT γ hh none) _ w' (h.aW m2 m1 hd (v:=.data .str (bt l)) (val:=.string ⟨(bt l).toArray⟩) ?_) ?_
  ·exact⟨[.string ⟨(bt l).toArray⟩],⟨rfl,by rw[hlen];exact hlm⟩,rfl⟩
  ·cases d<;>exact m2
 ·cases hr
theorem Sg(eS:rD P B.G cx)(ny:yG P B.G inl){f:Nat}{vals:List aS}{xs:Array Value}(h:dB B N γ σ a w)(hd:∀k,d=some k→k<N)(hv:nx γ σ.mem w vals xs.toList)
  (hr:(zB cx inl d f vals σ).run=some σ') {K:Act→World→Prop} (hK:G9 B N γ σ a w d σ' K) :
  (∃fn code,P.funcs[f]?=some fn∧(fn.name == "runtime.NumGoroutine")=false∧fn.body=some code)∧Calls P f xs w fun e w'=>∃v,e=.returned v∧K (a.put d v) w':=by
 unfold zB at hr;split at hr
 ·rename_i c hcf;have hh:=eS.cT f c hcf;refine⟨hh.body,?_⟩;split at hr
  ·rename_i ajO;split at hr
   ·rename_i x hx;obtain⟨y,hy,hr2⟩:=cl hr;obtain rfl:=aN hr2;have hargs:=Pe (I':=fun b o=>b<w.heap.size) h.ok (fun b o hi=>h.ok.we b o hi) (fun b o _ hb=>hb) hv hx;refine(hh.calls (fun b o=>b<w.heap.size) w xs x y (fun b o hb=>hb) h.ok.RY hargs hy).mono fun e w' hw=>?_;obtain⟨v,I',h1,h2,h3,h4,h5,h6⟩:=hw;refine⟨v,h1,?_⟩;obtain⟨m1,m2⟩:=h.ok.far (I':=γ.I) h2 (fun _ _ hi=>hi) (fun b o hi=>GI (h.ok.we b o hi) h2.size) (fun b o hi hn=>absurd hi hn);refine hK γ _ w' (h.aW m2 m1 hd (h6.flat ajO)) ?_;cases d<;>exact m2
   ·exact absurd hr (by intro k;cases k)
  ·split at hr
   ·rename_i x σ1 hx;obtain⟨y,hy,hr2⟩:=cl hr;obtain rfl:=aN hr2;obtain⟨jC,s1,s2,s3⟩:=uy h hv hx;refine(hh.calls jC.I w xs x y (fun b o hi=>s1.ok.we b o hi) s1.ok.RY s3 hy).mono fun e w' hw=>?_;obtain⟨v,I',h1,h2,h3,h4,h5,h6⟩:=hw;refine⟨v,h1,?_⟩;obtain⟨m1,m2⟩:=s1.ok.far (I':=I') h2 h3 h4 h5;refine hK ⟨I',jC.loc⟩ _ w' (s1.aW m2 m1 hd (h6.rep (fun _ _ hi=>hi))) ?_;cases d<;>exact s2.trans m2
   ·exact absurd hr (by intro k;cases k)
 ·rename_i hcf;have He:((inl f vals σ).bind fun r=>.ret (r.2.aW d r.1):Tree St).run=some σ'→(∃fn code,P.funcs[f]?=some fn∧(fn.name == "runtime.NumGoroutine")=false∧fn.body=some code)∧Calls P f xs w fun e w'=>∃v,e=.returned v∧K (a.put d v) w':=by
   intro hr;obtain⟨r,kW,hr2⟩:=bind_some hr;obtain rfl:=aN hr2;obtain⟨v0,kU⟩:=r;obtain⟨hb,hsl,MX⟩:=ny B γ σ kU w f vals xs v0 rfl h.ok hv kW;refine⟨hb,MX.mono fun e w' hw=>?_⟩;obtain⟨v,γ',h1,h2,h3,h4⟩:=hw;refine⟨v,h1,?_⟩;have hs0:kU={ slots:=σ.slots,mem:=kU.mem }:=by cases kU;simp only at hsl;subst hsl;rfl
   rw[hs0] at hK;refine hK γ' _ w' (h.aW h3 h2 hd h4) ?_;cases d<;>exact h3
  split at hr
  ·rename_i s hcs;exact Pg (eS.WL f s hcs) h hd hv hr hK
  split at hr
  ·rename_i c hcr;split at hr
   ·rename_i x u ns hx;obtain⟨y,hy,hr2⟩:=cl hr;obtain rfl:=aN hr2;have hh:=eS.bA f c hcr;obtain⟨bs,g1,g2,g3⟩:=Pf h.ok hv hx;have hfree:∀blk∈bs,∀o,¬γ.I blk o:=fun blk hb o hi=>by
     obtain⟨b,bx,k,j1,j2,j3,j4⟩:=g2.MW blk hb;have:=(h.ok.sep b bx blk k o j2 j4 hi).1;rw[j3] at this;cases this
    refine⟨hh.body,(hh.calls γ.I w xs bs x u y (fun b o hi=>h.ok.we b o hi) h.ok.RY (fun b Q g hb=>by
     obtain⟨n,bx,k,j1,j2,j3,j4⟩:=g2.MW b hb;exact(h.ok.bp b Q g).1 (h.ok.fresh n b k (by rw[j2];simp) j4).1) g1 g3 (g2.nodup h.ok) hfree hy).mono fun e w' hw=>?_⟩
    obtain⟨v,I',h1,h2,h3,h4,h5,h6,h7⟩:=hw;refine⟨v,h1,?_⟩;obtain⟨m1,m2⟩:=h.ok.refs g2 h2 h3 h4 h5 h7;have hs:wz c.U y.2 ns σ={ slots:=σ.slots,mem:=(wz c.U y.2 ns σ).mem }:=rfl;refine hK ⟨I',γ.loc⟩ _ w' (by rw[hs];exact h.aW m2 m1 hd (h6.rep (fun _ _ hi=>hi))) ?_;cases d<;>exact m2
   ·exact He hr
  ·exact He hr
theorem bK.Xc{mem:Nat→Option Box}{w':World}(h:bK B γ mem w){b:Nat}{iJ:Box}{e:Ty}{l':List e.den}{L:Option (Nat×Nat)}{X:Nat→Prop}{I':Nat→Nat→Prop}{v:Value}
  (hX:∀k,X k→∃dM c,mem b=some dM∧dM.ro=false∧γ.loc b=some (k,c)) (hw:lX w γ.I X w' I') (hown:yF w' I' e l' L v) (hLX:∀blk c,L=some (blk,c)→X blk∨w.heap.size≤blk)
  (bF:∀dM,mem b=some dM→dM.aC<iJ.aC∨(dM.aC=iJ.aC∧L=γ.loc b∧iJ.buf=dM.buf∧iJ.row=dM.row)) (hval:iJ.val=.data (.slice e) l') (bO:iJ.buf=true) (jb:iJ.tid=0) (he:0<e.size) :
  let γ':Gh:=⟨I',fun i=>if i=b then L else γ.loc i⟩
  bK B γ' (cQ mem b iJ) w'∧Ext B γ mem w γ' (cQ mem b iJ) w':=by
 intro γ';have hsame:∀k,k<w.heap.size→¬X k→w'.heap[k]?=w.heap[k]?:=fun k hk hb=>hw.below.block k fun q=>by
  rcases q with q|q
  ·have:w.heap.size≤k:=q;omega
  ·exact hb q
 have hfree:∀k,X k→∀o,¬γ.I k o:=fun k hk o hi=>by
  obtain⟨dM,c,h1,h2,h3⟩:=hX k hk;have:=(h.sep b dM k c o h1 h3 hi).1;rw[h2] at this;cases this
 have ah3:∀k,¬B.has k→k<w.heap.size:=fun k hk=>T4 fun q=>hk (.inl (gY h.base q));have ahz:∀k,X k→B.has k∧k<w.heap.size:=fun k hk=>by
  obtain⟨dM,c,h1,h2,h3⟩:=hX k hk;exact h.fresh b k c (by rw[h1];simp) h3
 have hx:Ext B γ mem w γ' (cQ mem b iJ) w' :=
  { below:=⟨hw.below.os,hw.below.tape,hw.below.output,hw.below.size,fun k hk=>hsame k (ah3 k hk) fun hb=>hk (ahz k hb).1⟩
    I:=hw.held
    sg:=fun b o x=>by
     by_cases hi:γ.I b o
     ·exact .inl hi
     ·exact .inr (.inl (gY h.base (hw.sg b o x hi)))
    cells:=fun b o hi=>dF (hsame b (h.we b o hi) fun hb=>hfree b hb o hi)
    boxes:=fun c cx hc=>by
     by_cases e1:c=b
     ·subst e1;refine⟨iJ,bL _ _,?_,fun e2=>?_⟩
      ·rcases bF cx hc with q|q
       ·exact ac3 q
       ·exact O4 q.1
      ·rcases bF cx hc with q|q
       ·omega
       ·exact⟨by simp[γ',q.2.1],q.2.2⟩
     ·exact⟨cx,by rw[aR _ e1];exact hc,cU _,fun _=>⟨by simp[γ',e1],rfl,rfl⟩⟩ }
 have ajP:∀blk c,L=some (blk,c)→blk<w'.heap.size∧∀o,¬I' blk o:=fun blk c hl=>by
  rcases hown with ⟨q,_⟩|⟨dX,cap,cur,tid,fr,q1,q2,q3,q4,q5,q6,q7,q8,q9⟩
  ·rw[q] at hl;cases hl
  ·rw[q1] at hl;obtain⟨rfl,rfl⟩:=e9 (aN hl);exact⟨(Array.getElem?_eq_some_iff.1 q3).1,q8⟩
 have hne:∀{c d:Nat},c≠b→cQ mem b iJ c≠none→mem c≠none:=fun hc hm=>by rwa [aR _ hc] at hm
 have zC:∀{d blk k c:Nat},d≠b→mem d≠none→L=some (blk,k)→γ.loc d=some (blk,c)→False:=fun {d blk k c} hd hm hl h2=>by
  rcases hLX blk k hl with hx1|hx1
  ·obtain⟨dM,c0,j1,j2,j3⟩:=hX blk hx1;exact hd (h.inj d b blk c c0 hm (by rw[j1];simp) h2 j3)
  ·have:=(h.fresh d blk c hm h2).2;omega
 refine⟨?_,hx⟩;exact
  { bp:=h.GV hx
    base:=gY h.base hw.below.size
    boxes:=fun c cx hc=>by
     by_cases e1:c=b
     ·subst e1;rw[bL] at hc;obtain rfl:=aN hc;unfold cR;rw[bO];refine⟨e,l',hval,he,?_⟩;rcases hown with ⟨q1,q2,q3⟩|⟨dX,cap,cur,tid,fr,q1,q2,q3,q4,q5,q6,q7,q8,q9⟩
      ·exact .inl ⟨by simp[γ',q1],q2⟩
      ·exact .inr ⟨dX,cap,cur,tid,fr,by simp[γ',q1],q3,q4,.inl jb,q5,q6,q7,q9⟩
     ·rw[aR _ e1] at hc;refine(h.boxes c cx hc).keep hx (by simp[γ',e1]) fun blk k hl=>hsame blk (h.fresh c blk k (by rw[hc];simp) hl).2 fun hx1=>?_;obtain⟨dM,c0,j1,j2,j3⟩:=hX blk hx1;exact e1 (h.inj c b blk k c0 (by rw[hc];simp) (by rw[j1];simp) hl j3)
    inj:=fun c d blk k k' hc hd h1 h2=>by
     by_cases e1:c=b
     ·by_cases e2:d=b
      ·rw[e1,e2]
      ·exfalso;simp only[γ',bu e1] at h1;simp only[γ',br e2] at h2;exact zC e2 (hne (d:=0) e2 hd) h1 h2
     ·by_cases e2:d=b
      ·exfalso;simp only[γ',br e1] at h1;simp only[γ',bu e2] at h2;exact zC e1 (hne (d:=0) e1 hc) h2 h1
      ·simp only[γ',br e1] at h1;simp only[γ',br e2] at h2;exact h.inj c d blk k k' (hne (d:=0) e1 hc) (hne (d:=0) e2 hd) h1 h2
    fresh:=fun c blk k hc h1=>by
     by_cases e1:c=b
     ·simp only[γ',bu e1] at h1;refine⟨?_,(ajP blk k h1).1⟩;rcases hLX blk k h1 with q|q
      ·exact(ahz blk q).1
      ·exact .inl (gY h.base q)
     ·simp only[γ',br e1] at h1;have:=h.fresh c blk k (hne (d:=0) e1 hc) h1;exact⟨this.1,GI this.2 hw.below.size⟩
    we:=hw.we
    sep:=fun c cx blk k off hc h1 hi=>by
     by_cases e1:c=b
     ·simp only[γ',bu e1] at h1;exact absurd hi ((ajP blk k h1).2 off)
     ·simp only[γ',br e1] at h1;rw[aR _ e1] at hc;by_cases hi0:γ.I blk off
      ·exact h.sep c cx blk k off hc h1 hi0
      ·have h3:=hw.sg blk off hi hi0;have h2:=(h.fresh c blk k (by rw[hc];simp) h1).2;omega }
theorem yF.rep{I:Nat→Nat→Prop}{loc:Nat→Option (Nat×Nat)}{mem:Nat→Option Box}{w:World}{e:Ty}{l:List e.den}{L:Option (Nat×Nat)}{v:Value}{b aC:Nat}{bx:Box}(h:yF w I e l L v)
  (Xd:loc b=L) (hb:mem b=some bx) (bF:bx.aC=aC) (bO:bx.buf=true) (hval:bx.val=.data (.slice e) l):cI ⟨I,loc⟩ mem w (.whole b aC) .val [v]:=by
 rcases h with ⟨q1,q2,q3⟩|⟨dX,cap,cur,tid,fr,q1,q2,q3,q4,q5,q6,q7,q8,q9⟩
 ·exact⟨⟨v,rfl,by rw[q3];rfl⟩,iP hb bF ⟨e,l.length,bO,Box.dZ bO hval,.inl ⟨by rw[←q1];exact Xd,by rw[q3]⟩⟩⟩
 ·exact⟨⟨v,rfl,by rw[q2];rfl⟩,iP hb bF ⟨e,l.length,bO,Box.dZ bO hval,.inr ⟨dX,cap,by rw[←q1];exact Xd,by rw[q2]⟩⟩⟩
theorem adw{mem:Nat→Option Box}(h:bK B γ mem w){b aC:Nat}{bx:Box}{e:Ty}{l:List e.den}{v:Value}(hb:mem b=some bx)(bF:bx.aC=aC)(bO:bx.buf=true)(hro:bx.ro=false)(hval:bx.val=.data (.slice e) l)
  (hv:cI γ mem w (.whole b aC) .val [v]):yF w γ.I e l (γ.loc b) v∧0<e.size:=by
 obtain⟨e',n,k1,k2,k3⟩:=bC hb bF hv.2;rw[Box.dZ bO hval] at k2;obtain⟨rfl,rfl⟩:=e9 (aN k2);have jt:=h.boxes b bx hb;unfold cR at jt;rw[bO] at jt;obtain⟨e3,l3,q1,q2,q3⟩:=jt;rw[hval] at q1;cases q1;refine⟨?_,q2⟩;rcases q3 with ⟨q3,q4⟩|⟨blk,cap,cur,tid,fr,q3,q4,q5,q6,q7,q8,q9,q10⟩
 ·rcases k3 with ⟨k3,k4⟩|⟨dX,cap',k3,k4⟩
  ·exact .inl ⟨k3,q4,zq k4⟩
  ·rw[q3] at k3;cases k3
 ·rcases k3 with ⟨k3,k4⟩|⟨dX,cap',k3,k4⟩
  ·rw[q3] at k3;cases k3
  ·rw[q3] at k3;obtain⟨rfl,rfl⟩:=e9 (aN k3);refine .inr ⟨blk,cap,cur,tid,fr,q3,zq k4,q4,q5,q7,q8,q9,fun o hi=>?_,q10⟩;have:=(h.sep b bx blk cap o hb q3 hi).1;rw[hro] at this;cases this
theorem vh{e:Ty}{v:aS}{b aC:Nat}{bx:Box}{l:List e.den}(h:Bd e σ v=some (b,aC,bx,l)):σ.mem b=some bx∧bx.aC=aC∧bx.buf=true∧bx.lk=false∧bx.ro=false∧bx.tid=0 ∧
  ∃l0:List e.den,bx.val=.data (.slice e) l0∧((v=.whole b aC∧l=l0)∨∃n,v=.part b aC 0 n∧l=sub l0 0 n):=by
 unfold Bd at h;split at h
 ·rename_i b0 af7;split at h
  ·rename_i dM hb;cases hc:(Nat.beq dM.aC af7&&dM.buf&&!dM.lk&&!dM.ro&&Nat.beq dM.tid 0) with
   | false=>rw[hc] at h;cases h
   | true =>
     rw[hc] at h;simp only[dW,nq] at hc;simp only[gp] at h;split at h
     ·rename_i u l0 hval;split at h
      ·rename_i l1 hl;obtain⟨q,hq⟩:=mC hl;subst q;subst hq;cases h;exact⟨hb,gz hc.1.1.1.1,hc.1.1.1.2,hc.1.1.2,hc.1.2,gz hc.2,_,hval,.inl ⟨rfl,rfl⟩⟩
      ·cases h
     ·cases h
  ·cases h
 ·rename_i b0 af7 lo n;split at h
  ·rename_i dM hb;cases hc:(Nat.beq dM.aC af7&&dM.buf&&!dM.lk&&!dM.ro&&Nat.beq dM.tid 0&&decide (lo=0)) with
   | false=>rw[hc] at h;cases h
   | true =>
     rw[hc] at h;simp only[dW,nq,nY] at hc;simp only[gp] at h;split at h
     ·rename_i u l0 hval;split at h
      ·rename_i l1 hl;obtain⟨q,hq⟩:=mC hl;subst q;subst hq;cases h;have h0:=hc.2;subst h0;exact⟨hb,gz hc.1.1.1.1.1,hc.1.1.1.1.2,hc.1.1.1.2,hc.1.1.2,gz hc.1.2,_,hval,.inr ⟨n,rfl,rfl⟩⟩
      ·cases h
     ·cases h
  ·cases h
 ·cases h
theorem Xe{mem:Nat→Option Box}(h:bK B γ mem w){b aC:Nat}{bx:Box}{e:Ty}{l:List e.den}{n:Int}{v:Value}(hb:mem b=some bx)(bF:bx.aC=aC)(bO:bx.buf=true)(hro:bx.ro=false)(hval:bx.val=.data (.slice e) l)
  (hv:cI γ mem w (.part b aC 0 n) .val [v]):yF w γ.I e (sub l 0 n) (γ.loc b) v∧0<e.size:=by
 obtain⟨e',k,k2,k3,k4,k5,base,cap',k6,k7,k8,kF,k9⟩:=bC hb bF hv.2;rw[Box.dZ bO hval] at k2;obtain⟨rfl,rfl⟩:=e9 (aN k2);have jt:=h.boxes b bx hb;unfold cR at jt;rw[bO] at jt;obtain⟨e3,l3,q1,q2,q3⟩:=jt;rw[hval] at q1;cases q1;refine⟨?_,q2⟩;obtain k6:=zq k6;have hlen:(sub l 0 n).length=n.toNat:=by
  have:n.toNat≤l.length:=by omega
  simp only[sub,cW,qV];omega
 rcases kF.2 rfl bO with ⟨z1,rfl,rfl⟩|⟨blk,z1,rfl⟩
 ·rcases q3 with ⟨q3,q4⟩|⟨blk,cap,cur,tid,fr,q3,_⟩
  ·subst q4;have:n.toNat=0:=by omega
   exact .inl ⟨z1,by simp[sub],by rw[k6,this]⟩
  ·rw[z1] at q3;cases q3
 ·rcases q3 with ⟨q3,q4⟩|⟨dX,cap,cur,tid,fr,q3,q4,q5,q6,q7,q8,q9,q10⟩
  ·rw[z1] at q3;cases q3
  ·rw[z1] at q3;obtain⟨rfl,rfl⟩:=e9 (aN q3);refine .inr ⟨blk,cap',cur,tid,fr,z1,by rw[hlen];exact k6,q4,q5,by rw[hlen];omega,q8,q9,fun o hi=>?_,fun i x hx=>q10 i x ?_⟩
   ·have:=(h.sep b bx blk cap' o hb z1 hi).1;rw[hro] at this;cases this
   ·have hx':((l.drop (0:Int).toNat).take n.toNat)[i]?=some x:=hx;rw[gN] at hx';split at hx'
    ·simpa using hx'
    ·cases hx'
theorem QT{e:Ty}{v:aS}{b aC:Nat}{bx:Box}{l:List e.den}{val:Value}(hm:bK B γ σ.mem w)(h:Bd e σ v=some (b,aC,bx,l))(hv:cI γ σ.mem w v .val [val]):yF w γ.I e l (γ.loc b) val∧0<e.size:=by
 obtain⟨hb,bF,bO,hlk,hro,jb,l0,hval,adx⟩:=vh h;rcases adx with ⟨rfl,rfl⟩|⟨n,rfl,rfl⟩
 ·exact adw hm hb bF bO hro hval hv
 ·exact Xe hm hb bF bO hro hval hv
theorem yH{f:Nat}{s:Spc}(h:zA cx bf d f=some s):find cx.WL f=some s:=by
 unfold zA at h;split at h
 ·rename_i e he;split at h
  ·obtain rfl:=aN h;exact he
  ·cases h
 ·rename_i he;obtain rfl:=aN h;exact he
 ·cases h
theorem Lf{f:Nat}{e:Ty}{vals:List aS}{xs:Array Value}(hs:jc P f (.clone e))(h:dB B N γ σ a w)(hd:∀k,d=some k→k<N)(hv:nx γ σ.mem w vals xs.toList)
  (hr:(mT nb e d vals σ).run=some σ') {K:Act→World→Prop} (hK:G9 B N γ σ a w d σ' K) :
  (∃fn code,P.funcs[f]?=some fn∧(fn.name == "runtime.NumGoroutine")=false∧fn.body=some code)∧Calls P f xs w fun e w'=>∃v,e=.returned v∧K (a.put d v) w':=by
 unfold mT at hr;split at hr
 case h_2=>cases hr
 rename_i k x;split at hr
 case h_2=>cases hr
 rename_i l σ1 hg;change List e.den at l;obtain⟨he,hr⟩:=aD hr;have he:0<e.size:=by simpa using he
 obtain⟨hfit,hr⟩:=cF hr;obtain⟨aC,bF,hr2⟩:=eE hr;obtain rfl:=aN hr2;obtain⟨val,rest,hxs,g1,g2⟩:=hv.cons;have rE:rest=[]:=by have:=g2.1;simpa using this
 subst rE;obtain⟨jC,s1,s2,cs,c1,c2⟩:=oc h g1 hg;have c2:=zq c2;refine⟨hs.1,(hs.2 jC.I w xs l (fun b o hi=>s1.ok.we b o hi) ⟨cs,[],by rw[hxs,c2],c1,rfl⟩ hfit).mono fun q w' hw=>?_⟩;obtain⟨v,I',L,rfl,h1,h2,h3⟩:=hw;refine⟨v,rfl,?_⟩;obtain⟨m1,m2⟩:=s1.ok.Xc (b:=nb+k) (iJ:={ val:=.data (.slice e) l,tid:=0,buf:=true,ro:=false,lk:=false,aC }) (fun _ hf=>hf.elim) h1 h2 (fun blk c hl=>.inr (h3 blk c hl))
  (fun dM h0=>.inl (bF dM h0)) rfl rfl rfl he
 exact hK _ _ w' (s1.step m2 m1 (hd k rfl) (h2.rep (by simp) (bL _ _) rfl rfl rfl)) (s2.trans m2)
theorem Ph{f:Nat}{e A:Ty}{res:Bool}{spec:List e.den→A.den→Option (List e.den)}{vals:List aS}{xs:Array Value}(hs:jc P f (.own e A res spec))(h:dB B N γ σ a w)(hd:∀k,d=some k→k<N)(hv:nx γ σ.mem w vals xs.toList)
  (hr:(uu e A res spec d vals σ).run=some σ') {K:Act→World→Prop} (hK:G9 B N γ σ a w d σ' K) :
  (∃fn code,P.funcs[f]?=some fn∧(fn.name == "runtime.NumGoroutine")=false∧fn.body=some code)∧Calls P f xs w fun e w'=>∃v,e=.returned v∧K (a.put d v) w':=by
 unfold uu at hr;split at hr
 case h_2=>cases hr
 rename_i v0 vs;split at hr
 case h_2=>cases hr
 rename_i x σ1 hg;split at hr
 case h_2=>cases hr
 rename_i b aC bx l hor;obtain⟨l',hspec,hr⟩:=cl hr;obtain⟨hb,bF,bO,hlk,hro,jb,l0,hval,adx⟩:=vh hor;obtain⟨val,rest,hxs,g1,g2⟩:=hv.cons;obtain⟨jC,s1,s2,hargs⟩:=uy h g2 hg;obtain⟨hown,he⟩:=QT s1.ok hor (g1.ext s2);refine⟨hs.1,(hs.2 jC.I w xs val rest l l' (jC.loc b) x (fun b o hi=>s1.ok.we b o hi) hxs hown hargs hspec).mono fun q w' hw=>?_⟩;obtain⟨I',h1,h2⟩:=hw;have hX:∀k,(∃c,jC.loc b=some (k,c))→∃dM c,σ1.mem b=some dM∧dM.ro=false∧jC.loc b=some (k,c):=fun k ⟨c,hc⟩=>⟨bx,c,hb,hro,hc⟩;cases res with
 | true =>
   cases d with
   | none=>cases hr
   | some k =>
     obtain rfl:=aN hr;obtain⟨v',L',rfl,h3,h4⟩:=h2;refine⟨v',rfl,?_⟩;obtain⟨m1,m2⟩:=s1.ok.Xc (b:=b) (iJ:={ bx with val:=.data (.slice e) l',aC:=aC+1 }) hX h1 h3 h4 (fun dM h0=>by
      rw[hb] at h0;obtain rfl:=aN h0;exact .inl (by simp[bF])) rfl bO jb he
     exact hK _ _ w' (s1.step m2 m1 (hd k rfl) (h3.rep (by simp) (bL _ _) rfl bO rfl)) (s2.trans m2)
 | false =>
   have hr':LU v0=true∧σ'=(σ1.cm b { bx with val:=.data (.slice e) l' }).aW d (.FQ .nl):=by
    cases d with
    | none=>obtain⟨q1,q2⟩:=aD hr;exact⟨q1,(aN q2).symm⟩
    | some k=>obtain⟨q1,q2⟩:=aD hr;exact⟨q1,(aN q2).symm⟩
   obtain⟨hwh,rfl⟩:=hr';obtain rfl:l=l0:=by
    rcases adx with ⟨_,q⟩|⟨n,rfl,_⟩
    ·exact q
    ·cases hwh
   obtain⟨rfl,hlen,h3⟩:=h2;refine⟨_,rfl,?_⟩;obtain⟨m1,m2⟩:=s1.ok.Xc (b:=b) (iJ:={ bx with val:=.data (.slice e) l' }) hX h1 h3 (fun blk c hl=>.inl ⟨c,hl⟩) (fun dM h0=>by
    rw[hb] at h0;obtain rfl:=aN h0;exact .inr ⟨rfl,rfl,rfl,by rw[Box.dZ bO hval,Box.dZ (bx:={ bx with val:=.data (.slice e) l' }) bO rfl,hlen]⟩) rfl bO jb he
   refine hK _ _ w' (s1.aW m2 m1 hd (v:=.FQ .nl) (val:=.tuple #[]) ⟨#[],rfl,rfl⟩) ?_;cases d<;>exact s2.trans m2
theorem Pj(eS:rD P B.G cx)(ny:yG P B.G inl){f:Nat}{vals:List aS}{xs:Array Value}(h:dB B N γ σ a w)(hd:∀k,d=some k→k<N)(hv:nx γ σ.mem w vals xs.toList)
  (hr:(wA cx nb bf inl d f vals σ).run=some σ') {K:Act→World→Prop} (hK:G9 B N γ σ a w d σ' K) :
  (∃fn code,P.funcs[f]?=some fn∧(fn.name == "runtime.NumGoroutine")=false∧fn.body=some code)∧Calls P f xs w fun e w'=>∃v,e=.returned v∧K (a.put d v) w':=by
 unfold wA at hr;split at hr
 ·rename_i e he;exact Lf (eS.WL f _ (yH he)) h hd hv hr hK
 ·rename_i e A r s he;exact Ph (eS.WL f _ (yH he)) h hd hv hr hK
 ·exact Sg eS ny h hd hv hr hK
theorem MY{o:Oper}{f:Nat}{xs:Array Value}{K:Act→World→Prop}{Q:Exit→Act→World→Prop}(hs:(execOp a.eval o).run P w=(callFunc f xs).run P w)
  (h:(∃fn code,P.funcs[f]?=some fn∧(fn.name == "runtime.NumGoroutine")=false∧fn.body=some code)∧Calls P f xs w fun e w'=>∃v,e=.returned v∧K (a.put o.dst v) w'):o.wp P a w K Q:=by
 obtain⟨⟨fn,code,h1,h2,h3⟩,hc⟩:=h;unfold Oper.wp;rw[hs,Sf h1 h2 h3];refine hc.mono fun e w' hw=>?_;obtain⟨v,rfl,hk⟩:=hw;exact hk
theorem UD(hc:gA P cx){t ty:TypeId}{v:aS}{x:Value}{n:Int}(hm:bK B γ σ.mem w)(hv:cI γ σ.mem w v .val [x])(ht:Zl (find cx.T t) v=true)(hl:lenOf σ v=some n) :
  (Builtin.len_ #[t] ty #[x]).run P w=.ok (goInt n) w∧IntKind.i64.min≤n∧n≤IntKind.i64.max:=by
 have hmax:(maxLen:Int)≤IntKind.i64.max:=by decide
 have hmin:IntKind.i64.min≤0:=by decide
 have slv:∀{base:Option Addr} {m c:Nat},(∃e,find cx.T t=some (.slice e))→x=.slice base m c→n=m→m≤maxLen→(Builtin.len_ #[t] ty #[x]).run P w=.ok (goInt n) w∧IntKind.i64.min≤n∧n≤IntKind.i64.max:=by
  intro base m c he hx hn hm;obtain⟨e,he⟩:=he;obtain⟨gd,f1,_⟩:=(hc.T _ _ he).slice;subst hx;subst hn;refine⟨?_,by omega,by omega⟩;simp[Builtin.len_,run_underlying f1]
 have hsl:∀{o:Option Ty},(match o with|some (.slice _)=>true|_=>false)=true→∃e,o=some (.slice e):=by
  intro o h;split at h
  ·exact⟨_,rfl⟩
  ·cases h
 cases v with
 | data u y =>
   cases u with
   | str =>
     obtain⟨rfl,h2⟩:=zD hv;obtain rfl:=aN hl;have hT:=(hc.T _ _ (jG ht)).str;have e1:(⟨List.toArray (α:=UInt8) y⟩:ByteArray).size=List.length (α:=UInt8) y:=by
      show(List.toArray (α:=UInt8) y).size=_
      exact KX
     refine⟨?_,?_,?_⟩
     ·simp only[Builtin.len_];simp[run_underlying hT,e1,len]
     ·simp only[len];omega
     ·simp only[len];omega
   | slice e =>
     obtain rfl:=aN hl;obtain⟨cs,h1,h2⟩:=eu.1 hv;rcases h1 with ⟨⟨_,h1⟩,h3⟩|⟨blk,off,cap,h1,h3,h4,_⟩
     ·rw[h1] at h2;exact slv ⟨e,jG ht⟩ (show x=.slice _ 0 0 from h2) (by rw[h3];rfl) (rT _)
     ·rw[h1] at h2;exact slv ⟨e,jG ht⟩ (show x=.slice _ _ _ from h2) rfl (gY h3 h4)
   | arr m e =>
     obtain⟨gd,f1,_⟩:=(hc.T _ _ (jG ht)).arr;simp only[lenOf] at hl;cases hb:Nat.ble m 4294967296 with
     | false=>rw[hb] at hl;cases hl
     | true =>
       rw[hb] at hl;obtain rfl:=aN hl;have:=KV hb;have h9:(4294967296:Int)≤IntKind.i64.max:=by decide
       refine⟨by simp[Builtin.len_,run_underlying f1],by omega,by omega⟩
   | _=>cases hl
 | qd =>
   obtain rfl:=aN hl;obtain rfl:x=_:=by simpa [cI] using hv
   exact slv (hsl ht) rfl rfl (rT _)
 | whole b aC =>
   simp only[lenOf] at hl;split at hl
   ·rename_i bx hb;cases agc:(Nat.beq bx.aC aC&&bx.buf) with
    | false=>rw[agc] at hl;cases hl
    | true =>
      rw[agc] at hl;simp only[dW] at agc;simp only[gp] at hl;split at hl
      ·rename_i u l oW;obtain rfl:=aN hl;obtain⟨e',k,g1,g2,g3⟩:=bC hb (gz agc.1) hv.2;rw[Box.dZ g1 oW] at g2;obtain⟨rfl,rfl⟩:=e9 (aN g2);rcases g3 with ⟨g3,g4⟩|⟨blk,cap,g3,g4⟩
       ·have jt:=hm.boxes b bx hb;rw[cR,g1] at jt;obtain⟨e3,l3,q1,q2,q3⟩:=jt;rw[oW] at q1;cases q1;rcases q3 with ⟨_,q3⟩|⟨blk,cap,cur,tid,fr,q3,_⟩
        ·exact slv (hsl ht) (zq g4) (by rw[q3];rfl) (rT _)
        ·rw[g3] at q3;cases q3
       ·obtain⟨cur,tid,fr,q1,q2,q3,q4,_⟩:=((hm.boxes b bx hb).row g3).1 _ l g1 oW;exact slv (hsl ht) (zq g4) rfl (gY q3 q4)
      ·cases hl
   ·cases hl
 | part b aC lo n' =>
   simp only[lenOf] at hl;cases hlv:live σ b aC with
   | false=>rw[hlv] at hl;cases hl
   | true =>
     rw[hlv] at hl;obtain rfl:=aN hl;obtain⟨bx,hb,bF⟩:=kV hlv;obtain⟨e',k,g2,g3,g4,g5,base,cap,g6,g7,g8,gF,g9⟩:=bC hb bF hv.2;exact slv (hsl ht) (zq g6) (acI g4).symm (gY g7 g8)
 | _=>cases hl
theorem fD.take{w:World}{I:Nat→Nat→Prop}{e:Ty}{l:List e.den}{cs:List Value}(h:fD w I e l cs)(k:Nat):fD w I e (l.take k) (cs.take (k*e.size)):=by
 intro i x hx;rw[gN] at hx;split at hx
 ·rename_i hi;have hm:(i+1)*e.size≤k*e.size:=gM _ hi;rw[CF] at hm;rw[Zc,Mr,vK (by omega)];exact h i x hx
 ·cases hx
theorem fD.drop{w:World}{I:Nat→Nat→Prop}{e:Ty}{l:List e.den}{cs:List Value}(h:fD w I e l cs)(k:Nat):fD w I e (l.drop k) (cs.drop (k*e.size)):=by
 intro i x hx;rw[nW] at hx;rw[zw,←iw];exact h _ x hx
theorem CX{α:Type}{l m:List α}{lo:Int}(h0:0≤lo)(h:lo+m.length≤l.length):(over l lo m).length=l.length:=by
 simp only[over,iO,cW,qV];omega
theorem fD.over{w:World}{I:Nat→Nat→Prop}{e:Ty}{l m:List e.den}{cs news:List Value}{lo:Int}(h:fD w I e l cs)(hm:fD w I e m news)(hn:news.length=m.length*e.size)(h0:0≤lo)
  (hl:lo+m.length≤l.length) (hc:l.length*e.size≤cs.length):fD w I e (over l lo m) (splice cs (lo.toNat*e.size) news):=by
 have h1:(lo.toNat+m.length)*e.size≤l.length*e.size:=gM _ (by omega);rw[iw] at h1;have a1:=(h.take lo.toNat).append (rest:=[]) hm (by rw[cW,cW,vK (by omega),vK (by omega)]) hn;rw[Am] at a1;have a2:=a1.append (rest:=[]) (h.drop (lo.toNat+m.length)) (by rw[iO,iO,iw,hn,cW,cW,vK (by omega),vK (by omega)]);have e1:splice cs (lo.toNat*e.size) news=cs.take (lo.toNat*e.size)++news++cs.drop ((lo.toNat+m.length)*e.size):=by
  simp only[splice,hn,iw]
 rw[e1];intro i x hx;have hi:i<l.length:=by have:=(List.getElem?_eq_some_iff.1 hx).1;rw[CX h0 hl] at this;exact this
 have hm1:(i+1)*e.size≤l.length*e.size:=gM _ hi;by_cases ajQ:(lo.toNat+m.length)*e.size+(l.length-(lo.toNat+m.length))*e.size=l.length*e.size
 ·have a3:fD w I e (Go.Ge.over l lo m) (cs.take (lo.toNat*e.size)++news++(cs.drop ((lo.toNat+m.length)*e.size))):=by
   intro i x hx;by_cases hil:i<lo.toNat+m.length
   ·have hx':(l.take lo.toNat++m)[i]?=some x:=by
     simp only[Go.Ge.over] at hx;rw[TM (by rw[iO,cW];omega)] at hx;exact hx
    have hm2:(i+1)*e.size≤(lo.toNat+m.length)*e.size:=gM _ hil;rw[pg (by rw[iO,cW,hn,vK (by omega),←iw];exact hm2)];exact a1 i x hx'
   ·have hx':(l.drop (lo.toNat+m.length))[i-(lo.toNat+m.length)]?=some x:=by
     simp only[Go.Ge.over] at hx;rw[acq (by rw[iO,cW];omega)] at hx;rw[←hx];congr 1;rw[iO,cW];omega
    have:=h.drop (lo.toNat+m.length) _ x hx';have e2:i*e.size=(cs.take (lo.toNat*e.size)++news).length+(i-(lo.toNat+m.length))*e.size:=by
     rw[iO,cW,hn,vK (by omega),←iw,←iw];congr 1;omega
    rw[e2,←zw,EG];exact this
  exact a3 i x hx
 ·exact absurd (by rw[←iw];congr 1;omega) ajQ
theorem xB(h:dB B N γ σ a w){e:Ty}{m:List e.den}{b aC:Nat}{q:List FP}{chk:Nat→Ty→Bool}{lo:Int}{base:Option Addr}{news:List Value}
  (hr:(kT e m b aC q chk lo σ).run=some σ') (hE:fD w γ.I e m news) (hn:news.length=m.length*e.size) (hone:∀u∈news,u.oneCell'=true) (h0:0≤lo)
  (bO:∀bx (l:List e.den),σ.mem b=some bx→bx.aC=aC→bx.buf=true→bx.val=.data (.slice e) l→q=[]→lo+m.length≤l.length)
  (alP:∀bx k (l:List e.den),σ.mem b=some bx→bx.aC=aC→bx.buf=false→(nav q bx.val).run=some (.data (.arr k e) l)→chk k e=true→lo+m.length≤k)
  (hbase:m=[]∨∃blk c,γ.loc b=some (blk,c)∧base=some ⟨blk,cP q+lo.toNat*e.size,none⟩) :
  ∃w',(match base with|some ad=>storeCells ad news|none=>pure ()).run P w=.ok () w'∧dB B N γ σ' a w'∧Ext B γ σ.mem w γ σ'.mem w':=by
 unfold kT at hr;split at hr
 case h_2=>cases hr
 rename_i bx hb;obtain⟨hcd,hr2⟩:=aD hr;simp only[dW,nq] at hcd;obtain⟨⟨bF,hlk⟩,hro⟩:=hcd;have bF:=gz bF;have jt:=h.ok.boxes b bx hb;have hnil:m=[]→news=[]:=fun hm=>by subst hm;simpa using hn
 have ajR:m=[]→(match base with|some ad=>storeCells ad news|none=>pure ()).run P w=.ok () w:=fun hm=>by
  rw[hnil hm];cases base<;>rfl
 have ady:∀(blk c:Nat) (cur:Array Value) (tid:TypeId) (fr:Nat×Nat),γ.loc b=some (blk,c)→w.heap[blk]?=some (.cells cur tid fr)→nw cur fr→cP q+lo.toNat*e.size+news.length≤cur.size →
   (match base with|some ad=>storeCells ad news|none=>pure ()).run P w=.ok () (w.setRow blk (splice cur.toList (cP q+lo.toNat*e.size) news).toArray):=by
  intro blk c cur tid fr hl hg MG hle;rcases hbase with hm|⟨dX,c',hl',rfl⟩
  ·rw[ajR hm,hnil hm];simp only[splice,Am,ig,An,CE,Array.toArray_toList];rw[setRow_self w blk cur tid fr hg]
  ·rw[hl] at hl';obtain⟨rfl,rfl⟩:=e9 (aN hl');have:=cZ (P:=P) blk (cP q+lo.toNat*e.size) tid fr news 0 cur w hg MG (by omega) hone;rw[An] at this;exact this
 split at hr2
 ·rename_i Hf;split at hr2
  case h_2=>cases hr2
  rename_i u l oW;split at hr2
  case h_2=>cases hr2
  rename_i m' hm';obtain rfl:=aN hr2;obtain⟨hq,hq2⟩:=mC hm';subst hq;obtain rfl:m'=m:=hq2;have hle:=bO bx l hb bF Hf oW rfl;have hlen:=CX h0 hle;unfold cR at jt;rw[Hf] at jt;obtain⟨e2,l2,j1,j2,j3⟩:=jt;rw[oW] at j1;cases j1;have hrw:({ bx with val:=.data (.slice e) (over l lo m') }:Box).row=bx.row:=by
   rw[Box.dZ Hf oW];exact(Box.dZ (bx:=⟨.data (.slice e) (over (α:=e.den) l lo m'),bx.tid,bx.buf,bx.ro,bx.lk,bx.aC⟩) (l:=over (α:=e.den) l lo m') Hf rfl).trans (by rw[hlen])
  rcases j3 with ⟨k1,k2⟩|⟨blk,cap,cur,tid,fr,k1,k2,k3,jb,k4,k5,k6,k7⟩
  ·subst k2;have hm0:m'=[]:=by
    cases m' with
    | nil=>rfl
    | cons x r=>simp at hle;omega
   subst hm0;have e1:σ.cm b { bx with val:=.data (.slice e) (over ([]:List e.den) lo []) }=σ:=by
    have:({ bx with val:=.data (.slice e) (over ([]:List e.den) lo []) }:Box)=bx:=by
     cases bx;simp only at oW;subst oW;simp[over]
    rw[this];cases σ;simp only[St.cm]
    congr 1
    funext i;by_cases hi:i=b
    ·subst hi;simp only[Uc,gp];exact hb.symm
    ·simp[ja hi]
   rw[e1];exact⟨w,ajR rfl,h,Ext.refl _ _ _ _⟩
  ·have hoff:cP ([]:List FP)+lo.toNat*e.size+news.length≤cur.size:=by
    have:(lo.toNat+m'.length)*e.size≤cap*e.size:=gM _ (by omega);rw[iw] at this;simp only[cP];omega
   have hst:=ady blk cap cur tid fr k1 k2 k3.th hoff;have hle2:lo.toNat*e.size+news.length≤cur.toList.length:=by simp only[cP] at hoff;show _≤cur.size;omega
   have hsz:(splice cur.toList (lo.toNat*e.size) news).toArray.size=cur.size:=by have:=bS hle2;simpa using this
   obtain⟨m1,m2⟩:=h.ok.write hb hro k1 k2 (cur':=(splice cur.toList (lo.toNat*e.size) news).toArray) (v:=.data (.slice e) (over l lo m')) hsz hrw
    (fun w' mem' hx hg=>by
     show cR γ mem' w' b { bx with val:=.data (.slice e) (over l lo m') }
     unfold cR;simp only[Hf];refine⟨e,_,rfl,j2,.inr ⟨blk,cap,_,tid,fr,k1,hg,k3.same hsz,jb,by rw[hlen];exact k4,k5,by rw[hsz];exact k6,?_⟩⟩;intro i x hx';have:=fD.over (l:=l) (cs:=cur.toList) k7 hE hn h0 hle (by show _≤cur.size;rw[k6];exact gM _ k4) i x hx';simpa using bN.mono hx.I hx.cells this)
   simp only[cP,ym] at hst;exact⟨_,hst,h.go m2 m1,m2⟩
 ·rename_i Hf;obtain⟨old,hnv,jP⟩:=bind_some hr2;split at jP
  case h_2=>cases jP
  rename_i k u l;obtain⟨hck,oV⟩:=aD jP;split at oV
  case h_2=>cases oV
  rename_i m' hm';obtain⟨c,hs,O6⟩:=bind_some oV;obtain rfl:=aN O6;obtain⟨hq,hq2⟩:=mC hm';subst hq;obtain rfl:m'=m:=hq2;have hle:=alP bx k l hb bF Hf hnv hck;unfold cR at jt;rw[Hf] at jt;obtain⟨blk,cap,cur,tid,fr,k1,k2,k3,jb,k4⟩:=jt;obtain⟨p1,p2⟩:=yD k4 hnv;have hvs:dn (.data (.arr k e) l)=k*e.size:=rfl;rw[hvs] at p1 p2;obtain⟨r1,r2,r3⟩:=p2;have hll:lo+m'.length≤(List.length (α:=e.den) l:Int):=by rw[r1];exact hle
  have hlen:List.length (α:=e.den) (over (α:=e.den) l lo m')=List.length (α:=e.den) l:=CX (l:=l) h0 hll;have alQ:(lo.toNat+m'.length)*e.size≤k*e.size:=gM _ (by omega);rw[iw] at alQ;have hoff:cP q+lo.toNat*e.size+news.length≤cur.size:=by have p1':cP q+k*e.size≤cur.size:=p1;omega
  have hst:=ady blk cap cur tid fr k1 k2 k3 hoff;have agd:((cur.toList.drop (cP q)).take (k*e.size)).length=k*e.size:=r2;have ahA:lo.toNat*e.size+news.length≤((cur.toList.drop (cP q)).take (k*e.size)).length:=by rw[agd];omega
  have hnew:bN w γ.I (.arr k e) (over l lo m') (splice ((cur.toList.drop (cP q)).take (k*e.size)) (lo.toNat*e.size) news):=by
   refine⟨hlen.trans r1,by rw[bS ahA,agd],?_⟩;exact fD.over (l:=l) r3 hE hn h0 hll (by rw[agd];exact O4 (by rw[r1]))
  have alR:=ux cur.toList (cP q) (lo.toNat*e.size) (k*e.size) news (by omega) p1;have hrw:({ bx with val:=c }:Box).row=bx.row:=J8 (bx:=bx) (p:=q) (v:=.data (.arr k e) (over l lo m')) (by rw[Hf];exact hs) fun hp _=>by
   subst hp;have oW:bx.val=.data (.arr k e) l:=aN hnv;rw[Box.si Hf oW];exact Box.si (bx:=⟨_,bx.tid,bx.buf,bx.ro,bx.lk,bx.aC⟩) Hf rfl
  have hle2:cP q+lo.toNat*e.size+news.length≤cur.toList.length:=hoff;have hsz:(splice cur.toList (cP q+lo.toNat*e.size) news).toArray.size=cur.size:=by have:=bS hle2;simpa using this
  obtain⟨m1,m2⟩:=h.ok.write hb hro k1 k2 (cur':=(splice cur.toList (cP q+lo.toNat*e.size) news).toArray) (v:=c) hsz hrw
   (fun w' mem' hx hg=>by
    show cR γ mem' w' b { bx with val:=c }
    unfold cR;simp only[Hf];refine⟨blk,cap,_,tid,fr,k1,hg,k3.same hsz,jb,?_⟩;have:=Bi (k4.ext hx) hnv hs (show cI γ mem' w' (.data (.arr k e) (over l lo m')) .cells _ from bN.mono hx.I hx.cells hnew) (by rw[bS ahA,agd];rfl);rw[alR] at this;simpa using this)
  exact⟨_,hst,h.go m2 m1,m2⟩
theorem Hg{e:Ty}{mf:Int→List e.den}{t:aS}{tv:Value}{r:Int×St}(h:dB B N γ σ a w)(hv:cI γ σ.mem w t .val [tv])(hr:(IX e mf t σ).run=some r) :
  ∃base cap,tv=.slice base r.1.toNat cap∧0≤r.1∧∀news,fD w γ.I e (mf r.1) news→news.length=(mf r.1).length*e.size→(∀u∈news,u.oneCell'=true)→(mf r.1).length≤r.1.toNat →
   ∃w',(match base with|some ad=>storeCells ad news|none=>pure ()).run P w=.ok () w'∧dB B N γ r.2 a w'∧Ext B γ σ.mem w γ r.2.mem w':=by
 unfold IX at hr;split at hr
 ·rename_i b aC lo n;obtain⟨σ1,kW,hr2⟩:=bind_some hr;obtain rfl:=aN hr2;have UE:∃bx,σ.mem b=some bx∧bx.aC=aC:=by
   unfold kT at kW;split at kW
   ·rename_i bx hb;obtain⟨hcd,_⟩:=aD kW;simp only[dW] at hcd;exact⟨bx,hb,gz hcd.1.1⟩
   ·cases kW
  obtain⟨bx,hb,bF⟩:=UE;obtain⟨e',k,g2,g3,g4,g5,base,cap,g6,g7,g8,gF,g9⟩:=bC hb bF hv.2;refine⟨base,cap,by simpa using g6,g4,fun news hE hn hone hle=>?_⟩;dsimp only at hE hn hle;refine xB h kW hE hn hone g3 (fun iJ l hb' _ Hf oW _=>?_) (fun iJ k' l hb' _ Hf hnv _=>?_) ?_
  ·obtain rfl:=aN (hb.symm.trans hb');rw[Box.dZ Hf oW] at g2;obtain⟨_,rfl⟩:=e9 (aN g2);omega
  ·obtain rfl:=aN (hb.symm.trans hb');have oW:bx.val=.data (.arr k' e) l:=aN hnv;rw[Box.si Hf oW] at g2;obtain⟨_,rfl⟩:=e9 (aN g2);omega
  ·rcases g9 with g9|⟨blk,c,g9,g10⟩
   ·left;exact aco (by rw[g9,show(0:Int).toNat=0 from rfl] at hle;rw[g9];omega)
   ·by_cases hm:mf n=[]
    ·exact .inl hm
    ·right;have he:e'=e:=by
      unfold kT at kW;rw[hb] at kW;obtain⟨_,jP⟩:=aD kW;split at jP
      ·rename_i Hf;split at jP
       case h_2=>cases jP
       rename_i u l oW;split at jP
       case h_2=>cases jP
       rename_i m' hm';obtain⟨hq,_⟩:=mC hm';rw[Box.dZ Hf oW] at g2;obtain⟨rfl,_⟩:=e9 (aN g2);exact hq.symm
      ·rename_i Hf;obtain⟨old,hnv,oV⟩:=bind_some jP;split at oV
       case h_2=>cases oV
       rename_i k' u l;obtain⟨_,O6⟩:=aD oV;split at O6
       case h_2=>cases O6
       rename_i m' hm';obtain⟨hq,_⟩:=mC hm';have oW:bx.val=.data (.arr k' u) l:=aN hnv;rw[Box.si Hf oW] at g2;obtain⟨rfl,_⟩:=e9 (aN g2);exact hq.symm
     subst he;exact⟨blk,c,g9,by rw[g10];simp[cP]⟩
 ·rename_i b aC;split at hr
  case h_2=>cases hr
  rename_i n hlen;obtain⟨σ1,kW,hr2⟩:=bind_some hr;obtain rfl:=aN hr2;have UE:∃bx,σ.mem b=some bx∧bx.aC=aC:=by
   unfold kT at kW;split at kW
   ·rename_i bx hb;obtain⟨hcd,_⟩:=aD kW;simp only[dW] at hcd;exact⟨bx,hb,gz hcd.1.1⟩
   ·cases kW
  obtain⟨bx,hb,bF⟩:=UE;obtain⟨e',k,g1,g2,g3⟩:=bC hb bF hv.2;have tK:=h.ok.boxes b bx hb;have hl:∃l:List e.den,bx.val=.data (.slice e) l∧n=l.length:=by
   unfold kT at kW;rw[hb] at kW;obtain⟨_,jP⟩:=aD kW;split at jP
   ·split at jP
    case h_2=>cases jP
    rename_i u l hq0 oW;split at jP
    case h_2=>cases jP
    rename_i m' hm';obtain⟨hq,_⟩:=mC hm';subst hq;refine⟨l,oW,?_⟩;simp only[lenOf,hb,bF,g1,Uc,Bool.and_self,gp,oW] at hlen;exact(aN hlen).symm
   ·rename_i Hf;rw[g1] at Hf;cases Hf
  obtain⟨l,oW,rfl⟩:=hl;rw[Box.dZ g1 oW] at g2;obtain⟨rfl,rfl⟩:=e9 (aN g2);have fin:∀{base:Option Addr} {cap:Nat},tv=.slice base l.length cap→(l.length=0∨∃blk c,γ.loc b=some (blk,c)∧base=some ⟨blk,0,none⟩) →
    ∃base cap,tv=.slice base (l.length:Int).toNat cap∧(0:Int)≤l.length∧∀news,fD w γ.I e (mf l.length) news→news.length=(mf l.length).length*e.size→(∀u∈news,u.oneCell'=true)→(mf l.length).length≤(l.length:Int).toNat →
     ∃w',(match base with|some ad=>storeCells ad news|none=>pure ()).run P w=.ok () w'∧dB B N γ σ1 a w'∧Ext B γ σ.mem w γ σ1.mem w':=by
   intro base cap htv hb0;refine⟨base,cap,by simpa using htv,by omega,fun news hE hn hone hle=>?_⟩;refine xB h kW hE hn hone (by omega) (fun iJ l' hb' _ Hf ajT _=>?_) (fun iJ k' l' hb' _ Hf hnv _=>?_) ?_
   ·obtain rfl:=aN (hb.symm.trans hb');rw[oW] at ajT;cases ajT;omega
   ·obtain rfl:=aN (hb.symm.trans hb');rw[g1] at Hf;cases Hf
   ·rcases hb0 with hb0|⟨blk,c,q1,q2⟩
    ·left;exact aco (by omega)
    ·right;exact⟨blk,c,q1,by rw[q2];simp[cP]⟩
  rcases g3 with ⟨g3,g4⟩|⟨blk,cap,g3,g4⟩
  ·obtain g4:tv=_:=by simpa using g4
   rw[cR,g1] at tK;obtain⟨e2,l2,j1,j2,j3⟩:=tK;rw[oW] at j1;cases j1;rcases j3 with ⟨_,j4⟩|⟨_,_,_,_,_,j3,_⟩
   ·exact fin (base:=none) (cap:=0) (by rw[g4,j4];rfl) (.inl (by rw[j4];rfl))
   ·rw[g3] at j3;cases j3
  ·exact fin (zq g4) (.inr ⟨blk,cap,g3,rfl⟩)
 ·rename_i b aC q u k lo n;obtain⟨σ1,kW,hr2⟩:=bind_some hr;obtain rfl:=aN hr2;have UE:∃bx,σ.mem b=some bx∧bx.aC=aC:=by
   unfold kT at kW;split at kW
   ·rename_i bx hb;obtain⟨hcd,_⟩:=aD kW;simp only[dW] at hcd;exact⟨bx,hb,gz hcd.1.1⟩
   ·cases kW
  obtain⟨bx,hb,bF⟩:=UE;obtain⟨hq,blk,c,g1,g3,g4,g5,base,cap,g6,g7,g9⟩:=bC hb bF hv.2;refine⟨base,cap,by simpa using g6,g4,fun news hE hn hone hle=>?_⟩;dsimp only at hE hn hle;refine xB h kW hE hn hone g3 (fun iJ l hb' _ Hf oW hq0=>absurd hq0 hq) (fun iJ k' l hb' _ Hf hnv hck=>?_) ?_
  ·simp only[dW] at hck;have:=gz hck.1;omega
  ·rcases g9 with g9|g10
   ·left;exact aco (by rw[g9,show(0:Int).toNat=0 from rfl] at hle;rw[g9];omega)
   ·by_cases hm:mf n=[]
    ·exact .inl hm
    ·right;have he:u=e:=by
      unfold kT at kW;rw[hb] at kW;obtain⟨_,jP⟩:=aD kW;split at jP
      ·split at jP
       ·exact absurd rfl hq
       ·cases jP
      ·obtain⟨old,hnv,oV⟩:=bind_some jP;split at oV
       case h_2=>cases oV
       obtain⟨hck,O6⟩:=aD oV;split at O6
       case h_2=>cases O6
       rename_i m' hm';obtain⟨hq',_⟩:=mC hm';simp only[dW] at hck;exact(Ty.eq_of_beq hck.2).trans hq'.symm
     subst he;exact⟨blk,c,g1,g10⟩
 ·cases hr
theorem MZ{I:Nat→Nat→Prop}{e:Ty}{m:List e.den}{v:Value}(h:CS w I e m v)(n:Nat)(hn:n≤m.length) :
  ∃news,(Builtin.firstCells e.size n v).run P w=.ok news.toArray w∧news.length=n*e.size∧(∀u∈news,u.oneCell'=true)∧fD w I e (m.take n) news∧(Builtin.lenOf v).run P w=.ok m.length w:=by
 rcases h with ⟨rfl,base,cap,r1,r2,r3⟩|⟨blk,off,cap,r1,r2,r3,r4⟩
 ·obtain rfl:n=0:=by simpa using hn
  subst r1;refine⟨[],?_,by simp,fun u hu=>absurd hu (by simp),fun i x hx=>absurd hx (by simp),rfl⟩;cases base with
  | none=>rfl
  | some ad=>exact run_firstCells_some w e.size 0 ad 0 cap [] (by simp) (fun j v hj=>by cases hj)
 ·obtain⟨news,n1,n2,n3,n4⟩:=FW (w:=w) (l:=m.take n) fun i x hx=>by
   rw[gN] at hx;split at hx
   ·exact r4 i x hx
   ·cases hx
  rw[cW,vK hn] at n1;refine⟨news,?_,n1,n3,n4,by rw[r1];rfl⟩;rw[r1];exact run_firstCells_some w e.size n _ m.length cap news n1 (fun j u hj=>by rw[addr_add];exact n2 j u hj)
theorem M0{I:Nat→Nat→Prop}{s:List UInt8}(n:Nat)(hn:n≤s.length) :
  ∃news,(Builtin.firstCells 1 n (.string ⟨s.toArray⟩)).run P w=.ok news.toArray w∧news.length=n∧(∀u∈news,u.oneCell'=true)∧fD w I (.int .u8) ((ay s).take n:List Int) news∧(Builtin.lenOf (.string ⟨s.toArray⟩)).run P w=.ok (ay s).length w:=by
 refine⟨(s.take n).map fun b=>Value.int .u8 b.toNat,?_,by simp[hn],fun u hu=>?_,fun i x hx=>?_,?_⟩
 ·simp only[Builtin.firstCells,Sem.run_pure]
  congr 1
  apply Ue;have e1:(⟨s.toArray⟩:ByteArray).extract 0 n=⟨(s.take n).toArray⟩:=by
   have:=Ut s (i:=0) (j:=n) (by omega) (by omega);simpa [sub,minus] using this
  rw[e1];simp
 ·obtain⟨_,_,rfl⟩:=List.mem_map.1 hu;rfl
 ·have hx':((ay s).take n)[i]?=some x:=hx;rw[gN] at hx';split at hx'
  ·rename_i hi;simp only[ay,KY] at hx';cases hb:s[i]? with
   | none=>rw[hb] at hx';cases hx'
   | some b =>
     rw[hb] at hx';obtain rfl:(b.toNat:Int)=x:=aN hx';refine⟨?_,Sc b⟩;apply O2;intro j;rw[gN];split
     ·rename_i hj;obtain rfl:j=0:=by simp[Ty.size] at hj;exact hj
      rw[nW];simp[Ty.size,hb,hi]
     ·rename_i hj;obtain⟨k,rfl⟩:∃k,j=k+1:=⟨j-1,by simp[Ty.size] at hj;omega⟩;simp
  ·cases hx'
 ·simp[Builtin.lenOf,ay,ByteArray.size]
theorem AB(s:List UInt8):(ay s).length=s.length:=Mp ..
theorem adA{s:List UInt8}{n:Nat}(h:n≤(ay s).length):n≤s.length:=by rw[AB] at h;exact h
theorem Xf(hm:bK B γ σ.mem w){e:Ty}{m:List e.den}{x:aS}{v:Value}(hv:cI γ σ.mem w x .val [v])(h:xk e σ x=some m)(n:Nat)(hn:n≤m.length) :
  ∃news,(Builtin.firstCells e.size n v).run P w=.ok news.toArray w∧news.length=n*e.size∧(∀u∈news,u.oneCell'=true)∧fD w γ.I e (m.take n) news∧(Builtin.lenOf v).run P w=.ok m.length w:=by
 unfold xk at h;split at h
 ·rename_i t;obtain⟨q,hq⟩:=mC h;subst q;subst hq;obtain⟨ev,_⟩:=zD hv;rw[ev];have hn':n≤List.length (α:=UInt8) t:=adA hn;obtain⟨news,n1,n2,n3,n4,n5⟩:=M0 (P:=P) (w:=w) (I:=γ.I) (s:=t) n hn';exact⟨news,n1,by rw[n2];simp[Ty.size],n3,n4,n5⟩
 ·exact MZ (tU hm hv h) n hn
theorem M1(hc:gA P cx){tt tx ty:TypeId}{t x:Operand}(h:dB B N γ σ a w)(hd:∀k,d=some k→k<N)(hr:(Aq cx d tt (cL σ t) (cL σ x) σ).run=some σ') :
  p6 P B N γ σ a w d (Builtin.copy_ #[tt,tx] ty #[a.eval t,a.eval x]) σ':=by
 unfold Aq at hr;split at hr
 case h_2=>cases hr
 rename_i e hT;split at hr
 case h_1=>cases hr
 rename_i m hm;obtain⟨r,kW,hr2⟩:=bind_some hr;obtain rfl:=aN hr2;obtain⟨gd,k1,k2,k3,k4⟩:=(hc.T _ _ hT).slice;obtain⟨base,cap,c1,c2,c3⟩:=Hg (P:=P) h (h.cL t) kW;have hlen:(iH (α:=e.den) m r.1).length=Nat.min m.length r.1.toNat:=by
  simp only[iH,cW];exact Nat.min_comm _ _
 obtain⟨news,n1,n2,n3,n4,n5⟩:=Xf (P:=P) h.ok (h.cL x) hm (Nat.min m.length r.1.toNat) (Nat.min_le_left _ _);have ajU:(m.take (Nat.min m.length r.1.toNat))=iH (α:=e.den) m r.1:=by
  simp only[iH];rcases Nat.le_total m.length r.1.toNat with hle|hle
  ·rw[show Nat.min m.length r.1.toNat=m.length from vK hle,GG (cU _),GG hle]
  ·rw[show Nat.min m.length r.1.toNat=r.1.toNat from acT hle]
 rw[ajU] at n4;obtain⟨w',s1,s2,s3⟩:=c3 news n4 (by rw[n2,hlen]) n3 (by rw[hlen];exact Nat.min_le_right _ _);have hmax:(iH (α:=e.den) m r.1).length≤maxLen:=by
  rcases TX (iH (α:=e.den) m r.1).length with h0|h0
  ·omega
  ·rw[hlen];refine gY (Nat.min_le_left _ _) ?_;have hv:=h.cL x;unfold xk at hm;split at hm
   ·rename_i s hs;obtain⟨q,hq⟩:=mC hm;subst q;subst hq;rw[hs] at hv;obtain⟨_,h2⟩:=zD hv;exact gY (O4 (AB s)) h2
   ·rcases tU h.ok hv hm with ⟨rfl,_⟩|⟨_,_,cap,_,h2,h3,_⟩
    ·exact rT _
    ·exact gY h2 h3
 refine⟨goInt (iH (α:=e.den) m r.1).length,w',γ,?_,?_,?_⟩
 ·have hsz:=k2.sizeOf w;simp only[Builtin.copy_,c1];simp only[ahs,acz,acA,Sem.run_bind,run_underlying k1,Result.andThen_ok,n5,hsz,n1,hlen];cases base with
  | none=>simp only[Sem.run_pure,Result.andThen_ok] at s1⊢;injection s1 with _ s1;subst s1;rfl
  | some ad=>simp only at s1⊢;simp only[Sem.run_bind,s1,Result.andThen_ok,Sem.run_pure]
 ·have h9:(maxLen:Int)≤IntKind.i64.max:=by decide
  have h8:IntKind.i64.min≤0:=by decide
  have:=s2.xy hd (v:=.data (.int .i64) (len (iH (α:=e.den) m r.1))) (val:=goInt (iH (α:=e.den) m r.1).length) (mkInt ⟨by simp only[len];omega,by simp only[len];omega⟩);exact this
 ·cases d<;>exact s3
theorem Lg(hc:gA P cx){tt ty:TypeId}{t:Operand}(h:dB B N γ σ a w)(hr:(Ar cx tt (cL σ t) σ).run=some σ') :
  p6 P B N γ σ a w none (Builtin.clear_ #[tt] ty #[a.eval t]) σ':=by
 unfold Ar at hr;split at hr
 case h_2=>cases hr
 rename_i e hT;obtain⟨r,kW,hr2⟩:=bind_some hr;obtain rfl:=aN hr2;obtain⟨gd,k1,k2,k3,k4⟩:=(hc.T _ _ hT).slice;obtain⟨base,cap,c1,c2,c3⟩:=Hg (P:=P) h (h.cL t) kW;have hlen:(CI r.1 e.zero).length=r.1.toNat:=by simp[CI]
 obtain⟨z,z1,z2⟩:=k2.zero w;have hz:=xA z2 k4 r.1.toNat;have hzc:=oZ w γ.I (.arr r.1.toNat e);have hcells:(Builtin.zeroCells z.cells r.1.toNat).toList=fB (.arr r.1.toNat e):=by
  have hzl:z.cells.size=e.size:=by rw[←en e,←z2];simp
  rw[←hz];simp only[Builtin.zeroCells,madeCells,hzl]
 obtain⟨w',s1,s2,s3⟩:=c3 (fB (.arr r.1.toNat e)) (fun i x hx=>hzc.2.2 i x hx) (by rw[en,hlen];rfl) (fun u hu=>hzc.one u hu) (O4 hlen);refine⟨.tuple #[],w',γ,?_,s2,s3⟩;simp only[Builtin.clear_,c1];simp only[ahs,acz,Sem.run_bind,run_underlying k1,Result.andThen_ok];cases base with
 | none=>simp only[Sem.run_pure,Result.andThen_ok] at s1⊢;injection s1 with _ s1;subst s1;rfl
 | some ad =>
   simp only at s1;by_cases h0:r.1.toNat=0
   ·have:fB (.arr r.1.toNat e)=[]:=aco (by rw[en];simp[Ty.size,h0]);rw[this] at s1;injection s1 with _ s1
    subst s1;rw[h0];simp only[Sem.run_pure,Result.andThen_ok]
   ·obtain⟨k,hk⟩:∃k,r.1.toNat=k+1:=⟨r.1.toNat-1,by omega⟩;rw[hk] at s1 hcells⊢;simp only[Sem.run_bind,z1,Result.andThen_ok,hcells,s1,Sem.run_pure]
theorem Hh{least:Bool}{p q r:aS}{u v:Value}(hu:cI γ σ.mem w p .val [u])(hv:cI γ σ.mem w q .val [v])(hr:(RV least p q).run=some r) :
  ∃z,((if least then Builtin.min2 u v else Builtin.max2 u v)).run P w=.ok z w∧cI γ σ.mem w r .val [z]:=by
 unfold RV at hr;split at hr
 ·rename_i k n k' m;obtain⟨hk,hr2⟩:=aD hr;obtain rfl:=Ao hk;obtain rfl:=aN hr2;obtain⟨rfl,h1⟩:=vM hu;obtain⟨rfl,h2⟩:=vM hv;have cmp:∀n m:Int,k.min≤n∧n≤k.max→k.min≤m∧m≤k.max→cI γ σ.mem w (.data (.int k) (ahV n m)) .val [.int k (if m<n then m else n)]∧cI γ σ.mem w (.data (.int k) (imax n m)) .val [.int k (if m > n then m else n)]:=by
   intro n m h1 h2;constructor
   ·unfold ahV;by_cases hlt:m<n
    ·simp only[hlt,JZ,gp,nZ];exact mkInt h2
    ·simp only[hlt,Zi,jM,EI];exact mkInt h1
   ·unfold imax;by_cases hlt:n<m
    ·simp only[hlt,JZ,gp,gt_iff_lt,nZ];exact mkInt h2
    ·simp only[hlt,Zi,jM,gt_iff_lt,EI];exact mkInt h1
  cases least with
  | true=>exact⟨_,rfl,(cmp n m h1 h2).1⟩
  | false=>exact⟨_,rfl,(cmp n m h1 h2).2⟩
 ·cases hr
end
end Go.Ge
namespace Go.Ge
open RowKit
section
variable {P:Program} {B:tJ} {N:Nat} {γ:Gh} {σ σ':St} {a:Act} {w w':World} {d:Option Nat} {cx:Ctx} {nb:Nat} {bf:List Nat} {inl:Nat→List aS→St→Tree (aS×St)}
theorem Si{f:Operand→aS}{l:List Operand}{x:aS}(h:l.map f=[x]):∃o,l=[o]∧f o=x:=by
 cases l with
 | nil=>cases h
 | cons o r=>cases r with
   | nil=>exact⟨o,rfl,by simpa using h⟩
   | cons p r=>simp at h
theorem L5{f:Operand→aS}{l:List Operand}{x y:aS}(h:l.map f=[x,y]):∃o p,l=[o,p]∧f o=x∧f p=y:=by
 cases l with
 | nil=>cases h
 | cons o r =>
   obtain⟨p,hp,hq⟩:=Si (l:=r) (f:=f) (x:=y) (by simp at h⊢;exact h.2);subst hp;exact⟨o,p,rfl,by simp at h;exact h.1,hq⟩
theorem gb{α:Type}{a:Array α}{l:List α}(h:a.toList=l):a=l.toArray:=by rw[←h]
theorem aaF{α:Type}(k:Value→Array Value→Sem α)(x:Value)(xs:Array Value):(match(#[x]++xs)[0]? with|some recv=>k recv ((#[x]++xs).extract 1 (#[x]++xs).size)|x=>stuck "call: a method without a receiver")=k x xs.toList.toArray:=by
 have h0:(#[x]++xs)[0]?=some x:=by rw[←Array.getElem?_toList,TV];rfl
 have h1:(#[x]++xs).extract 1 (#[x]++xs).size=xs.toList.toArray:=by
  apply Ue;rw[Array.toList_extract,TV,acQ];simp[List.extract];rw[←WH,GJ]
 rw[h0,h1]
theorem Xg(hc:gA P cx)(eS:rD P B.G cx)(ny:yG P B.G inl){o:Oper}{c:Call}(ho:o.op=.call c)(h:dB B N γ σ a w)(hd:∀k,o.dst=some k→k<N)
  (hr:(xo cx nb bf inl o.dst o.type c σ).run=some σ') {K:Act→World→Prop} {Q:Exit→Act→World→Prop} (hK:G9 B N γ σ a w o.dst σ' K):o.wp P a w K Q:=by
 unfold xo at hr;split at hr
 ·rename_i b M3;split at hr
  ·
   rename_i x t hx ht;obtain⟨ox,hox,rfl⟩:=Si hx;cases hlt:Zl (find cx.T t) (cL σ ox) with
   | false =>
     rw[hlt] at hr;simp only[jM] at hr;split at hr
     ·rename_i e b aC q u k lo n he hx;obtain⟨hl,hr2⟩:=aD hr;simp only[dW,nY] at hl;obtain rfl:=aN hr2;obtain⟨bx,tK,bF⟩:=kV hl.1;have hv:=h.cL ox;rw[hx] at hv;obtain⟨_,blk,c',g1,g2,g3,g4,base,cap,g5,g6,g7⟩:=bC tK bF hv.2;obtain g5:a.eval ox=_:=by simpa using g5
      refine b5 (s:=Builtin.len_ c.argTypes o.type (c.args.map a.eval)) ?_ (bU h hd (x:=.int .i64 n) ?_ (mkInt ?_)) hK
      ·unfold execOp;simp only[ho,resolve,M3,invoke,builtin];rfl
      ·rw[gb hox,gb ht,show Array.map a.eval [ox].toArray=#[a.eval ox] from by simp,g5];simp[Builtin.len_,run_underlying (Bk hc he).1,acI g3];rfl
      ·exact⟨Int.le_trans (by decide) g3,Int.le_trans hl.2 (by decide)⟩
     ·exact absurd hr (by intro k;cases k)
   | true =>
   have hr2:(match lenOf σ (cL σ ox) with|some n=>Tree.ret (σ.aW o.dst (.data (.int .i64) n))|none=>.fail).run=some σ':=by rw[hlt] at hr;exact hr
   split at hr2
   ·rename_i n hn;obtain rfl:=aN hr2;obtain⟨l1,l2⟩:=UD (ty:=o.type) hc h.ok (h.cL ox) hlt hn;refine b5 (s:=Builtin.len_ c.argTypes o.type (c.args.map a.eval)) ?_ (bU h hd (x:=.int .i64 n) ?_ (mkInt l2)) hK
    ·unfold execOp;simp only[ho,resolve,M3,invoke,builtin];rfl
    ·rw[gb hox,gb ht,show Array.map a.eval [ox].toArray=#[a.eval ox] from by simp];exact l1
   ·exact absurd hr2 (by intro k;cases k)
  ·rename_i s x t u hx ht;obtain⟨os,ox,hox,rfl,rfl⟩:=L5 hx;have key:(∃e,P.underlying u=some (.slice e))∨P.underlying u=some .string→(iZ cx nb o.dst t (cL σ os) (cL σ ox) σ).run=some σ'→o.wp P a w K Q:=by
    intro hk hr2;refine b5 (s:=Builtin.append_ c.argTypes o.type (c.args.map a.eval)) ?_ ?_ hK
    ·unfold execOp;simp only[ho,resolve,M3,invoke,builtin];rfl
    ·rw[gb hox,gb ht,show Array.map a.eval [os,ox].toArray=#[a.eval os,a.eval ox] from by simp];exact Jf hc h hd hk hr2
   split at hr
   ·rename_i hu;exact key (.inr (hc.T _ _ hu).str) hr
   ·rename_i e hu;obtain⟨gd,f1,_⟩:=(hc.T _ _ hu).slice;exact key (.inl ⟨gd,f1⟩) hr
   ·exact absurd hr (by intro k;cases k)
  ·rename_i t x tt tx hx ht;obtain⟨ot,ox,hox,rfl,rfl⟩:=L5 hx;have key:(Aq cx o.dst tt (cL σ ot) (cL σ ox) σ).run=some σ'→o.wp P a w K Q:=by
    intro hr2;refine b5 (s:=Builtin.copy_ c.argTypes o.type (c.args.map a.eval)) ?_ ?_ hK
    ·unfold execOp;simp only[ho,resolve,M3,invoke,builtin];rfl
    ·rw[gb hox,gb ht,show Array.map a.eval [ot,ox].toArray=#[a.eval ot,a.eval ox] from by simp];exact M1 hc h hd hr2
   split at hr
   ·exact key hr
   ·exact key hr
   ·exact absurd hr (by intro k;cases k)
  ·rename_i t tt hx ht;obtain⟨ot,hox,rfl⟩:=Si hx;split at hr
   ·rename_i Xh;refine b5 (s:=Builtin.clear_ c.argTypes o.type (c.args.map a.eval)) ?_ ?_ hK
    ·unfold execOp;simp only[ho,resolve,M3,invoke,builtin];rfl
    ·rw[gb hox,gb ht,show Array.map a.eval [ot].toArray=#[a.eval ot] from by simp,Xh];exact Lg hc h hr
   ·exact absurd hr (by intro k;cases k)
  ·rename_i x y hx;obtain⟨ox,oy,hox,rfl,rfl⟩:=L5 hx;obtain⟨v,hb,hr2⟩:=bind_some hr;obtain rfl:=aN hr2;obtain⟨z,z1,z2⟩:=Hh (P:=P) (h.cL ox) (h.cL oy) hb;refine b5 (s:=Builtin.min_ c.argTypes o.type (c.args.map a.eval)) ?_ (bU h hd (x:=z) ?_ z2) hK
   ·unfold execOp;simp only[ho,resolve,M3,invoke,builtin];rfl
   ·rw[gb hox,show Array.map a.eval [ox,oy].toArray=#[a.eval ox,a.eval oy] from by simp];simp only[nZ] at z1;simp[Builtin.min_,z1]
  ·rename_i x y hx;obtain⟨ox,oy,hox,rfl,rfl⟩:=L5 hx;obtain⟨v,hb,hr2⟩:=bind_some hr;obtain rfl:=aN hr2;obtain⟨z,z1,z2⟩:=Hh (P:=P) (h.cL ox) (h.cL oy) hb;refine b5 (s:=Builtin.max_ c.argTypes o.type (c.args.map a.eval)) ?_ (bU h hd (x:=z) ?_ z2) hK
   ·unfold execOp;simp only[ho,resolve,M3,invoke,builtin];rfl
   ·rw[gb hox,show Array.map a.eval [ox,oy].toArray=#[a.eval ox,a.eval oy] from by simp];simp only[WJ,EI] at z1;simp[Builtin.max_,z1]
  ·exact absurd hr (by intro k;cases k)
 ·rename_i f M3;split at hr
  ·rename_i fid caps hf;obtain⟨ajV,hr2⟩:=aD hr;have hv:=h.cL f;rw[hf] at hv;obtain⟨arr,v1,v2,v3⟩:=hv;obtain v1:=zq v1;have adB:nx γ σ.mem w (caps.map fun b=>.ptr b.1 b.2 []) arr.toList:=by
    refine⟨by simpa using v2,fun i v x h1 h2=>?_⟩;rw[KY] at h1;cases hi:caps[i]? with
    | none=>rw[hi] at h1;cases h1
    | some bv =>
      rw[hi] at h1;obtain rfl:=aN h1;have hl:=List.all_eq_true.1 ajV bv (gm hi);obtain⟨bx,hb,bF⟩:=kV hl;have hof:=v3 i bv.1 bv.2 (by rw[hi]);obtain⟨blk,cap,g1,g2⟩:=bC hb bF hof;have hx:x=.pointer (some ⟨blk,0,none⟩):=by
       have:arr[i]?=some x:=by simpa using h2
       rw[g2] at this;exact(aN this).symm
      subst hx;exact⟨⟨_,rfl,rfl⟩,bx,hb,O4 bF.symm,fun _=>⟨blk,cap,g1,rfl⟩⟩
   have hall:nx γ σ.mem w (c.args.toList.map (cL σ)++caps.map fun b=>.ptr b.1 b.2 []) (c.args.map a.eval++arr).toList:=by
    rw[TV,T6];exact(QS h).append adB
   refine MY (f:=fid) (xs:=c.args.map a.eval++arr) ?_ (Pj eS ny h hd hall hr2 hK);unfold execOp;simp only[ho,resolve,M3,Deferred.ofValue,v1,Sem.run_bind,Sem.run_pure,Result.andThen_ok,invoke];simp
  ·exact absurd hr (by intro k;cases k)
 ·
  rename_i r name M3;unfold tQ at hr;split at hr
  ·rename_i cn hcn;split at hr
   ·rename_i x σ1 hx;obtain⟨y,hy,hr2⟩:=cl hr;obtain rfl:=aN hr2;have hall:nx γ σ.mem w (cL σ r::c.args.toList.map (cL σ)) (a.eval r::(c.args.map a.eval).toList):=by
     rw[T6];exact QS (ops:=r::c.args.toList) h
    obtain⟨jC,s1,s2,s3⟩:=uy h hall hx;obtain⟨f,u,e1,e2,e3⟩:=eS.inv name cn hcn jC.I w (a.eval r) _ x y (fun b o hi=>s1.ok.we b o hi) s1.ok.RY s3 hy;refine MY (f:=f) (xs:=(u::(c.args.map a.eval).toList).toArray) ?_ ⟨e2,e3.mono fun e w' hw=>?_⟩
    ·rw[←e1];unfold execOp;simp only[ho,resolve,M3,Sem.run_bind,Sem.run_pure,Result.andThen_ok,invoke];exact congrArg (fun z:Sem Next=>z.run P w) (aaF (fun v=>callMethod v name) (a.eval r) (Array.map a.eval c.args))
    ·obtain⟨v,I',h1,h2,h3,h4,h5,h6⟩:=hw;refine⟨v,h1,?_⟩;obtain⟨m1,m2⟩:=s1.ok.far (I':=I') h2 h3 h4 h5;refine hK ⟨I',jC.loc⟩ _ w' (s1.aW m2 m1 hd (h6.rep (fun _ _ hi=>hi))) ?_;cases o.dst<;>exact s2.trans m2
   ·exact absurd hr (by intro k;cases k)
  ·exact absurd hr (by intro k;cases k)
theorem UF{I:Nat→Nat→Prop}{tid:TypeId}{u:Nat}:∀{t:Ty} {a:Ty} {f:a.den→t.den},Den P t tid→Ui t u=some ⟨a,f⟩ →
  P.concrete u=true∧∀(y:a.den) (cs:List Value),bN w I a y cs→bN w I t (f y) [.iface u (cM a cs)]:=by
 intro t;induction t with
 | alt n a r kM ihr =>
   intro b f hd h;unfold Ui at h;obtain⟨h1,h2⟩:=hd.rest;cases hn:Nat.beq n u with
   | true =>
     rw[hn] at h;obtain rfl:=gz hn;cases h;exact⟨h2,fun y cs hy=>⟨h1.adi hd,cs,rfl,hy⟩⟩
   | false =>
     rw[hn] at h;simp only[jM] at h;split at h
     ·rename_i b' g hg;cases h;obtain⟨k1,k2⟩:=ihr h1 hg;exact⟨k1,fun y cs hy=>k2 y cs hy⟩
     ·cases h
 | _=>intro b f hd h;cases h
theorem age{tid:TypeId}{u:Nat}{t:Ty}{a:Ty}{f:a.den→t.den}(hd:Den P t tid)(h:Ui t u=some ⟨a,f⟩):t.isAgg=false:=by
 cases t with
 | alt n b r=>simp only[Den,fI,dW] at hd;exact(Ty.ME hd.2).2
 | _=>cases h
theorem Lh(hc:gA P cx){ty u:TypeId}{x:Operand}(h:dB B N γ σ a w)(hd:∀k,d=some k→k<N)(hr:(tP cx d ty u (cL σ x) σ).run=some σ') :
  p6 P B N γ σ a w d (Instr.makeInterface u (a.eval x)) σ':=by
 unfold tP at hr;split at hr
 ·rename_i t ht;have yp:=hc.T _ _ ht;split at hr
  ·rename_i b f hf;split at hr
   ·rename_i y σ1 hg;obtain rfl:=aN hr;obtain⟨jC,s1,s2,cs,s3,s4⟩:=oc h (h.cL x) hg;obtain⟨k1,k2⟩:=UF (w:=w) (I:=jC.I) yp hf;have s4':a.eval x=cM b cs:=by simpa using s4
    have hag:=age yp hf;refine⟨.iface u (a.eval x),w,jC,run_makeInterface w u _ k1,s1.xy hd ⟨_,k2 y cs s3,?_⟩,?_⟩
    ·rw[s4'];unfold cM;rw[hag];rfl
    ·cases d<;>exact s2
   ·exact absurd hr (by intro k;cases k)
  ·exact absurd hr (by intro k;cases k)
 ·exact absurd hr (by intro k;cases k)
theorem UG{o:Oper}{s:Sem Unit}{K:Act→World→Prop}{Q:Exit→Act→World→Prop}(hs:execOp a.eval o=(do s;pure .skip))(Xh:o.dst=none)
  (h:∃w' γ',s.run P w=.ok () w'∧dB B N γ' σ' a w'∧Ext B γ σ.mem w γ' σ'.mem w') (hK:G9 B N γ σ a w o.dst σ' K):o.wp P a w K Q:=by
 obtain⟨w',γ',h1,h2,h3⟩:=h;unfold Oper.wp;rw[hs];simp only[Sem.run_bind,h1,Result.andThen_ok,Sem.run_pure,Oper.upon_skip];exact hK γ' _ w' (by rw[Xh];exact h2) h3
theorem F1{d:Option Nat}{k:Nat}(h:Uh bf d=some k):d=some k∧dD bf k=true:=by
 unfold Uh at h;split at h
 ·rename_i d;cases hb:dD bf d with
  | false=>rw[hb] at h;cases h
  | true=>rw[hb] at h;obtain rfl:=aN h;exact⟨rfl,hb⟩
 ·cases h
theorem M4(hc:gA P cx)(eS:rD P B.G cx)(ny:yG P B.G inl){o:Oper}(h:dB B N γ σ a w)(hd:∀k,o.dst=some k→k<N)
  (hr:(rW cx nb bf inl o σ).run=some σ') {K:Act→World→Prop} {Q:Exit→Act→World→Prop} (hK:G9 B N γ σ a w o.dst σ' K):o.wp P a w K Q:=by
 unfold rW at hr;split at hr
 case h_1 x ho=>exact b5 (s:=pure (a.eval x)) (by simp only[execOp,ho];rfl) (Ay hc h hd hr) hK
 case h_2 x ho=>exact b5 (s:=pure (a.eval x)) (by simp only[execOp,ho];rfl) (Ay hc h hd hr) hK
 case h_3 c x y ho=>exact b5 (s:=do pure (if ←asBool (a.eval c) then a.eval x else a.eval y)) (by simp only[execOp,ho];simp[bind_assoc]) (ML h hd hr) hK
 case h_4 elem ho =>
  split at hr
  ·rename_i k t hk hT;rw[hk] at hd;refine b5 (s:=Instr.alloc elem true (.tuple #[])) (by simp only[execOp,ho]) ?_ hK;rw[hk];exact K9 hc h (hd k rfl) hT hr
  ·rename_i k hk hT;rw[hk] at hd;refine b5 (s:=Instr.alloc elem true (.tuple #[])) (by simp only[execOp,ho]) ?_ hK;rw[hk];split at hr
   ·rename_i fs hO;exact K8 hc h (hd k rfl) hO hr
   ·obtain⟨h1,hr2⟩:=aD hr;exact K7 hc h (hd k rfl) h1 hr2
  ·exact absurd hr (by intro k;cases k)
 case h_5 elem x ho =>
  unfold GN at hr;split at hr
  ·exact absurd hr (by intro k;cases k)
  ·exact absurd hr (by intro k;cases k)
  ·rename_i k hk h1 h2;rw[hk] at hd;refine b5 (s:=Instr.box elem (a.eval x)) (by simp only[execOp,ho]) ?_ hK;rw[hk];split at hr
   ·exact O9 h (hd k rfl) h1 h2 hr
   ·exact aaz h (hd k rfl) h1 h2 hr
  ·exact absurd hr (by intro k;cases k)
 case h_6 t parts ho =>
  refine b5 (s:=Instr.build t (parts.map fun(i,x)=>(i,a.eval x))) (by simp only[execOp,ho]) ?_ hK;split at hr
  ·rename_i u v hT;split at hr
   ·rename_i x σ1 hb;obtain rfl:=aN hr;exact FX hc h hd hT hb
   ·exact absurd hr (by intro k;cases k)
  ·rename_i n e hT;split at hr
   ·rename_i l σ1 hb;obtain rfl:=aN hr;exact G5 hc h hd hT hb
   ·exact absurd hr (by intro k;cases k)
  ·split at hr
   ·rename_i fs hO;split at hr
    ·rename_i z0 hz0;split at hr
     ·rename_i p q hb;obtain rfl:=aN hr;exact Lb hc h hd hO hz0 hb
     ·rename_i u hb;obtain rfl:=aN hr;exact Jb hc h hd hO hz0 hb
     ·exact absurd hr (by intro k;cases k)
    ·exact absurd hr (by intro k;cases k)
   ·exact absurd hr (by intro k;cases k)
  ·exact absurd hr (by intro k;cases k)
 case h_7 t n parts ho =>
  refine b5 (s:=Instr.buildSlice t n (parts.map fun(i,x)=>(i,a.eval x))) (by simp only[execOp,ho]) ?_ hK;split at hr
  ·rename_i e hT;split at hr
   ·rename_i k bO hparts;obtain⟨hk,_⟩:=F1 bO;have hp:parts=#[]:=by simpa using hparts
    rw[hk,hp];rw[hk] at hd;rw[Array.map_empty];exact Jd hc h (hd k rfl) hT hr
   ·obtain⟨hn,hr2⟩:=aD hr;split at hr2
    ·rename_i l σ1 hb;obtain rfl:=aN hr2;exact Jc hc h hd hT hn hb
    ·exact absurd hr2 (by intro k;cases k)
  ·exact Pc hc h hd hr
  ·exact absurd hr (by intro k;cases k)
 case h_8 t x ho=>exact b5 (s:=Instr.loadAt t (a.eval x)) (by simp only[execOp,ho]) (MP hc h hd hr) hK
 case h_9 t x y ho =>
  split at hr
  ·rename_i hk;exact UG (s:=Instr.storeAt t (a.eval x) (a.eval y)) (by simp only[execOp,ho]) hk (K6 hc h hr) hK
  ·exact absurd hr (by intro k;cases k)
 case h_10 x ho =>
  have hv:=h.cL x;have fin:∀{v:aS} {y:Value},a.eval x=y→execOp a.eval o=(do pure (.value (←(pure y:Sem Value))))→cI γ σ.mem w v .val [y]→σ'=σ.aW o.dst v→o.wp P a w K Q:=by
   intro v y he hs hr0 hσ;subst hσ;exact b5 (s:=pure y) hs (bU h hd rfl hr0) hK
  split at hr
  ·rename_i b aC p hx;rw[hx] at hv;obtain⟨hl,hr2⟩:=aD hr;obtain⟨bx,hb,bF⟩:=kV hl;obtain⟨blk,cap,g1,g2⟩:=bC hb bF hv.2;have g2:=zq g2;rw[g2] at hv;exact fin g2 (by simp only[execOp,ho,g2];rfl) hv (aN hr2).symm
  ·rename_i t y hx;rw[hx] at hv;obtain⟨blk,off,cs,g1,g2,g3⟩:=id hv;have g1:=zq g1;rw[g1] at hv;exact fin g1 (by simp only[execOp,ho,g1];rfl) hv (aN hr).symm
  ·rename_i f c hx;rw[hx] at hv;obtain⟨arr,g1,g2,g3⟩:=id hv;have g1:=zq g1;rw[g1] at hv;exact fin g1 (by simp only[execOp,ho,g1];rfl) hv (aN hr).symm
  ·exact absurd hr (by intro k;cases k)
 case h_11 op xt x y pos ho =>
  obtain⟨v,hb,hr2⟩:=bind_some hr;obtain rfl:=aN hr2;obtain⟨z,z1,z2⟩:=WY (P:=P) (x:=x) (y:=y) hc (h.cL x) (h.cL y) hb;refine b5 (s:=iA op xt x y (a.eval x) (a.eval y)) (by simp only[execOp,ho,iA]) (bU h hd z1 z2) hK
 case h_12 op ty x ho =>
  obtain⟨v,hb,hr2⟩:=bind_some hr;obtain rfl:=aN hr2;obtain⟨z,z1,z2⟩:=adm (P:=P) (h.cL x) hb;exact b5 (s:=Op.unary op (a.eval x)) (by simp only[execOp,ho]) (bU h hd z1 z2) hK
 case h_13 src dst x ho=>exact b5 (s:=convert src dst (a.eval x)) (by simp only[execOp,ho]) (G7 hc h hd hr) hK
 case h_14 f first caps ho =>
  split at hr
  ·rename_i cs aib hcs;obtain rfl:=aN hr;refine b5 (s:=Instr.makeFunc (.func f) #[] (caps.map a.eval)) ?_ (MQ h hd hcs) hK;have:first=#[]:=by simpa using aib
   simp only[execOp,ho,this,show Array.map a.eval #[]=#[] from by simp]
  ·exact absurd hr (by intro k;cases k)
 case h_15 t x lo hi ho=>exact b5 (s:=Instr.sliceAt t (a.eval x) (lo.map a.eval) (hi.map a.eval) none) (by simp only[execOp,ho];rfl) (K5 hc h hd hr) hK
 case h_16 s x k ho=>exact b5 (s:=Instr.fieldAt s (a.eval x) k) (by simp only[execOp,ho]) (EM hc h hd hr) hK
 case h_17 xt x k ho =>
  have hv:=h.cL x;split at hr
  ·rename_i u y hx;rw[hx] at hv;obtain⟨hT,hr2⟩:=aD hr;split at hr2
   ·rename_i off v hf;obtain rfl:=aN hr2;obtain⟨z,z1,z2⟩:=Us (P:=P) hc (jG hT) hv hf;exact b5 (s:=Instr.field xt (a.eval x) k) (by simp only[execOp,ho]) (bU h hd z1 z2) hK
   ·exact absurd hr2 (by intro k;cases k)
  ·exact absurd hr (by intro k;cases k)
 case h_18 t x i ho =>
  split at hr
  ·rename_i ki n hi;have hv:=h.cL i;rw[hi] at hv;obtain⟨ei,_⟩:=vM hv;refine b5 (s:=Instr.indexAt t (a.eval x) (a.eval i)) (by simp only[execOp,ho]) ?_ hK;rw[ei];cases hm:dD bf 5000000 with
   | true=>rw[hm] at hr;exact K3 hc h hd hr
   | false=>rw[hm] at hr;exact wg hc h hd hr
  ·exact absurd hr (by intro k;cases k)
 case h_19 t x i ho =>
  split at hr
  ·rename_i ki n hi;have hv:=h.cL i;rw[hi] at hv;obtain⟨ei,_⟩:=vM hv;refine b5 (s:=Instr.index t (a.eval x) (a.eval i)) (by simp only[execOp,ho]) ?_ hK;rw[ei];exact K4 hc h hd hr
  ·exact absurd hr (by intro k;cases k)
 case h_20 t l c ho =>
  split at hr
  ·rename_i k e kl ln kc cn hk hT hl hcc;rw[hk] at hd;obtain⟨hin,hr2⟩:=cF hr;obtain⟨hf,jP⟩:=cF hr2;refine b5 (s:=Instr.makeSlice t (a.eval l) (a.eval c)) (by simp only[execOp,ho]) ?_ hK;rw[hk];exact Lc hc h (hd k rfl) hT hl hcc hin hf jP
  ·exact absurd hr (by intro k;cases k)
 case h_21 t k ho =>
  split at hr
  ·rename_i vs hx;split at hr
   ·rename_i v hn;obtain rfl:=aN hr;exact b5 (s:=Instr.extract (a.eval t) k) (by simp only[execOp,ho]) (Pb h hd hx hn) hK
   ·exact absurd hr (by intro k;cases k)
  ·exact absurd hr (by intro k;cases k)
 case h_22 c ho=>exact Xg hc eS ny ho h hd hr hK
 case h_23 u x ho=>exact b5 (s:=Instr.makeInterface u (a.eval x)) (by simp only[execOp,ho]) (Lh hc h hd hr) hK
 case h_24=>exact absurd hr (by intro k;cases k)
end
end Go.Ge
namespace Go.Ge
open RowKit
def bD(σ σ':St):Prop:=∀b bx,σ.mem b=some bx→bx.lk=true→σ'.mem b=some bx
theorem bD.refl(σ:St):bD σ σ:=fun _ _ h _=>h
theorem bD.trans{σ σ' agf:St}(h:bD σ σ')(k:bD σ' agf):bD σ agf:=fun b bx hb hl=>k b bx (h b bx hb hl) hl
theorem bD.put(σ:St)(d:Nat)(v:aS):bD σ (σ.put d v):=fun _ _ h _=>h
theorem bD.aW(σ:St)(d:Option Nat)(v:aS):bD σ (σ.aW d v):=by cases d<;>exact fun _ _ h _=>h
theorem bD.adC{σ σ':St}(h:σ'.mem=σ.mem):bD σ σ':=fun b bx hb _=>by rw[h];exact hb
theorem jR{σ:St}{b:Nat}{bx:Box}(h:∀dM,σ.mem b=some dM→dM.lk=false):bD σ (σ.cm b bx):=fun c cx hc hl=>by
 by_cases e:c=b
 ·subst e;rw[h cx hc] at hl;cases hl
 ·rw[xz,aR _ e];exact hc
theorem oh{β:Type}{σ:St}{b:Nat}{val:aS}{tid:TypeId}{buf:Bool}{k:Nat→St→Tree β}{y:β}(h:(σ.aQ b val tid buf k).run=some y) :
  ∃aC,bD σ (σ.cm b { val,tid,buf,ro:=false,lk:=false,aC })∧(k aC (σ.cm b { val,tid,buf,ro:=false,lk:=false,aC })).run=some y:=by
 unfold St.aQ at h;split at h
 ·rename_i bx hb;cases hl:bx.lk with
  | true=>rw[hl] at h;cases h
  | false =>
    rw[hl] at h;exact⟨bx.aC+1,jR (fun dM h0=>by rw[hb] at h0;obtain rfl:=aN h0;exact hl),h⟩
 ·rename_i hb;exact⟨0,jR (fun dM h0=>by rw[hb] at h0;cases h0),h⟩
theorem Kc{σ σ':St}{b:Nat}(h:freeze σ b=some σ'):bD σ σ':=by
 unfold freeze at h;split at h
 ·rename_i bx hb;cases hro:bx.ro with
  | true=>simp only[hro,gp,vJ] at h;rw[←h];exact bD.refl _
  | false =>
    cases hlk:bx.lk with
    | true=>simp[hro,hlk] at h
    | false =>
      simp only[hro,hlk,jM,vJ] at h;rw[←h];exact jR fun dM h0=>by rw[hb] at h0;obtain rfl:=aN h0;exact hlk
 ·cases h
theorem Sj:∀{v:aS} {σ σ':St},iy σ v=some σ'→bD σ σ':=by
 intro v;induction v with
 | mix p q W4 Uv =>
   intro σ σ' h;obtain⟨σ1,h1,h2⟩:=yE h;exact(W4 h1).trans (Uv h2)
 | whole b aC=>intro σ σ' h;exact Kc h
 | part b aC lo n=>intro σ σ' h;exact Kc h
 | _=>intro σ σ' h;obtain rfl:=aN h;exact bD.refl _
theorem rG{t:Ty}{x:t.den}{v:aS}{σ σ':St}(h:Ap σ t v=some (x,σ')):bD σ σ':=by
 unfold Ap at h;split at h
 ·split at h
  ·obtain⟨_,rfl⟩:=e9 (aN h);exact bD.refl _
  ·cases h
 ·split at h
  ·rename_i y σ1 hl hf;obtain⟨_,rfl⟩:=e9 (aN h);exact Sj hf
  ·cases h
theorem sn:∀{A:Ty} {x:A.den} {vs:List aS} {σ σ':St},lU σ A vs=some (x,σ')→bD σ σ':=by
 intro A;induction A with
 | pair t r Mw ihr =>
   intro x vs σ σ' hl;cases vs with
   | nil=>cases hl
   | cons v vs =>
     simp only[lU] at hl;split at hl
     ·rename_i p σ1 hp;split at hl
      ·rename_i q σ2 hq;obtain⟨_,rfl⟩:=e9 (aN hl);exact(rG hp).trans (ihr hq)
      ·cases hl
     ·cases hl
 | unit =>
   intro x vs σ σ' hl;cases vs with
   | nil=>obtain⟨_,rfl⟩:=e9 (aN hl);exact bD.refl _
   | cons v vs=>cases hl
 | _=>intro x vs σ σ' hl;cases vs<;>cases hl
theorem Li{t:Ty}:∀{parts:List (Nat×Operand)} {x x':t.den} {σ σ':St},hU σ t x parts=some (x',σ')→bD σ σ':=by
 intro parts;induction parts with
 | nil=>intro x x' σ σ' h;obtain⟨_,rfl⟩:=e9 (aN h);exact bD.refl _
 | cons p r ih =>
   obtain⟨k,o⟩:=p;intro x x' σ σ' h;simp only[hU] at h;split at h
   ·split at h
    ·rename_i hg;split at h
     ·exact(rG hg).trans (ih h)
     ·cases h
    ·cases h
   ·cases h
theorem CY{e:Ty}:∀{parts:List (Nat×Operand)} {l l':List e.den} {σ σ':St},gO σ e l parts=some (l',σ')→bD σ σ':=by
 intro parts;induction parts with
 | nil=>intro x x' σ σ' h;obtain⟨_,rfl⟩:=e9 (aN h);exact bD.refl _
 | cons p r ih =>
   obtain⟨k,o⟩:=p;intro l l' σ σ' h;simp only[gO] at h;split at h
   ·rename_i hg;cases hlt:Nat.blt k l.length with
    | false=>rw[hlt] at h;cases h
    | true=>rw[hlt] at h;exact(rG hg).trans (ih h)
   ·cases h
theorem Hi{b aC:Nat}{p:List FP}{fit:aS→Bool}{u:aS}{σ σ':St}(hr:(storeAt b aC p fit u σ).run=some σ'):bD σ σ':=by
 unfold storeAt at hr;split at hr
 case h_2=>exact absurd hr (by intro k;cases k)
 rename_i bx hb;obtain⟨hc,hr2⟩:=aD hr;simp only[dW,nq] at hc;obtain⟨old,hn,jP⟩:=bind_some hr2;obtain⟨hfit,oV⟩:=aD jP;obtain⟨c,hs,O6⟩:=bind_some oV;obtain rfl:=aN O6;exact jR fun dM h0=>by rw[hb] at h0;obtain rfl:=aN h0;exact hc.1.2
theorem Sk{b aC:Nat}{p:List FP}{n:Nat}{u:aS}{σ σ':St}(hr:(uq b aC p n u σ).run=some σ'):bD σ σ':=by
 unfold uq at hr;split at hr
 case h_2=>exact absurd hr (by intro k;cases k)
 rename_i bx hb;obtain⟨hc,hr2⟩:=aD hr;simp only[dW,nq] at hc;obtain⟨old,hn,jP⟩:=bind_some hr2;obtain⟨hfit,oV⟩:=aD jP;obtain⟨c,hs,O6⟩:=bind_some oV;obtain⟨hpc,hr6⟩:=aD O6;obtain rfl:=aN hr6;exact jR fun dM h0=>by rw[hb] at h0;obtain rfl:=aN h0;exact hc.1.1.1.2
theorem M5{cx:Ctx}{bf:List Nat}{ty:TypeId}{x y:aS}{σ σ':St}(hr:(mP cx bf ty x y σ).run=some σ'):bD σ σ':=by
 unfold mP at hr;split at hr
 case h_2=>exact absurd hr (by intro k;cases k)
 split at hr
 case h_2=>exact absurd hr (by intro k;cases k)
 obtain⟨bF,hr2⟩:=aD hr;obtain⟨old,hn,jP⟩:=bind_some hr2;split at jP
 ·rename_i u _;obtain⟨hT,oV⟩:=aD jP;cases hq:dD bf 8000000&&adb u y with
  | true=>rw[hq] at oV;exact Sk oV
  | false =>
  rw[hq] at oV;replace oV:(match Ap σ u y with|some (y,σ)=>storeAt _ _ _ (aaq u) (.data u y) σ|none=>.fail).run=some σ':=oV;split at oV
  ·rename_i hg;exact(rG hg).trans (Hi oV)
  ·exact absurd oV (by intro k;cases k)
 ·obtain⟨hT,oV⟩:=aD jP;exact Hi oV
theorem Cf{cx:Ctx}{nb:Nat}{d:Option Nat}{ty:TypeId}{s x:aS}{σ σ':St}(hr:(iZ cx nb d ty s x σ).run=some σ'):bD σ σ':=by
 unfold iZ at hr;split at hr
 case h_2=>exact absurd hr (by intro k;cases k)
 split at hr
 case h_2=>exact absurd hr (by intro k;cases k)
 split at hr
 ·obtain⟨hf,hr2⟩:=cF hr;obtain⟨aC,k1,k2⟩:=oh hr2;obtain rfl:=aN k2;exact k1.trans (bD.put _ _ _)
 ·split at hr
  case h_2=>exact absurd hr (by intro k;cases k)
  rename_i bx l hb hl;obtain⟨hlk,kW⟩:=Bm hr;have hlk:=(Bool.or_eq_false_iff.1 hlk).1;obtain⟨hf,hr2⟩:=cF kW;obtain rfl:=aN hr2;exact(jR fun dM h0=>by rw[hb] at h0;obtain rfl:=aN h0;exact hlk).trans (bD.put _ _ _)
 ·exact absurd hr (by intro k;cases k)
theorem zG{e:Ty}{m:List e.den}{b aC:Nat}{q:List FP}{chk:Nat→Ty→Bool}{lo:Int}{σ σ':St}(hr:(kT e m b aC q chk lo σ).run=some σ'):bD σ σ':=by
 unfold kT at hr;split at hr
 case h_2=>exact absurd hr (by intro k;cases k)
 rename_i bx hb;obtain⟨hc,hr2⟩:=aD hr;simp only[dW,nq] at hc;have fin:∀{iJ:Box},bD σ (σ.cm b iJ):=fun {iJ}=>jR fun dM h0=>by rw[hb] at h0;obtain rfl:=aN h0;exact hc.1.2
 split at hr2
 ·split at hr2
  ·split at hr2
   ·obtain rfl:=aN hr2;exact fin
   ·exact absurd hr2 (by intro k;cases k)
  ·exact absurd hr2 (by intro k;cases k)
 ·obtain⟨old,_,jP⟩:=bind_some hr2;split at jP
  ·obtain⟨_,oV⟩:=aD jP;split at oV
   ·obtain⟨c,_,O6⟩:=bind_some oV;obtain rfl:=aN O6;exact fin
   ·exact absurd oV (by intro k;cases k)
  ·exact absurd jP (by intro k;cases k)
theorem Kd{e:Ty}{mf:Int→List e.den}{t:aS}{σ:St}{r:Int×St}(hr:(IX e mf t σ).run=some r):bD σ r.2:=by
 unfold IX at hr;split at hr
 ·obtain⟨σ1,h1,h2⟩:=bind_some hr;obtain rfl:=aN h2;exact zG h1
 ·split at hr
  ·obtain⟨σ1,h1,h2⟩:=bind_some hr;obtain rfl:=aN h2;exact zG h1
  ·exact absurd hr (by intro k;cases k)
 ·obtain⟨σ1,h1,h2⟩:=bind_some hr;obtain rfl:=aN h2;exact zG h1
 ·exact absurd hr (by intro k;cases k)
theorem Xi{σ:St}:∀{ps:List Bool} {A U:Ty} {vs:List aS} {x:A.den} {u:U.den} {ns:List Nat},ur σ ps A U vs=some (x,u,ns)→∀b∈ns,∀bx,σ.mem b=some bx→bx.lk=false:=by
 intro ps;induction ps with
 | nil =>
   intro A U vs x u ns h;cases A<;>first|(cases h;done)|skip
   cases U<;>first|(cases h;done)|skip
   cases vs with
   | cons v r=>cases h
   | nil =>
     obtain⟨_,q⟩:=e9 (aN h);obtain⟨_,rfl⟩:=e9 q;intro b hb;cases hb
 | cons p ps ih =>
   intro A U vs x u ns h;cases p with
   | false =>
     cases A<;>first|(cases h;done)|skip
     cases vs with
     | nil=>cases h
     | cons v r =>
       simp only[ur] at h;split at h
       ·rename_i h2;obtain⟨_,q⟩:=e9 (aN h);obtain⟨_,rfl⟩:=e9 q;exact ih h2
       ·cases h
   | true =>
     cases U<;>first|(cases h;done)|skip
     cases vs with
     | nil=>cases h
     | cons v0 r =>
     cases v0<;>first|(cases h;done)|skip
     rename_i b aC pth;cases pth with
     | cons _ _=>cases h
     | nil =>
     simp only[ur] at h;split at h
     case h_2=>cases h
     rename_i bx hb;cases hcd:(Nat.beq bx.aC aC&&!bx.buf&&!bx.lk&&!bx.ro&&Nat.beq bx.tid 0) with
     | false=>rw[hcd] at h;cases h
     | true =>
       rw[hcd] at h;simp only[dW,nq] at hcd;simp only[gp] at h;split at h
       case h_2=>cases h
       rename_i x1 y1 u1 ns1 h1 h2;cases hmn:dD ns1 b with
       | true=>rw[hmn] at h;cases h
       | false =>
         rw[hmn] at h;obtain⟨_,q⟩:=e9 (aN h);obtain⟨_,rfl⟩:=e9 q;intro c hc cx hcx;rcases List.mem_cons.1 hc with rfl|hc
         ·rw[hb] at hcx;obtain rfl:=aN hcx;exact hcd.1.1.2
         ·exact ih h2 c hc cx hcx
theorem Xj:∀{U:Ty} {u:U.den} {ns:List Nat} {c:Nat} {v:aS},rV U u ns c=some v→c∈ns:=by
 intro U;induction U with
 | pair t U Mw Xb =>
   intro u ns c v h;cases ns with
   | nil=>cases h
   | cons b r =>
     simp only[rV] at h;cases hb:Nat.beq c b with
     | true=>obtain rfl:=gz hb;exact nX ..
     | false=>rw[hb] at h;exact qU _ (Xb h)
 | _=>intro u ns c v h;cases h
theorem Sl{ps:List Bool}{A U:Ty}{vs:List aS}{x:A.den}{u y:U.den}{ns:List Nat}{σ:St}(h:ur σ ps A U vs=some (x,u,ns)):bD σ (wz U y ns σ):=fun b bx hb hl=>by
 rw[vg];cases hv:rV U y ns b with
 | none=>exact hb
 | some v =>
   have:=Xi h b (Xj hv) bx hb;rw[hl] at this;cases this
theorem Sn{s:Spc}{d:Option Nat}{vals:List aS}{σ σ':St}(hr:(D7 s d vals σ).run=some σ'):bD σ σ':=by
 unfold D7 at hr;split at hr
 ·split at hr
  case h_2=>cases hr
  split at hr
  case h_2=>cases hr
  obtain⟨_,hr2⟩:=aD hr;obtain rfl:=aN hr2;exact bD.aW _ _ _
 ·split at hr
  case h_2=>cases hr
  split at hr
  case h_2=>cases hr
  obtain⟨_,hr2⟩:=aD hr;split at hr2
  case h_2=>cases hr2
  rename_i hx hhx;obtain⟨hcd,jP⟩:=aD hr2;simp only[dW,nq] at hcd;split at jP
  case h_2=>cases jP
  obtain rfl:=aN jP;exact(jR fun dM h0=>by rw[hhx] at h0;obtain rfl:=aN h0;exact hcd.1.1.2).trans (bD.aW _ _ _)
 ·cases hr
theorem Xk{b aC:Nat}:∀{fs:List p4} {j:Nat} {σ:St} {r:aS×St},(mkObj b aC fs j σ).run=some r→bD σ r.2:=by
 intro fs;induction fs with
 | nil=>intro j σ r hr;obtain rfl:=aN hr;exact bD.refl _
 | cons f q ih =>
   intro j σ r hr;cases f with
   | buf e gd =>
     obtain⟨_,kW⟩:=aD hr;obtain⟨aC,k1,k2⟩:=oh kW;obtain⟨y,h1,h2⟩:=bind_some k2;obtain rfl:=aN h2;have:=ih h1;exact k1.trans this
   | _ =>
     obtain⟨y,h1,h2⟩:=bind_some hr;obtain rfl:=aN h2;have:=ih h1;exact this
theorem Sp{b:Nat}:∀{fs:List p4} {j:Nat} {v:aS} {σ:St} {r:aS×St},(oX b fs j v σ).run=some r→bD σ r.2:=by
 intro fs;induction fs with
 | nil =>
   intro j v σ r hr;obtain rfl:=J9 hr;exact bD.refl _
 | cons f q ih =>
   intro j v σ r hr;rcases G4 hr with ⟨x,u,y,rfl,h1,rfl⟩|⟨e,gd,u,rfl,he,kW⟩
   ·have:=ih h1;exact this
   ·obtain⟨aC,k1,k2⟩:=oh kW;obtain⟨y,h1,h2⟩:=bind_some k2;obtain rfl:=aN h2;have:=ih h1;exact k1.trans this
theorem UH{cx:Ctx}{inl:Nat→List aS→St→Tree (aS×St)}(ny:∀f vals σ v σ',(inl f vals σ).run=some (v,σ')→bD σ σ'){d:Option Nat}{f:Nat}{vals:List aS}{σ σ':St}
  (hr:(zB cx inl d f vals σ).run=some σ'):bD σ σ':=by
 unfold zB at hr;split at hr
 ·split at hr
  ·split at hr
   ·obtain⟨y,hy,hr2⟩:=cl hr;obtain rfl:=aN hr2;exact bD.aW _ _ _
   ·exact absurd hr (by intro k;cases k)
  ·split at hr
   ·rename_i hx;obtain⟨y,hy,hr2⟩:=cl hr;obtain rfl:=aN hr2;exact(sn hx).trans (bD.aW _ _ _)
   ·exact absurd hr (by intro k;cases k)
 ·have He:((inl f vals σ).bind fun r=>.ret (r.2.aW d r.1):Tree St).run=some σ'→bD σ σ':=by
   intro hr;obtain⟨r,kW,hr2⟩:=bind_some hr;obtain rfl:=aN hr2;exact(ny _ _ _ _ _ kW).trans (bD.aW _ _ _)
  split at hr
  ·exact Sn hr
  split at hr
  ·rename_i c hcr;split at hr
   ·rename_i x u ns hx;obtain⟨y,hy,hr2⟩:=cl hr;obtain rfl:=aN hr2;exact(Sl hx).trans (bD.aW _ _ _)
   ·exact He hr
  ·exact He hr
theorem M6{nb:Nat}{e:Ty}{d:Option Nat}{vals:List aS}{σ σ':St}(hr:(mT nb e d vals σ).run=some σ'):bD σ σ':=by
 unfold mT at hr;split at hr
 case h_2=>cases hr
 split at hr
 case h_2=>cases hr
 rename_i hg;obtain⟨_,hr⟩:=aD hr;obtain⟨_,hr⟩:=cF hr;obtain⟨aC,k1,k2⟩:=oh hr;obtain rfl:=aN k2;exact((rG hg).trans k1).trans (bD.aW _ (some _) _)
theorem Sq{e A:Ty}{res:Bool}{spec:List e.den→A.den→Option (List e.den)}{d:Option Nat}{vals:List aS}{σ σ':St}(hr:(uu e A res spec d vals σ).run=some σ'):bD σ σ':=by
 unfold uu at hr;split at hr
 case h_2=>cases hr
 split at hr
 case h_2=>cases hr
 rename_i hg;split at hr
 case h_2=>cases hr
 rename_i b aC bx l hor;obtain⟨l',_,hr⟩:=cl hr;obtain⟨hb,bF,bO,hlk,hro,jb,_⟩:=vh hor;have key:∀iJ,bD _ (St.cm _ b iJ):=fun iJ=>jR fun dM h0=>by rw[hb] at h0;obtain rfl:=aN h0;exact hlk
 cases res with
 | true =>
   cases d with
   | none=>cases hr
   | some k=>obtain rfl:=aN hr;exact((sn hg).trans (key _)).trans (bD.aW _ (some _) _)
 | false =>
   cases d with
   | none=>obtain⟨_,hr⟩:=aD hr;obtain rfl:=aN hr;exact((sn hg).trans (key _)).trans (bD.aW _ none _)
   | some k=>obtain⟨_,hr⟩:=aD hr;obtain rfl:=aN hr;exact((sn hg).trans (key _)).trans (bD.aW _ (some _) _)
theorem Sr{cx:Ctx}{nb:Nat}{bf:List Nat}{inl:Nat→List aS→St→Tree (aS×St)}(ny:∀f vals σ v σ',(inl f vals σ).run=some (v,σ')→bD σ σ'){d:Option Nat}{f:Nat}{vals:List aS}{σ σ':St}
  (hr:(wA cx nb bf inl d f vals σ).run=some σ'):bD σ σ':=by
 unfold wA at hr;split at hr
 ·exact M6 hr
 ·exact Sq hr
 ·exact UH ny hr
end Go.Ge
