/- A ghost interpreter of the model's code, and that it tells the truth: part 6. It says of a function of plain data what a call of it comes to. -/
import Derived.Test.YtkmbhcglaophaaaGeE
import Derived.Laws.Build
set_option linter.unusedVariables false
set_option linter.unusedSimpArgs false
set_option linter.unusedSectionVars false
namespace Go.Ge
open RowKit
def mb(P:Program)(G:eN)(inl:Nat→List av→St→Tree (av×St)):Prop :=
 ∀(B:iP) (γ:Gh) (σ σ':St) (w:World) (f:Nat) (vals:List av) (xs:Array Value) (v:av),B.G=G→aG B γ σ.mem w→gm γ σ.mem w vals xs.toList→(inl f vals σ).run=some (v,σ') →
  (∃fn code,P.funcs[f]?=some fn∧(fn.name == "runtime.NumGoroutine")=false∧fn.body=some code)∧σ'.slots=σ.slots ∧
  Calls P f xs w fun e w'=>∃val γ',e=.returned val∧aG B γ' σ'.mem w'∧Ext B γ σ.mem w γ' σ'.mem w'∧aV γ' σ'.mem w' v .val [val]
section
variable {P:Program} {B:iP} {N:Nat} {γ:Gh} {σ σ':St} {a:Act} {w w':World} {d:Option Nat} {cx:Ctx} {nb:Nat} {bf:List Nat} {inl:Nat→List av→St→Tree (av×St)}
def qI(B:iP)(N:Nat)(γ:Gh)(σ:St)(a:Act)(w:World)(d:Option Nat)(σ':St)(K:Act→World→Prop):Prop :=
 ∀γ' v w',bE B N γ' σ' (a.put d v) w'→Ext B γ σ.mem w γ' σ'.mem w'→K (a.put d v) w'
theorem yP{f:Nat}{fn:Func}{code:Code}(h1:P.funcs[f]?=some fn)(h2:(fn.name == "runtime.NumGoroutine")=false)(h3:fn.body=some code)(args:Array Value)(w:World) :
  (callFunc f args).run P w=.ok (.enter f args) w:=by
 have Ni:¬fn.name = "runtime.NumGoroutine":=by simpa using h2
 simp[callFunc,h1,Ni,h3]
theorem aO{o:Oper}{s:Sem Value}{K:Act→World→Prop}{Q:Exit→Act→World→Prop}(hs:execOp a.eval o=(do pure (.value (←s))))(h:gv P B N γ σ a w o.dst s σ')(hK:qI B N γ σ a w o.dst σ' K):o.wp P a w K Q:=by
 obtain⟨v,w',γ',h1,h2,h3⟩:=h;unfold Oper.wp;rw[hs];simp only[Sem.run_bind,h1,Result.andThen_ok,Sem.run_pure];exact hK γ' _ w' h2 h3
theorem xX{ops:List Operand}(h:bE B N γ σ a w):gm γ σ.mem w (ops.map (aZ σ)) (ops.map a.eval):=by
 refine⟨by simp,fun i v x h1 h2=>?_⟩;rw[wH] at h1 h2;cases ho:ops[i]? with
 | none=>rw[ho] at h1;cases h1
 | some o =>
   rw[ho] at h1 h2;obtain rfl:=au h1;obtain rfl:=au h2;exact h.aZ o
theorem gm.append{mem:Nat→Option aI}{vs us:List av}{xs ys:List Value}(h:gm γ mem w vs xs)(k:gm γ mem w us ys):gm γ mem w (vs++us) (xs++ys):=by
 refine⟨by simp[h.1,k.1],fun i v x h1 h2=>?_⟩;rw[Fw] at h1 h2;rw[h.1] at h2;split at h1
 ·rename_i hi;rw[gd hi] at h2;exact h.2 i v x h1 h2
 ·rename_i hi;rw[cY hi] at h2;exact k.2 _ v x h1 h2
theorem aG.drop{mem:Nat→Option aI}{w':World}(h:aG B γ mem w){b:Nat}{bF bx:aI}(hb:mem b=some bF)(aC:bF.ag<bx.ag)(hw:jR B w w')
  (hold:∀k,k<w.heap.size→(∀c,γ.loc b≠some (k,c))→w'.heap[k]?=w.heap[k]?) (hcell:∀k o,k<w.heap.size→w'.cell? ⟨k,o,none⟩=w.cell? ⟨k,o,none⟩)
  (ew:bn (aK γ b none) (bu mem b bx) w' b bx):aG B (aK γ b none) (bu mem b bx) w'∧Ext B γ mem w (aK γ b none) (bu mem b bx) w':=by
 have hx:Ext B γ mem w (aK γ b none) (bu mem b bx) w' :=
  { below:=hw
    I:=fun _ _ x=>x
    kP:=fun _ _ x=>.inl x
    cells:=fun blk o x=>hcell blk o (h.kO blk o x)
    boxes:=fun c cx hc=>by
     by_cases e:c=b
     ·subst e;obtain rfl:bF=cx:=au (hb.symm.trans hc);exact⟨bx,aH _ _,FH aC,fun e=>absurd e (by omega)⟩
     ·exact⟨cx,by rw[az _ e];exact hc,dB _,fun _=>⟨by simp[aK,e],rfl,rfl⟩⟩ }
 refine⟨?_,hx⟩;exact
  { bX:=h.qu hx
    base:=gK h.base hw.size
    boxes:=fun c cx hc=>by
     by_cases e:c=b
     ·subst e;rw[aH] at hc;obtain rfl:=au hc;exact ew
     ·rw[az _ e] at hc;refine(h.boxes c cx hc).keep hx (by simp[aK,e]) fun blk k hl=>hold blk (h.fresh c blk k (by rw[hc];simp) hl).2 fun k' hl'=>e ?_;exact h.inj c b blk k k' (by rw[hc];simp) (by rw[hb];simp) hl hl'
    inj:=fun c d blk k k' hc hd h1 h2=>by
     by_cases e:c=b
     ·simp only[aK,gd e] at h1;cases h1
     ·by_cases e2:d=b
      ·simp only[aK,gd e2] at h2;cases h2
      ·simp only[aK,cY e] at h1;simp only[aK,cY e2] at h2;rw[az _ e] at hc;rw[az _ e2] at hd;exact h.inj c d blk k k' hc hd h1 h2
    fresh:=fun c blk k hc h1=>by
     by_cases e:c=b
     ·simp only[aK,gd e] at h1;cases h1
     ·simp only[aK,cY e] at h1;rw[az _ e] at hc;have:=h.fresh c blk k hc h1;exact⟨this.1,qe this.2 hw.size⟩
    kO:=fun blk off hi=>qe (h.kO blk off hi) hw.size
    sep:=fun c cx blk k off hc h1 hi=>by
     by_cases e:c=b
     ·simp only[aK,gd e] at h1;cases h1
     ·simp only[aK,cY e] at h1;rw[az _ e] at hc;exact h.sep c cx blk k off hc h1 hi }
theorem Au{mem:Nat→Option aI}{b:Nat}{bx:aI}(h:mem b=some bx):bu mem b bx=mem:=by
 funext i;by_cases e:i=b
 ·subst e;rw[aH,h]
 ·rw[az _ e]
theorem wV{f:Nat}{s:EZ}{vals:List av}{xs:Array Value}(hs:ng P f s)(h:bE B N γ σ a w)(hd:∀k,d=some k→k<N)(hv:gm γ σ.mem w vals xs.toList)
  (hr:(om s d vals σ).run=some σ') {K:Act→World→Prop} (hK:qI B N γ σ a w d σ' K) :
  (∃fn code,P.funcs[f]?=some fn∧(fn.name == "runtime.NumGoroutine")=false∧fn.body=some code)∧Calls P f xs w fun e w'=>∃v,e=.returned v∧K (a.put d v) w':=by
 unfold om at hr;split at hr
 ·rename_i T b ag;split at hr
  case h_2=>cases hr
  rename_i bx hb;split at hr
  case h_2=>cases hr
  rename_i b' v' u un hval;obtain⟨hcd,hr2⟩:=ai hr;obtain rfl:=au hr2;simp only[bY,oh] at hcd;obtain⟨⟨⟨⟨⟨⟨⟨⟨c1,c2⟩,c3⟩,c4⟩,c5⟩,c6⟩,c7⟩,c8⟩,c9⟩:=hcd;have c1:=cB c1;have c5:=cB c5;have c7:=cB c7;have c8:=cB c8;have c6:0<T:=by simpa using c6
  subst c7;subst c8;obtain⟨val,rest,hxs,g1,g2⟩:=hv.cons;have sR:rest=[]:=by have:=g2.1;simpa using this
  subst sR;obtain⟨blk,cap,hl,g3⟩:=aD hb c1 g1.2;have g3:=sD g3;simp only[bt] at g3;obtain rfl:xs=#[.pointer (some ⟨blk,0,none⟩)]:=by apply Array.toList_inj.1;rw[hxs,g3]
  have ew:=h.ok.boxes b' bx hb;unfold bn at ew;rw[c2] at ew;obtain⟨bQ,cap',cur,tid,fr,a1,a2,a3,a4,a5⟩:=ew;rw[hl] at a1;obtain⟨rfl,rfl⟩:=bM (au a1);have cQ:tid=T:=by
   rcases a4 with a4|a4
   ·rw[c5] at a4;exact absurd a4 (FI c6)
   ·rw[a4,c5]
  subst cQ;rw[hval] at a5;obtain⟨F0,E1,e1,e2,e3⟩:=a5;obtain⟨Nu,My,e4,e5,e6⟩:=e3;obtain⟨⟨p,rfl,Mz⟩,La⟩:=e2;obtain⟨q,hq⟩:∃q,Nu=[q]:=by
   cases u<;>first|(cases c9;done)|skip
   obtain⟨⟨q,hq,_⟩,_⟩:=e5;exact⟨q,hq⟩
  subst hq;obtain rfl:My=[]:=e6;have J9:cur=#[p,q]:=by apply Array.toList_inj.1;rw[e1,e4];rfl
  subst J9;obtain⟨Ol,cap2,j1,j2⟩:=aD hb c1 La;rw[hl] at j1;obtain⟨rfl,rfl⟩:=bM (au j1);have j2:p=.pointer none∨p=.pointer (some ⟨blk,0,none⟩):=j2.imp sD sD;refine⟨hs.1,(hs.2 w blk p q fr a2 (a3 0 (by simp)) j2).mono fun e w' hw=>?_⟩;obtain⟨rfl,hw⟩:=hw;refine⟨_,rfl,?_⟩;have hres:∀{γ':Gh} {mem':Nat→Option aI} {w':World},aV γ' mem' w' (.kN .nl) .val [.tuple #[]]:=fun {_ _ _}=>⟨#[],rfl,rfl⟩;rcases hw with rfl|rfl
  ·refine hK γ _ _ (h.nG hd hres) ?_;cases d<;>exact Ext.refl _ _ _ _
  ·have Gd:({ bx with val:=bx.val }:aI)=bx:=by cases bx;rfl
   obtain⟨m1,m2⟩:=h.ok.write hb c4 hl a2 (cur':=#[.pointer (some ⟨blk,0,none⟩),q]) (v:=bx.val) (by simp) (by rw[Gd])
    (fun w' mem' hx hg=>by
     rw[Gd];unfold bn;rw[c2];refine⟨blk,cap,_,tid,fr,hl,hg,fun o ho=>a3 o (by simpa using ho),a4,?_⟩;rw[hval];refine⟨[.pointer (some ⟨blk,0,none⟩)],[q],rfl,?_,[q],[],rfl,e5.ext hx,rfl⟩;have Om:fM mem' b' v' fun _=>∃blk cap,γ.loc b'=some (blk,cap):=by
      obtain⟨bF,k1,k2,k3⟩:=La;obtain⟨dQ,q1,q2,q3⟩:=hx.boxes b' bF k1;exact⟨dQ,q1,gK k2 q2,fun _=>⟨blk,cap,hl⟩⟩
     obtain⟨dQ,q1,q2,q3⟩:=Om;exact⟨⟨_,rfl,rfl⟩,dQ,q1,q2,fun _=>⟨blk,cap,hl,.inr rfl⟩⟩)
   rw[Gd,Au hb] at m1 m2;refine hK γ _ _ (h.aA m2 m1 hd hres) ?_;cases d<;>exact m2
 ·rename_i T E b ag;split at hr
  case h_2=>cases hr
  rename_i bx hb;split at hr
  case h_2=>cases hr
  rename_i b' v' hh LV un hval;obtain⟨hcd,hr2⟩:=ai hr;simp only[bY,oh] at hcd;obtain⟨⟨⟨⟨c1,c2⟩,c5⟩,c6⟩,c7⟩:=hcd;have c1:=cB c1;have c5:=cB c5;have c6:0<T:=by simpa using c6
  split at hr2
  case h_2=>cases hr2
  rename_i hx KK;obtain⟨hcd,dV⟩:=ai hr2;simp only[bY,oh] at hcd;obtain⟨⟨⟨⟨d1,d2⟩,d3⟩,d4⟩,d5⟩:=hcd;have d1:=cB d1;have d4:=cB d4;have d5:0<E:=by simpa using d5
  split at dV
  case h_2=>cases dV
  rename_i l Nv;change List Int at l;obtain rfl:=au dV;obtain⟨val,rest,hxs,g1,g2⟩:=hv.cons;have sR:rest=[]:=by have:=g2.1;simpa using this
  subst sR;obtain⟨blk,cap,hl,g3⟩:=aD hb c1 g1.2;have g3:=sD g3;simp only[bt] at g3;obtain rfl:xs=#[.pointer (some ⟨blk,0,none⟩)]:=by apply Array.toList_inj.1;rw[hxs,g3]
  have ew:=h.ok.boxes b bx hb;unfold bn at ew;rw[c2] at ew;obtain⟨bQ,cap',cur,tid,fr,a1,a2,a3,a4,a5⟩:=ew;rw[hl] at a1;obtain⟨rfl,rfl⟩:=bM (au a1);have cQ:tid=T:=by
   rcases a4 with a4|a4
   ·rw[c5] at a4;exact absurd a4 (FI c6)
   ·rw[a4,c5]
  subst cQ;rw[hval] at a5;obtain⟨F0,E1,e1,e2,e3⟩:=a5;obtain⟨Nu,My,e4,e5,e6⟩:=e3;obtain⟨⟨p,rfl,Mz⟩,La⟩:=e2;obtain⟨⟨q,rfl,hq1⟩,Ka⟩:=e5;obtain rfl:My=[]:=e6;have J9:cur=#[p,q]:=by apply Array.toList_inj.1;rw[e1,e4];rfl
  subst J9;obtain⟨e',n',k1,k2,k3⟩:=aD KK d1 Ka;rw[aI.bD d2 Nv] at k2;obtain⟨rfl,rfl⟩:=bM (au k2);have Kb:=h.ok.boxes hh hx KK;unfold bn at Kb;rw[d2] at Kb;obtain⟨e3,l3,q1,q2,q3⟩:=Kb;rw[Nv] at q1;cases q1;have hlen:(aB l).length=l.length:=by simp[aB]
  let hx':aI:={ hx with val:=.data (.slice (.int .u8)) ([]:List Int),ag:=hx.ag+1 }
  have key:∃og:Option Nat,(∀k,og=some k→∃c,γ.loc hh=some (k,c))∧l.length≤maxLen ∧
    ((og=none∧q=.slice none 0 0∧aB l=[])∨∃(g cap:Nat) (cur:Array Value) (fr':Nat×Nat),og=some g∧q=.slice (some ⟨g,0,none⟩) (aB l).length cap∧w.heap[g]?=some (.cells cur E fr')∧(aB l).length≤cap∧cap≤maxLen∧cur.size=cap∧∀(j:Nat) (x:UInt8),(aB l)[j]?=some x→cur[j]?=some (Value.int .u8 x.toNat)):=by
   rcases k3 with ⟨k3,k4⟩|⟨g,Kc,k3,k4⟩
   ·rcases q3 with ⟨_,q3⟩|⟨_,_,_,_,_,q3,_⟩
    ·subst q3;exact⟨none,(fun k hk=>by cases hk),lO _,.inl ⟨rfl,sD k4,rfl⟩⟩
    ·rw[k3] at q3;cases q3
   ·rcases q3 with ⟨q3,_⟩|⟨g',Nw,Kd,MA,On,q3,q4,q5,q6,q7,q8,q9,JF⟩
    ·rw[k3] at q3;cases q3
    ·rw[k3] at q3;obtain⟨rfl,rfl⟩:=bM (au q3);have Oo:MA=E:=by
      rcases q6 with q6|q6
      ·rw[d4] at q6;exact absurd q6 (FI d5)
      ·rw[q6,d4]
     subst Oo;have Lb:(Ty.int IntKind.u8).size=1:=rfl;have Oq:l.length≤Kc:=q7;refine⟨some g,fun k hk=>⟨Kc,by rw[k3,au hk]⟩,gK Oq q8,.inr ⟨g,Kc,Kd,On,rfl,?_,q4,by omega,q8,by rw[q9,Lb,BF],fun j x hj=>?_⟩⟩
     ·rw[hlen];exact sD k4
     ·simp only[aB,wH,Option.map_eq_some_iff] at hj;obtain⟨y,hy,rfl⟩:=hj;obtain⟨r1,r2,r3⟩:=JF j y hy;rw[Lb,BF] at r1;have hmin:(IntKind.u8).min=0:=by decide
      have hmax:(IntKind.u8).max=255:=by decide
      have PD:0≤y:=by have:=r2;rw[hmin] at this;exact this
      have PE:y≤255:=by have:=r3;rw[hmax] at this;exact this
      have hcell:Kd.toList[j]?=some (.int .u8 y):=by
       have:((Kd.toList.drop j).take 1)[0]?=some (.int .u8 y):=by rw[r1];rfl
       simpa [jw,nk] using this
      have wB:((UInt8.ofNat y.toNat).toNat:Int)=y:=by
       rw[UInt8.toNat_ofNat'];have:y.toNat<256:=by omega
       rw[Nat.mod_eq_of_lt (by simpa using this)];omega
      rw[wB];simpa using hcell
  obtain⟨og,Nx,H9,hk⟩:=key;refine⟨hs.1,(hs.2 w blk p q fr (aB l) og a2 hk).mono fun e w' hw=>?_⟩;obtain⟨rfl,hw⟩:=hw;refine⟨_,rfl,?_⟩;have MB:jR B w w':=⟨hw.os,hw.tape,hw.output,hw.size,fun k hk=>by
   rcases rF k w.heap.size with hlt|hge
   ·refine hw.block k hlt fun e=>hk ?_;obtain⟨c,hc⟩:=Nx k e;exact(h.ok.fresh hh k c (by rw[KK];simp) hc).1
   ·exact absurd (.inl (gK h.ok.base hge)) hk⟩
  have MC:bn (aK γ hh none) (bu σ.mem hh hx') w' hh hx':=by
   unfold bn;rw[show hx'.buf=true from d2];exact⟨.int .u8,[],rfl,q2,.inl ⟨by simp[aK],rfl⟩⟩
  obtain⟨m1,m2⟩:=h.ok.drop (bx:=hx') KK (De _) MB (fun k hk hn=>hw.block k hk fun e=>by obtain⟨c,hc⟩:=Nx k e;exact hn c hc) hw.cell MC;refine hK (aK γ hh none) _ w' (h.aA m2 m1 hd (v:=.data .str (aB l)) (val:=.string ⟨(aB l).toArray⟩) ?_) ?_
  ·exact⟨[.string ⟨(aB l).toArray⟩],⟨rfl,by rw[hlen];exact H9⟩,rfl⟩
  ·cases d<;>exact m2
 ·cases hr
theorem yQ(dy:jD P B.G cx)(fE:mb P B.G inl){f:Nat}{vals:List av}{xs:Array Value}(h:bE B N γ σ a w)(hd:∀k,d=some k→k<N)(hv:gm γ σ.mem w vals xs.toList)
  (hr:(lC cx inl d f vals σ).run=some σ') {K:Act→World→Prop} (hK:qI B N γ σ a w d σ' K) :
  (∃fn code,P.funcs[f]?=some fn∧(fn.name == "runtime.NumGoroutine")=false∧fn.body=some code)∧Calls P f xs w fun e w'=>∃v,e=.returned v∧K (a.put d v) w':=by
 unfold lC at hr;split at hr
 ·rename_i c KL;have hh:=dy.gX f c KL;refine⟨hh.body,?_⟩;split at hr
  ·rename_i Lc;split at hr
   ·rename_i x hx;obtain⟨y,hy,hr2⟩:=aR hr;obtain rfl:=au hr2;have hargs:=wT (I':=fun b o=>b<w.heap.size) h.ok (fun b o hi=>h.ok.kO b o hi) (fun b o _ hb=>hb) hv hx;refine(hh.calls (fun b o=>b<w.heap.size) w xs x y (fun b o hb=>hb) h.ok.yB hargs hy).mono fun e w' hw=>?_;obtain⟨v,I',h1,h2,h3,h4,h5,h6⟩:=hw;refine⟨v,h1,?_⟩;obtain⟨m1,m2⟩:=h.ok.LY (I':=γ.I) h2 (fun _ _ hi=>hi) (fun b o hi=>qe (h.ok.kO b o hi) h2.size) (fun b o hi hn=>absurd hi hn);refine hK γ _ w' (h.aA m2 m1 hd (h6.flat Lc)) ?_;cases d<;>exact m2
   ·exact absurd hr (by intro k;cases k)
  ·split at hr
   ·rename_i x σ1 hx;obtain⟨y,hy,hr2⟩:=aR hr;obtain rfl:=au hr2;obtain⟨dS,s1,s2,s3⟩:=ja h hv hx;refine(hh.calls dS.I w xs x y (fun b o hi=>s1.ok.kO b o hi) s1.ok.yB s3 hy).mono fun e w' hw=>?_;obtain⟨v,I',h1,h2,h3,h4,h5,h6⟩:=hw;refine⟨v,h1,?_⟩;obtain⟨m1,m2⟩:=s1.ok.LY (I':=I') h2 h3 h4 h5;refine hK ⟨I',dS.loc⟩ _ w' (s1.aA m2 m1 hd (h6.rep (fun _ _ hi=>hi))) ?_;cases d<;>exact s2.trans m2
   ·exact absurd hr (by intro k;cases k)
 ·rename_i KL;have qJ:((inl f vals σ).bind fun r=>.ret (r.2.aA d r.1):Tree St).run=some σ'→(∃fn code,P.funcs[f]?=some fn∧(fn.name == "runtime.NumGoroutine")=false∧fn.body=some code)∧Calls P f xs w fun e w'=>∃v,e=.returned v∧K (a.put d v) w':=by
   intro hr;obtain⟨r,eP,hr2⟩:=bind_some hr;obtain rfl:=au hr2;obtain⟨v0,eM⟩:=r;obtain⟨hb,JA,vi⟩:=fE B γ σ eM w f vals xs v0 rfl h.ok hv eP;refine⟨hb,vi.mono fun e w' hw=>?_⟩;obtain⟨v,γ',h1,h2,h3,h4⟩:=hw;refine⟨v,h1,?_⟩;have hs0:eM={ slots:=σ.slots,mem:=eM.mem }:=by cases eM;simp only at JA;subst JA;rfl
   rw[hs0] at hK;refine hK γ' _ w' (h.aA h3 h2 hd h4) ?_;cases d<;>exact h3
  split at hr
  ·rename_i s hcs;exact wV (dy.zY f s hcs) h hd hv hr hK
  split at hr
  ·rename_i c Ny;split at hr
   ·rename_i x u N M hx;obtain⟨hdup,hr⟩:=ai hr;have hdup:=rX.1 hdup;obtain⟨y,hy,hr2⟩:=aR hr;obtain rfl:=au hr2;have hh:=dy.cI f c Ny;obtain⟨V,cO,g1,g2,g3⟩:=wU hv hx;obtain⟨bs,k1,k2,k3⟩:=xU h.ok g2 g3;have hlen:=rY g3;have hold:∀blk∈aY bs (M.map fun p=>γ.loc p.1),∃b k,(∃bx,σ.mem b=some bx)∧γ.loc b=some (blk,k):=fun blk hb=>xW k1 k3 hb;refine⟨hh.body,(hh.calls γ.I w xs cO bs _ x u y (fun b o hi=>h.ok.kO b o hi) h.ok.yB (fun b Q g hb=>by
     obtain⟨n,k,⟨bx,j1⟩,j2⟩:=hold b hb;exact(h.ok.bX b Q g).1 (h.ok.fresh n b k (by rw[j1];simp) j2).1) g1 k2 (sQ h.ok k1 k3 hdup) hy).mono fun e w' hw=>?_⟩
    obtain⟨v,I',ls',h1,h2,h3,h4,h5,h6,h7,h8,h9⟩:=hw;refine⟨v,h1,?_⟩;obtain⟨m1,m2⟩:=h.ok.refs g3 hdup k1 k3 h2 h3 h4 h5 h7 h8 h9;have hs:fc c.U y.2 N M σ={ slots:=σ.slots,mem:=(fc c.U y.2 N M σ).mem }:=rfl;refine hK ⟨I',dH M ls' γ.loc⟩ _ w' (by rw[hs];exact h.aA m2 m1 hd (h6.rep (fun _ _ hi=>hi))) ?_;cases d<;>exact m2
   ·exact qJ hr
  ·exact qJ hr
theorem aG.B6{mem:Nat→Option aI}{w':World}(h:aG B γ mem w){b:Nat}{dQ:aI}{e:Ty}{l':List e.den}{L:Option (Nat×Nat)}{X:Nat→Prop}{I':Nat→Nat→Prop}{v:Value}
  (hX:∀k,X k→∃bF c,mem b=some bF∧bF.ro=false∧γ.loc b=some (k,c)) (hw:B2 w γ.I X w' I') (hown:o5 w' I' e l' L v) (Nz:∀blk c,L=some (blk,c)→X blk∨w.heap.size≤blk)
  (aC:∀bF,mem b=some bF→bF.ag<dQ.ag∨(bF.ag=dQ.ag∧L=γ.loc b∧dQ.buf=bF.buf∧dQ.row=bF.row)) (hval:dQ.val=.data (.slice e) l') (aJ:dQ.buf=true) (cQ:dQ.tid=0) (he:0<e.size) :
  let γ':Gh:=⟨I',fun i=>if i=b then L else γ.loc i⟩
  aG B γ' (bu mem b dQ) w'∧Ext B γ mem w γ' (bu mem b dQ) w':=by
 intro γ';have hsame:∀k,k<w.heap.size→¬X k→w'.heap[k]?=w.heap[k]?:=fun k hk hb=>hw.below.block k fun q=>by
  rcases q with q|q
  ·have:w.heap.size≤k:=q;omega
  ·exact hb q
 have hfree:∀k,X k→∀o,¬γ.I k o:=fun k hk o hi=>by
  obtain⟨bF,c,h1,h2,h3⟩:=hX k hk;have:=(h.sep b bF k c o h1 h3 hi).1;rw[h2] at this;cases this
 have J8:∀k,¬B.has k→k<w.heap.size:=fun k hk=>Dc fun q=>hk (.inl (gK h.base q));have JI:∀k,X k→B.has k∧k<w.heap.size:=fun k hk=>by
  obtain⟨bF,c,h1,h2,h3⟩:=hX k hk;exact h.fresh b k c (by rw[h1];simp) h3
 have hx:Ext B γ mem w γ' (bu mem b dQ) w' :=
  { below:=⟨hw.below.os,hw.below.tape,hw.below.output,hw.below.size,fun k hk=>hsame k (J8 k hk) fun hb=>hk (JI k hb).1⟩
    I:=hw.held
    kP:=fun b o x=>by
     by_cases hi:γ.I b o
     ·exact .inl hi
     ·exact .inr (.inl (gK h.base (hw.kP b o x hi)))
    cells:=fun b o hi=>cJ (hsame b (h.kO b o hi) fun hb=>hfree b hb o hi)
    boxes:=fun c cx hc=>by
     by_cases e1:c=b
     ·subst e1;refine⟨dQ,aH _ _,?_,fun e2=>?_⟩
      ·rcases aC cx hc with q|q
       ·exact FH q
       ·exact ym q.1
      ·rcases aC cx hc with q|q
       ·omega
       ·exact⟨by simp[γ',q.2.1],q.2.2⟩
     ·exact⟨cx,by rw[az _ e1];exact hc,dB _,fun _=>⟨by simp[γ',e1],rfl,rfl⟩⟩ }
 have Ld:∀blk c,L=some (blk,c)→blk<w'.heap.size∧∀o,¬I' blk o:=fun blk c hl=>by
  rcases hown with ⟨q,_⟩|⟨bQ,cap,cur,tid,fr,q1,q2,q3,q4,q5,q6,q7,q8,q9⟩
  ·rw[q] at hl;cases hl
  ·rw[q1] at hl;obtain⟨rfl,rfl⟩:=bM (au hl);exact⟨(Array.getElem?_eq_some_iff.1 q3).1,q8⟩
 have hne:∀{c d:Nat},c≠b→bu mem b dQ c≠none→mem c≠none:=fun hc hm=>by rwa [az _ hc] at hm
 have lD:∀{d blk k c:Nat},d≠b→mem d≠none→L=some (blk,k)→γ.loc d=some (blk,c)→False:=fun {d blk k c} hd hm hl h2=>by
  rcases Nz blk k hl with hx1|hx1
  ·obtain⟨bF,c0,j1,j2,j3⟩:=hX blk hx1;exact hd (h.inj d b blk c c0 hm (by rw[j1];simp) h2 j3)
  ·have:=(h.fresh d blk c hm h2).2;omega
 refine⟨?_,hx⟩;exact
  { bX:=h.qu hx
    base:=gK h.base hw.below.size
    boxes:=fun c cx hc=>by
     by_cases e1:c=b
     ·subst e1;rw[aH] at hc;obtain rfl:=au hc;unfold bn;rw[aJ];refine⟨e,l',hval,he,?_⟩;rcases hown with ⟨q1,q2,q3⟩|⟨bQ,cap,cur,tid,fr,q1,q2,q3,q4,q5,q6,q7,q8,q9⟩
      ·exact .inl ⟨by simp[γ',q1],q2⟩
      ·exact .inr ⟨bQ,cap,cur,tid,fr,by simp[γ',q1],q3,q4,.inl cQ,q5,q6,q7,q9⟩
     ·rw[az _ e1] at hc;refine(h.boxes c cx hc).keep hx (by simp[γ',e1]) fun blk k hl=>hsame blk (h.fresh c blk k (by rw[hc];simp) hl).2 fun hx1=>?_;obtain⟨bF,c0,j1,j2,j3⟩:=hX blk hx1;exact e1 (h.inj c b blk k c0 (by rw[hc];simp) (by rw[j1];simp) hl j3)
    inj:=fun c d blk k k' hc hd h1 h2=>by
     by_cases e1:c=b
     ·by_cases e2:d=b
      ·rw[e1,e2]
      ·exfalso;simp only[γ',gd e1] at h1;simp only[γ',cY e2] at h2;exact lD e2 (hne (d:=0) e2 hd) h1 h2
     ·by_cases e2:d=b
      ·exfalso;simp only[γ',cY e1] at h1;simp only[γ',gd e2] at h2;exact lD e1 (hne (d:=0) e1 hc) h2 h1
      ·simp only[γ',cY e1] at h1;simp only[γ',cY e2] at h2;exact h.inj c d blk k k' (hne (d:=0) e1 hc) (hne (d:=0) e2 hd) h1 h2
    fresh:=fun c blk k hc h1=>by
     by_cases e1:c=b
     ·simp only[γ',gd e1] at h1;refine⟨?_,(Ld blk k h1).1⟩;rcases Nz blk k h1 with q|q
      ·exact(JI blk q).1
      ·exact .inl (gK h.base q)
     ·simp only[γ',cY e1] at h1;have:=h.fresh c blk k (hne (d:=0) e1 hc) h1;exact⟨this.1,qe this.2 hw.below.size⟩
    kO:=hw.kO
    sep:=fun c cx blk k off hc h1 hi=>by
     by_cases e1:c=b
     ·simp only[γ',gd e1] at h1;exact absurd hi ((Ld blk k h1).2 off)
     ·simp only[γ',cY e1] at h1;rw[az _ e1] at hc;by_cases HH:γ.I blk off
      ·exact h.sep c cx blk k off hc h1 HH
      ·have h3:=hw.kP blk off hi HH;have h2:=(h.fresh c blk k (by rw[hc];simp) h1).2;omega }
theorem o5.rep{I:Nat→Nat→Prop}{loc:Nat→Option (Nat×Nat)}{mem:Nat→Option aI}{w:World}{e:Ty}{l:List e.den}{L:Option (Nat×Nat)}{v:Value}{b ag:Nat}{bx:aI}(h:o5 w I e l L v)
  (oR:loc b=L) (hb:mem b=some bx) (aC:bx.ag=ag) (aJ:bx.buf=true) (hval:bx.val=.data (.slice e) l):aV ⟨I,loc⟩ mem w (.whole b ag) .val [v]:=by
 rcases h with ⟨q1,q2,q3⟩|⟨bQ,cap,cur,tid,fr,q1,q2,q3,q4,q5,q6,q7,q8,q9⟩
 ·exact⟨⟨v,rfl,by rw[q3];rfl⟩,cl hb aC ⟨e,l.length,aJ,aI.bD aJ hval,.inl ⟨by rw[←q1];exact oR,by rw[q3]⟩⟩⟩
 ·exact⟨⟨v,rfl,by rw[q2];rfl⟩,cl hb aC ⟨e,l.length,aJ,aI.bD aJ hval,.inr ⟨bQ,cap,by rw[←q1];exact oR,by rw[q2]⟩⟩⟩
theorem Gf{mem:Nat→Option aI}(h:aG B γ mem w){b ag:Nat}{bx:aI}{e:Ty}{l:List e.den}{v:Value}(hb:mem b=some bx)(aC:bx.ag=ag)(aJ:bx.buf=true)(hro:bx.ro=false)(hval:bx.val=.data (.slice e) l)
  (hv:aV γ mem w (.whole b ag) .val [v]):o5 w γ.I e l (γ.loc b) v∧0<e.size:=by
 obtain⟨e',n,k1,k2,k3⟩:=aD hb aC hv.2;rw[aI.bD aJ hval] at k2;obtain⟨rfl,rfl⟩:=bM (au k2);have ew:=h.boxes b bx hb;unfold bn at ew;rw[aJ] at ew;obtain⟨e3,l3,q1,q2,q3⟩:=ew;rw[hval] at q1;cases q1;refine⟨?_,q2⟩;rcases q3 with ⟨q3,q4⟩|⟨blk,cap,cur,tid,fr,q3,q4,q5,q6,q7,q8,q9,JF⟩
 ·rcases k3 with ⟨k3,k4⟩|⟨bQ,cap',k3,k4⟩
  ·exact .inl ⟨k3,q4,sD k4⟩
  ·rw[q3] at k3;cases k3
 ·rcases k3 with ⟨k3,k4⟩|⟨bQ,cap',k3,k4⟩
  ·rw[q3] at k3;cases k3
  ·rw[q3] at k3;obtain⟨rfl,rfl⟩:=bM (au k3);refine .inr ⟨blk,cap,cur,tid,fr,q3,sD k4,q4,q5,q7,q8,q9,fun o hi=>?_,JF⟩;have:=(h.sep b bx blk cap o hb q3 hi).1;rw[hro] at this;cases this
theorem kV{e:Ty}{v:av}{b ag:Nat}{bx:aI}{l:List e.den}(h:nB e σ v=some (b,ag,bx,l)):σ.mem b=some bx∧bx.ag=ag∧bx.buf=true∧bx.lk=false∧bx.ro=false∧bx.tid=0 ∧
  ∃l0:List e.den,bx.val=.data (.slice e) l0∧((v=.whole b ag∧l=l0)∨∃n,v=.part b ag 0 n∧l=sub l0 0 n):=by
 unfold nB at h;split at h
 ·rename_i b0 Ic;split at h
  ·rename_i bF hb;cases hc:(Nat.beq bF.ag Ic&&bF.buf&&!bF.lk&&!bF.ro&&Nat.beq bF.tid 0) with
   | false=>rw[hc] at h;cases h
   | true =>
     rw[hc] at h;simp only[bY,oh] at hc;simp only[bZ] at h;split at h
     ·rename_i u l0 hval;split at h
      ·rename_i l1 hl;obtain⟨q,hq⟩:=eK hl;subst q;subst hq;cases h;exact⟨hb,cB hc.1.1.1.1,hc.1.1.1.2,hc.1.1.2,hc.1.2,cB hc.2,_,hval,.inl ⟨rfl,rfl⟩⟩
      ·cases h
     ·cases h
  ·cases h
 ·rename_i b0 Ic lo n;split at h
  ·rename_i bF hb;cases hc:(Nat.beq bF.ag Ic&&bF.buf&&!bF.lk&&!bF.ro&&Nat.beq bF.tid 0&&decide (lo=0)) with
   | false=>rw[hc] at h;cases h
   | true =>
     rw[hc] at h;simp only[bY,oh,wG] at hc;simp only[bZ] at h;split at h
     ·rename_i u l0 hval;split at h
      ·rename_i l1 hl;obtain⟨q,hq⟩:=eK hl;subst q;subst hq;cases h;have h0:=hc.2;subst h0;exact⟨hb,cB hc.1.1.1.1.1,hc.1.1.1.1.2,hc.1.1.1.2,hc.1.1.2,cB hc.1.2,_,hval,.inr ⟨n,rfl,rfl⟩⟩
      ·cases h
     ·cases h
  ·cases h
 ·cases h
theorem B7{mem:Nat→Option aI}(h:aG B γ mem w){b ag:Nat}{bx:aI}{e:Ty}{l:List e.den}{n:Int}{v:Value}(hb:mem b=some bx)(aC:bx.ag=ag)(aJ:bx.buf=true)(hro:bx.ro=false)(hval:bx.val=.data (.slice e) l)
  (hv:aV γ mem w (.part b ag 0 n) .val [v]):o5 w γ.I e (sub l 0 n) (γ.loc b) v∧0<e.size:=by
 obtain⟨e',k,k2,k3,k4,k5,base,cap',k6,k7,k8,kF,k9⟩:=aD hb aC hv.2;rw[aI.bD aJ hval] at k2;obtain⟨rfl,rfl⟩:=bM (au k2);have ew:=h.boxes b bx hb;unfold bn at ew;rw[aJ] at ew;obtain⟨e3,l3,q1,q2,q3⟩:=ew;rw[hval] at q1;cases q1;refine⟨?_,q2⟩;obtain k6:=sD k6;have hlen:(sub l 0 n).length=n.toNat:=by
  have:n.toNat≤l.length:=by omega
  simp only[sub,gb,kL];omega
 rcases kF.2 rfl aJ with ⟨z1,rfl,rfl⟩|⟨blk,z1,rfl⟩
 ·rcases q3 with ⟨q3,q4⟩|⟨blk,cap,cur,tid,fr,q3,_⟩
  ·subst q4;have:n.toNat=0:=by omega
   exact .inl ⟨z1,by simp[sub],by rw[k6,this]⟩
  ·rw[z1] at q3;cases q3
 ·rcases q3 with ⟨q3,q4⟩|⟨bQ,cap,cur,tid,fr,q3,q4,q5,q6,q7,q8,q9,JF⟩
  ·rw[z1] at q3;cases q3
  ·rw[z1] at q3;obtain⟨rfl,rfl⟩:=bM (au q3);refine .inr ⟨blk,cap',cur,tid,fr,z1,by rw[hlen];exact k6,q4,q5,by rw[hlen];omega,q8,q9,fun o hi=>?_,fun i x hx=>JF i x ?_⟩
   ·have:=(h.sep b bx blk cap' o hb z1 hi).1;rw[hro] at this;cases this
   ·have hx':((l.drop (0:Int).toNat).take n.toNat)[i]?=some x:=hx;rw[jw] at hx';split at hx'
    ·simpa using hx'
    ·cases hx'
theorem Eh{e:Ty}{v:av}{b ag:Nat}{bx:aI}{l:List e.den}{val:Value}(hm:aG B γ σ.mem w)(h:nB e σ v=some (b,ag,bx,l))(hv:aV γ σ.mem w v .val [val]):o5 w γ.I e l (γ.loc b) val∧0<e.size:=by
 obtain⟨hb,aC,aJ,hlk,hro,cQ,l0,hval,Gg⟩:=kV h;rcases Gg with ⟨rfl,rfl⟩|⟨n,rfl,rfl⟩
 ·exact Gf hm hb aC aJ hro hval hv
 ·exact B7 hm hb aC aJ hro hval hv
theorem kW{f:Nat}{s:EZ}(h:lB cx bf d f=some s):find cx.zY f=some s:=by
 unfold lB at h;split at h
 ·rename_i e he;split at h
  ·obtain rfl:=au h;exact he
  ·cases h
 ·rename_i he;obtain rfl:=au h;exact he
 ·cases h
theorem tN{f:Nat}{e:Ty}{vals:List av}{xs:Array Value}(hs:ng P f (.clone e))(h:bE B N γ σ a w)(hd:∀k,d=some k→k<N)(hv:gm γ σ.mem w vals xs.toList)
  (hr:(fB nb e d vals σ).run=some σ') {K:Act→World→Prop} (hK:qI B N γ σ a w d σ' K) :
  (∃fn code,P.funcs[f]?=some fn∧(fn.name == "runtime.NumGoroutine")=false∧fn.body=some code)∧Calls P f xs w fun e w'=>∃v,e=.returned v∧K (a.put d v) w':=by
 unfold fB at hr;split at hr
 case h_2=>cases hr
 rename_i k x;split at hr
 case h_2=>cases hr
 rename_i l σ1 hg;change List e.den at l;obtain⟨he,hr⟩:=ai hr;have he:0<e.size:=by simpa using he
 obtain⟨hfit,hr⟩:=aX hr;obtain⟨ag,aC,hr2⟩:=bT hr;obtain rfl:=au hr2;obtain⟨val,rest,hxs,g1,g2⟩:=hv.cons;have sR:rest=[]:=by have:=g2.1;simpa using this
 subst sR;obtain⟨dS,s1,s2,cs,c1,c2⟩:=fQ h g1 hg;have c2:=sD c2;refine⟨hs.1,(hs.2 dS.I w xs l (fun b o hi=>s1.ok.kO b o hi) ⟨cs,[],by rw[hxs,c2],c1,rfl⟩ hfit).mono fun q w' hw=>?_⟩;obtain⟨v,I',L,rfl,h1,h2,h3⟩:=hw;refine⟨v,rfl,?_⟩;obtain⟨m1,m2⟩:=s1.ok.B6 (b:=nb+k) (dQ:={ val:=.data (.slice e) l,tid:=0,buf:=true,ro:=false,lk:=false,ag }) (fun _ hf=>hf.elim) h1 h2 (fun blk c hl=>.inr (h3 blk c hl))
  (fun bF h0=>.inl (aC bF h0)) rfl rfl rfl he
 exact hK _ _ w' (s1.step m2 m1 (hd k rfl) (h2.rep (by simp) (aH _ _) rfl rfl rfl)) (s2.trans m2)
theorem wW{f:Nat}{e A:Ty}{res:Bool}{spec:List e.den→A.den→Option (List e.den)}{vals:List av}{xs:Array Value}(hs:ng P f (.own e A res spec))(h:bE B N γ σ a w)(hd:∀k,d=some k→k<N)(hv:gm γ σ.mem w vals xs.toList)
  (hr:(iW e A res spec d vals σ).run=some σ') {K:Act→World→Prop} (hK:qI B N γ σ a w d σ' K) :
  (∃fn code,P.funcs[f]?=some fn∧(fn.name == "runtime.NumGoroutine")=false∧fn.body=some code)∧Calls P f xs w fun e w'=>∃v,e=.returned v∧K (a.put d v) w':=by
 unfold iW at hr;split at hr
 case h_2=>cases hr
 rename_i v0 vs;split at hr
 case h_2=>cases hr
 rename_i x σ1 hg;split at hr
 case h_2=>cases hr
 rename_i b ag bx l JJ;obtain⟨l',dW,hr⟩:=aR hr;obtain⟨hb,aC,aJ,hlk,hro,cQ,l0,hval,Gg⟩:=kV JJ;obtain⟨val,rest,hxs,g1,g2⟩:=hv.cons;obtain⟨dS,s1,s2,hargs⟩:=ja h g2 hg;obtain⟨hown,he⟩:=Eh s1.ok JJ (g1.ext s2);refine⟨hs.1,(hs.2 dS.I w xs val rest l l' (dS.loc b) x (fun b o hi=>s1.ok.kO b o hi) hxs hown hargs dW).mono fun q w' hw=>?_⟩;obtain⟨I',h1,h2⟩:=hw;have hX:∀k,(∃c,dS.loc b=some (k,c))→∃bF c,σ1.mem b=some bF∧bF.ro=false∧dS.loc b=some (k,c):=fun k ⟨c,hc⟩=>⟨bx,c,hb,hro,hc⟩;cases res with
 | true =>
   cases d with
   | none=>cases hr
   | some k =>
     obtain rfl:=au hr;obtain⟨v',L',rfl,h3,h4⟩:=h2;refine⟨v',rfl,?_⟩;obtain⟨m1,m2⟩:=s1.ok.B6 (b:=b) (dQ:={ bx with val:=.data (.slice e) l',ag:=ag+1 }) hX h1 h3 h4 (fun bF h0=>by
      rw[hb] at h0;obtain rfl:=au h0;exact .inl (by simp[aC])) rfl aJ cQ he
     exact hK _ _ w' (s1.step m2 m1 (hd k rfl) (h3.rep (by simp) (aH _ _) rfl aJ rfl)) (s2.trans m2)
 | false =>
   have hr':ud v0=true∧σ'=(σ1.aW b { bx with val:=.data (.slice e) l' }).aA d (.kN .nl):=by
    cases d with
    | none=>obtain⟨q1,q2⟩:=ai hr;exact⟨q1,(au q2).symm⟩
    | some k=>obtain⟨q1,q2⟩:=ai hr;exact⟨q1,(au q2).symm⟩
   obtain⟨Ot,rfl⟩:=hr';obtain rfl:l=l0:=by
    rcases Gg with ⟨_,q⟩|⟨n,rfl,_⟩
    ·exact q
    ·cases Ot
   obtain⟨rfl,hlen,h3⟩:=h2;refine⟨_,rfl,?_⟩;obtain⟨m1,m2⟩:=s1.ok.B6 (b:=b) (dQ:={ bx with val:=.data (.slice e) l' }) hX h1 h3 (fun blk c hl=>.inl ⟨c,hl⟩) (fun bF h0=>by
    rw[hb] at h0;obtain rfl:=au h0;exact .inr ⟨rfl,rfl,rfl,by rw[aI.bD aJ hval,aI.bD (bx:={ bx with val:=.data (.slice e) l' }) aJ rfl,hlen]⟩) rfl aJ cQ he
   refine hK _ _ w' (s1.aA m2 m1 hd (v:=.kN .nl) (val:=.tuple #[]) ⟨#[],rfl,rfl⟩) ?_;cases d<;>exact s2.trans m2
theorem wX(dy:jD P B.G cx)(fE:mb P B.G inl){f:Nat}{vals:List av}{xs:Array Value}(h:bE B N γ σ a w)(hd:∀k,d=some k→k<N)(hv:gm γ σ.mem w vals xs.toList)
  (hr:(jI cx nb bf inl d f vals σ).run=some σ') {K:Act→World→Prop} (hK:qI B N γ σ a w d σ' K) :
  (∃fn code,P.funcs[f]?=some fn∧(fn.name == "runtime.NumGoroutine")=false∧fn.body=some code)∧Calls P f xs w fun e w'=>∃v,e=.returned v∧K (a.put d v) w':=by
 unfold jI at hr;split at hr
 ·rename_i e he;exact tN (dy.zY f _ (kW he)) h hd hv hr hK
 ·rename_i e A r s he;exact wW (dy.zY f _ (kW he)) h hd hv hr hK
 ·exact yQ dy fE h hd hv hr hK
theorem vj{o:Oper}{f:Nat}{xs:Array Value}{K:Act→World→Prop}{Q:Exit→Act→World→Prop}(hs:(execOp a.eval o).run P w=(callFunc f xs).run P w)
  (h:(∃fn code,P.funcs[f]?=some fn∧(fn.name == "runtime.NumGoroutine")=false∧fn.body=some code)∧Calls P f xs w fun e w'=>∃v,e=.returned v∧K (a.put o.dst v) w'):o.wp P a w K Q:=by
 obtain⟨⟨fn,code,h1,h2,h3⟩,hc⟩:=h;unfold Oper.wp;rw[hs,yP h1 h2 h3];refine hc.mono fun e w' hw=>?_;obtain⟨v,rfl,hk⟩:=hw;exact hk
theorem Av(hc:dw P cx){t ty:TypeId}{v:av}{x:Value}{n:Int}(hm:aG B γ σ.mem w)(hv:aV γ σ.mem w v .val [x])(ht:Dl (find cx.T t) v=true)(hl:lenOf σ v=some n) :
  (Builtin.len_ #[t] ty #[x]).run P w=.ok (goInt n) w∧IntKind.i64.min≤n∧n≤IntKind.i64.max:=by
 have hmax:(maxLen:Int)≤IntKind.i64.max:=by decide
 have hmin:IntKind.i64.min≤0:=by decide
 have KM:∀{base:Option Addr} {m c:Nat},(∃e,find cx.T t=some (.slice e))→x=.slice base m c→n=m→m≤maxLen→(Builtin.len_ #[t] ty #[x]).run P w=.ok (goInt n) w∧IntKind.i64.min≤n∧n≤IntKind.i64.max:=by
  intro base m c he hx hn hm;obtain⟨e,he⟩:=he;obtain⟨bN,f1,_⟩:=(hc.T _ _ he).slice;subst hx;subst hn;refine⟨?_,by omega,by omega⟩;simp[Builtin.len_,run_underlying f1]
 have JA:∀{o:Option Ty},(match o with|some (.slice _)=>true|_=>false)=true→∃e,o=some (.slice e):=by
  intro o h;split at h
  ·exact⟨_,rfl⟩
  ·cases h
 cases v with
 | data u y =>
   cases u with
   | str =>
     obtain⟨rfl,h2⟩:=lE hv;obtain rfl:=au hl;have hT:=(hc.T _ _ (dR ht)).str;have e1:(⟨List.toArray (α:=UInt8) y⟩:ByteArray).size=List.length (α:=UInt8) y:=by
      show(List.toArray (α:=UInt8) y).size=_
      exact Fz
     refine⟨?_,?_,?_⟩
     ·simp only[Builtin.len_];simp[run_underlying hT,e1,len]
     ·simp only[len];omega
     ·simp only[len];omega
   | slice e =>
     obtain rfl:=au hl;obtain⟨cs,h1,h2⟩:=b5.1 hv;rcases h1 with ⟨⟨_,h1⟩,h3⟩|⟨blk,off,cap,h1,h3,h4,_⟩
     ·rw[h1] at h2;exact KM ⟨e,dR ht⟩ (show x=.slice _ 0 0 from h2) (by rw[h3];rfl) (lO _)
     ·rw[h1] at h2;exact KM ⟨e,dR ht⟩ (show x=.slice _ _ _ from h2) rfl (gK h3 h4)
   | arr m e =>
     obtain⟨bN,f1,_⟩:=(hc.T _ _ (dR ht)).arr;simp only[lenOf] at hl;cases hb:Nat.ble m 4294967296 with
     | false=>rw[hb] at hl;cases hl
     | true =>
       rw[hb] at hl;obtain rfl:=au hl;have:=tq hb;have h9:(4294967296:Int)≤IntKind.i64.max:=by decide
       refine⟨by simp[Builtin.len_,run_underlying f1],by omega,by omega⟩
   | _=>cases hl
 | gA =>
   obtain rfl:=au hl;obtain rfl:x=_:=by simpa [aV] using hv
   exact KM (JA ht) rfl rfl (lO _)
 | whole b ag =>
   simp only[lenOf] at hl;split at hl
   ·rename_i bx hb;cases Ik:(Nat.beq bx.ag ag&&bx.buf) with
    | false=>rw[Ik] at hl;cases hl
    | true =>
      rw[Ik] at hl;simp only[bY] at Ik;simp only[bZ] at hl;split at hl
      ·rename_i u l ga;obtain rfl:=au hl;obtain⟨e',k,g1,g2,g3⟩:=aD hb (cB Ik.1) hv.2;rw[aI.bD g1 ga] at g2;obtain⟨rfl,rfl⟩:=bM (au g2);rcases g3 with ⟨g3,g4⟩|⟨blk,cap,g3,g4⟩
       ·have ew:=hm.boxes b bx hb;rw[bn,g1] at ew;obtain⟨e3,l3,q1,q2,q3⟩:=ew;rw[ga] at q1;cases q1;rcases q3 with ⟨_,q3⟩|⟨blk,cap,cur,tid,fr,q3,_⟩
        ·exact KM (JA ht) (sD g4) (by rw[q3];rfl) (lO _)
        ·rw[g3] at q3;cases q3
       ·obtain⟨cur,tid,fr,q1,q2,q3,q4,_⟩:=((hm.boxes b bx hb).row g3).1 _ l g1 ga;exact KM (JA ht) (sD g4) rfl (gK q3 q4)
      ·cases hl
   ·cases hl
 | part b ag lo n' =>
   simp only[lenOf] at hl;cases hlv:live σ b ag with
   | false=>rw[hlv] at hl;cases hl
   | true =>
     rw[hlv] at hl;obtain rfl:=au hl;obtain⟨bx,hb,aC⟩:=eO hlv;obtain⟨e',k,g2,g3,g4,g5,base,cap,g6,g7,g8,gF,g9⟩:=aD hb aC hv.2;exact KM (JA ht) (sD g6) (Fx g4).symm (gK g7 g8)
 | _=>cases hl
theorem cG.take{w:World}{I:Nat→Nat→Prop}{e:Ty}{l:List e.den}{cs:List Value}(h:cG w I e l cs)(k:Nat):cG w I e (l.take k) (cs.take (k*e.size)):=by
 intro i x hx;rw[jw] at hx;split at hx
 ·rename_i hi;have hm:(i+1)*e.size≤k*e.size:=jf _ hi;rw[nx] at hm;rw[Dg,Fm,rD (by omega)];exact h i x hx
 ·cases hx
theorem cG.drop{w:World}{I:Nat→Nat→Prop}{e:Ty}{l:List e.den}{cs:List Value}(h:cG w I e l cs)(k:Nat):cG w I e (l.drop k) (cs.drop (k*e.size)):=by
 intro i x hx;rw[nk] at hx;rw[mD,←mE];exact h _ x hx
theorem nN{α:Type}{l m:List α}{lo:Int}(h0:0≤lo)(h:lo+m.length≤l.length):(over l lo m).length=l.length:=by
 simp only[over,oL,gb,kL];omega
theorem cG.over{w:World}{I:Nat→Nat→Prop}{e:Ty}{l m:List e.den}{cs news:List Value}{lo:Int}(h:cG w I e l cs)(hm:cG w I e m news)(hn:news.length=m.length*e.size)(h0:0≤lo)
  (hl:lo+m.length≤l.length) (hc:l.length*e.size≤cs.length):cG w I e (over l lo m) (splice cs (lo.toNat*e.size) news):=by
 have h1:(lo.toNat+m.length)*e.size≤l.length*e.size:=jf _ (by omega);rw[mE] at h1;have a1:=(h.take lo.toNat).append (rest:=[]) hm (by rw[gb,gb,rD (by omega),rD (by omega)]) hn;rw[wI] at a1;have a2:=a1.append (rest:=[]) (h.drop (lo.toNat+m.length)) (by rw[oL,oL,mE,hn,gb,gb,rD (by omega),rD (by omega)]);have e1:splice cs (lo.toNat*e.size) news=cs.take (lo.toNat*e.size)++news++cs.drop ((lo.toNat+m.length)*e.size):=by
  simp only[splice,hn,mE]
 rw[e1];intro i x hx;have hi:i<l.length:=by have:=(List.getElem?_eq_some_iff.1 hx).1;rw[nN h0 hl] at this;exact this
 have NA:(i+1)*e.size≤l.length*e.size:=jf _ hi;by_cases Lf:(lo.toNat+m.length)*e.size+(l.length-(lo.toNat+m.length))*e.size=l.length*e.size
 ·have a3:cG w I e (Go.Ge.over l lo m) (cs.take (lo.toNat*e.size)++news++(cs.drop ((lo.toNat+m.length)*e.size))):=by
   intro i x hx;by_cases Ou:i<lo.toNat+m.length
   ·have hx':(l.take lo.toNat++m)[i]?=some x:=by
     simp only[Go.Ge.over] at hx;rw[HM (by rw[oL,gb];omega)] at hx;exact hx
    have hm2:(i+1)*e.size≤(lo.toNat+m.length)*e.size:=jf _ Ou;rw[gl (by rw[oL,gb,hn,rD (by omega),←mE];exact hm2)];exact a1 i x hx'
   ·have hx':(l.drop (lo.toNat+m.length))[i-(lo.toNat+m.length)]?=some x:=by
     simp only[Go.Ge.over] at hx;rw[Jj (by rw[oL,gb];omega)] at hx;rw[←hx];congr 1;rw[oL,gb];omega
    have:=h.drop (lo.toNat+m.length) _ x hx';have e2:i*e.size=(cs.take (lo.toNat*e.size)++news).length+(i-(lo.toNat+m.length))*e.size:=by
     rw[oL,gb,hn,rD (by omega),←mE,←mE];congr 1;omega
    rw[e2,←mD,pG];exact this
  exact a3 i x hx
 ·exact absurd (by rw[←mE];congr 1;omega) Lf
theorem kk(h:bE B N γ σ a w){e:Ty}{m:List e.den}{b ag:Nat}{q:List pI}{FK:Nat→Ty→Bool}{lo:Int}{base:Option Addr}{news:List Value}
  (hr:(eL e m b ag q FK lo σ).run=some σ') (hE:cG w γ.I e m news) (hn:news.length=m.length*e.size) (hone:∀u∈news,u.oneCell'=true) (h0:0≤lo)
  (aJ:∀bx (l:List e.den),σ.mem b=some bx→bx.ag=ag→bx.buf=true→bx.val=.data (.slice e) l→q=[]→lo+m.length≤l.length)
  (MD:∀bx k (l:List e.den),σ.mem b=some bx→bx.ag=ag→bx.buf=false→(DZ q bx.val).run=some (.data (.arr k e) l)→FK k e=true→lo+m.length≤k)
  (hbase:m=[]∨∃blk c,γ.loc b=some (blk,c)∧base=some ⟨blk,bt q+lo.toNat*e.size,none⟩) :
  ∃w',(match base with|some ad=>storeCells ad news|none=>pure ()).run P w=.ok () w'∧bE B N γ σ' a w'∧Ext B γ σ.mem w γ σ'.mem w':=by
 unfold eL at hr;split at hr
 case h_2=>cases hr
 rename_i bx hb;obtain⟨hcd,hr2⟩:=ai hr;simp only[bY,oh] at hcd;obtain⟨⟨aC,hlk⟩,hro⟩:=hcd;have aC:=cB aC;have ew:=h.ok.boxes b bx hb;have hnil:m=[]→news=[]:=fun hm=>by subst hm;simpa using hn
 have Lg:m=[]→(match base with|some ad=>storeCells ad news|none=>pure ()).run P w=.ok () w:=fun hm=>by
  rw[hnil hm];cases base<;>rfl
 have Gi:∀(blk c:Nat) (cur:Array Value) (tid:TypeId) (fr:Nat×Nat),γ.loc b=some (blk,c)→w.heap[blk]?=some (.cells cur tid fr)→gu cur fr→bt q+lo.toNat*e.size+news.length≤cur.size →
   (match base with|some ad=>storeCells ad news|none=>pure ()).run P w=.ok () (w.setRow blk (splice cur.toList (bt q+lo.toNat*e.size) news).toArray):=by
  intro blk c cur tid fr hl hg E0 hle;rcases hbase with hm|⟨bQ,c',hl',rfl⟩
  ·rw[Lg hm,hnil hm];simp only[splice,wI,wJ,pH,wE,Array.toArray_toList];rw[setRow_self w blk cur tid fr hg]
  ·rw[hl] at hl';obtain⟨rfl,rfl⟩:=bM (au hl');have:=bV (P:=P) blk (bt q+lo.toNat*e.size) tid fr news 0 cur w hg E0 (by omega) hone;rw[pH] at this;exact this
 split at hr2
 ·rename_i qK;split at hr2
  case h_2=>cases hr2
  rename_i u l ga;split at hr2
  case h_2=>cases hr2
  rename_i m' hm';obtain rfl:=au hr2;obtain⟨hq,Ka⟩:=eK hm';subst hq;obtain rfl:m'=m:=Ka;have hle:=aJ bx l hb aC qK ga rfl;have hlen:=nN h0 hle;unfold bn at ew;rw[qK] at ew;obtain⟨e2,l2,j1,j2,j3⟩:=ew;rw[ga] at j1;cases j1;have hrw:({ bx with val:=.data (.slice e) (over l lo m') }:aI).row=bx.row:=by
   rw[aI.bD qK ga];exact(aI.bD (bx:=⟨.data (.slice e) (over (α:=e.den) l lo m'),bx.tid,bx.buf,bx.ro,bx.lk,bx.ag⟩) (l:=over (α:=e.den) l lo m') qK rfl).trans (by rw[hlen])
  rcases j3 with ⟨k1,k2⟩|⟨blk,cap,cur,tid,fr,k1,k2,k3,cQ,k4,k5,k6,k7⟩
  ·subst k2;have hm0:m'=[]:=by
    cases m' with
    | nil=>rfl
    | cons x r=>simp at hle;omega
   subst hm0;have e1:σ.aW b { bx with val:=.data (.slice e) (over ([]:List e.den) lo []) }=σ:=by
    have:({ bx with val:=.data (.slice e) (over ([]:List e.den) lo []) }:aI)=bx:=by
     cases bx;simp only at ga;subst ga;simp[over]
    rw[this];cases σ;simp only[St.aW]
    congr 1
    funext i;by_cases hi:i=b
    ·subst hi;simp only[yl,bZ];exact hb.symm
    ·simp[dO hi]
   rw[e1];exact⟨w,Lg rfl,h,Ext.refl _ _ _ _⟩
  ·have hoff:bt ([]:List pI)+lo.toNat*e.size+news.length≤cur.size:=by
    have:(lo.toNat+m'.length)*e.size≤cap*e.size:=jf _ (by omega);rw[mE] at this;simp only[bt];omega
   have hst:=Gi blk cap cur tid fr k1 k2 k3.th hoff;have Ke:lo.toNat*e.size+news.length≤cur.toList.length:=by simp only[bt] at hoff;show _≤cur.size;omega
   have hsz:(splice cur.toList (lo.toNat*e.size) news).toArray.size=cur.size:=by have:=bB Ke;simpa using this
   obtain⟨m1,m2⟩:=h.ok.write hb hro k1 k2 (cur':=(splice cur.toList (lo.toNat*e.size) news).toArray) (v:=.data (.slice e) (over l lo m')) hsz hrw
    (fun w' mem' hx hg=>by
     show bn γ mem' w' b { bx with val:=.data (.slice e) (over l lo m') }
     unfold bn;simp only[qK];refine⟨e,_,rfl,j2,.inr ⟨blk,cap,_,tid,fr,k1,hg,k3.same hsz,cQ,by rw[hlen];exact k4,k5,by rw[hsz];exact k6,?_⟩⟩;intro i x hx';have:=cG.over (l:=l) (cs:=cur.toList) k7 hE hn h0 hle (by show _≤cur.size;rw[k6];exact jf _ k4) i x hx';simpa using aM.mono hx.I hx.cells this)
   simp only[bt,lu] at hst;exact⟨_,hst,h.go m2 m1,m2⟩
 ·rename_i qK;obtain⟨old,Gj,dV⟩:=bind_some hr2;split at dV
  case h_2=>cases dV
  rename_i k u l;obtain⟨Kf,fZ⟩:=ai dV;split at fZ
  case h_2=>cases fZ
  rename_i m' hm';obtain⟨c,hs,wM⟩:=bind_some fZ;obtain rfl:=au wM;obtain⟨hq,Ka⟩:=eK hm';subst hq;obtain rfl:m'=m:=Ka;have hle:=MD bx k l hb aC qK Gj Kf;unfold bn at ew;rw[qK] at ew;obtain⟨blk,cap,cur,tid,fr,k1,k2,k3,cQ,k4⟩:=ew;obtain⟨p1,p2⟩:=kT k4 Gj;have hvs:bA (.data (.arr k e) l)=k*e.size:=rfl;rw[hvs] at p1 p2;obtain⟨r1,r2,r3⟩:=p2;have NB:lo+m'.length≤(List.length (α:=e.den) l:Int):=by rw[r1];exact hle
  have hlen:List.length (α:=e.den) (over (α:=e.den) l lo m')=List.length (α:=e.den) l:=nN (l:=l) h0 NB;have ME:(lo.toNat+m'.length)*e.size≤k*e.size:=jf _ (by omega);rw[mE] at ME;have hoff:bt q+lo.toNat*e.size+news.length≤cur.size:=by have p1':bt q+k*e.size≤cur.size:=p1;omega
  have hst:=Gi blk cap cur tid fr k1 k2 k3 hoff;have Il:((cur.toList.drop (bt q)).take (k*e.size)).length=k*e.size:=r2;have JK:lo.toNat*e.size+news.length≤((cur.toList.drop (bt q)).take (k*e.size)).length:=by rw[Il];omega
  have hnew:aM w γ.I (.arr k e) (over l lo m') (splice ((cur.toList.drop (bt q)).take (k*e.size)) (lo.toNat*e.size) news):=by
   refine⟨hlen.trans r1,by rw[bB JK,Il],?_⟩;exact cG.over (l:=l) r3 hE hn h0 NB (by rw[Il];exact ym (by rw[r1]))
  have MF:=iZ cur.toList (bt q) (lo.toNat*e.size) (k*e.size) news (by omega) p1;have hrw:({ bx with val:=c }:aI).row=bx.row:=sL (bx:=bx) (p:=q) (v:=.data (.arr k e) (over l lo m')) (by rw[qK];exact hs) fun hp _=>by
   subst hp;have ga:bx.val=.data (.arr k e) l:=au Gj;rw[aI.ia qK ga];exact aI.ia (bx:=⟨_,bx.tid,bx.buf,bx.ro,bx.lk,bx.ag⟩) qK rfl
  have Ke:bt q+lo.toNat*e.size+news.length≤cur.toList.length:=hoff;have hsz:(splice cur.toList (bt q+lo.toNat*e.size) news).toArray.size=cur.size:=by have:=bB Ke;simpa using this
  obtain⟨m1,m2⟩:=h.ok.write hb hro k1 k2 (cur':=(splice cur.toList (bt q+lo.toNat*e.size) news).toArray) (v:=c) hsz hrw
   (fun w' mem' hx hg=>by
    show bn γ mem' w' b { bx with val:=c }
    unfold bn;simp only[qK];refine⟨blk,cap,_,tid,fr,k1,hg,k3.same hsz,cQ,?_⟩;have:=mM (k4.ext hx) Gj hs (show aV γ mem' w' (.data (.arr k e) (over l lo m')) .cells _ from aM.mono hx.I hx.cells hnew) (by rw[bB JK,Il];rfl);rw[MF] at this;simpa using this)
  exact⟨_,hst,h.go m2 m1,m2⟩
theorem qL{e:Ty}{mf:Int→List e.den}{t:av}{tv:Value}{r:Int×St}(h:bE B N γ σ a w)(hv:aV γ σ.mem w t .val [tv])(hr:(rJ e mf t σ).run=some r) :
  ∃base cap,tv=.slice base r.1.toNat cap∧0≤r.1∧∀news,cG w γ.I e (mf r.1) news→news.length=(mf r.1).length*e.size→(∀u∈news,u.oneCell'=true)→(mf r.1).length≤r.1.toNat →
   ∃w',(match base with|some ad=>storeCells ad news|none=>pure ()).run P w=.ok () w'∧bE B N γ r.2 a w'∧Ext B γ σ.mem w γ r.2.mem w':=by
 unfold rJ at hr;split at hr
 ·rename_i b ag lo n;obtain⟨σ1,eP,hr2⟩:=bind_some hr;obtain rfl:=au hr2;have Aw:∃bx,σ.mem b=some bx∧bx.ag=ag:=by
   unfold eL at eP;split at eP
   ·rename_i bx hb;obtain⟨hcd,_⟩:=ai eP;simp only[bY] at hcd;exact⟨bx,hb,cB hcd.1.1⟩
   ·cases eP
  obtain⟨bx,hb,aC⟩:=Aw;obtain⟨e',k,g2,g3,g4,g5,base,cap,g6,g7,g8,gF,g9⟩:=aD hb aC hv.2;refine⟨base,cap,by simpa using g6,g4,fun news hE hn hone hle=>?_⟩;dsimp only at hE hn hle;refine kk h eP hE hn hone g3 (fun dQ l hb' _ qK ga _=>?_) (fun dQ k' l hb' _ qK Gj _=>?_) ?_
  ·obtain rfl:=au (hb.symm.trans hb');rw[aI.bD qK ga] at g2;obtain⟨_,rfl⟩:=bM (au g2);omega
  ·obtain rfl:=au (hb.symm.trans hb');have ga:bx.val=.data (.arr k' e) l:=au Gj;rw[aI.ia qK ga] at g2;obtain⟨_,rfl⟩:=bM (au g2);omega
  ·rcases g9 with g9|⟨blk,c,g9,g10⟩
   ·left;exact Fc (by rw[g9,show(0:Int).toNat=0 from rfl] at hle;rw[g9];omega)
   ·by_cases hm:mf n=[]
    ·exact .inl hm
    ·right;have he:e'=e:=by
      unfold eL at eP;rw[hb] at eP;obtain⟨_,dV⟩:=ai eP;split at dV
      ·rename_i qK;split at dV
       case h_2=>cases dV
       rename_i u l ga;split at dV
       case h_2=>cases dV
       rename_i m' hm';obtain⟨hq,_⟩:=eK hm';rw[aI.bD qK ga] at g2;obtain⟨rfl,_⟩:=bM (au g2);exact hq.symm
      ·rename_i qK;obtain⟨old,Gj,fZ⟩:=bind_some dV;split at fZ
       case h_2=>cases fZ
       rename_i k' u l;obtain⟨_,wM⟩:=ai fZ;split at wM
       case h_2=>cases wM
       rename_i m' hm';obtain⟨hq,_⟩:=eK hm';have ga:bx.val=.data (.arr k' u) l:=au Gj;rw[aI.ia qK ga] at g2;obtain⟨rfl,_⟩:=bM (au g2);exact hq.symm
     subst he;exact⟨blk,c,g9,by rw[g10];simp[bt]⟩
 ·rename_i b ag;split at hr
  case h_2=>cases hr
  rename_i n hlen;obtain⟨σ1,eP,hr2⟩:=bind_some hr;obtain rfl:=au hr2;have Aw:∃bx,σ.mem b=some bx∧bx.ag=ag:=by
   unfold eL at eP;split at eP
   ·rename_i bx hb;obtain⟨hcd,_⟩:=ai eP;simp only[bY] at hcd;exact⟨bx,hb,cB hcd.1.1⟩
   ·cases eP
  obtain⟨bx,hb,aC⟩:=Aw;obtain⟨e',k,g1,g2,g3⟩:=aD hb aC hv.2;have gW:=h.ok.boxes b bx hb;have hl:∃l:List e.den,bx.val=.data (.slice e) l∧n=l.length:=by
   unfold eL at eP;rw[hb] at eP;obtain⟨_,dV⟩:=ai eP;split at dV
   ·split at dV
    case h_2=>cases dV
    rename_i u l NC ga;split at dV
    case h_2=>cases dV
    rename_i m' hm';obtain⟨hq,_⟩:=eK hm';subst hq;refine⟨l,ga,?_⟩;simp only[lenOf,hb,aC,g1,yl,Bool.and_self,bZ,ga] at hlen;exact(au hlen).symm
   ·rename_i qK;rw[g1] at qK;cases qK
  obtain⟨l,ga,rfl⟩:=hl;rw[aI.bD g1 ga] at g2;obtain⟨rfl,rfl⟩:=bM (au g2);have fin:∀{base:Option Addr} {cap:Nat},tv=.slice base l.length cap→(l.length=0∨∃blk c,γ.loc b=some (blk,c)∧base=some ⟨blk,0,none⟩) →
    ∃base cap,tv=.slice base (l.length:Int).toNat cap∧(0:Int)≤l.length∧∀news,cG w γ.I e (mf l.length) news→news.length=(mf l.length).length*e.size→(∀u∈news,u.oneCell'=true)→(mf l.length).length≤(l.length:Int).toNat →
     ∃w',(match base with|some ad=>storeCells ad news|none=>pure ()).run P w=.ok () w'∧bE B N γ σ1 a w'∧Ext B γ σ.mem w γ σ1.mem w':=by
   intro base cap Ov hb0;refine⟨base,cap,by simpa using Ov,by omega,fun news hE hn hone hle=>?_⟩;refine kk h eP hE hn hone (by omega) (fun dQ l' hb' _ qK Lh _=>?_) (fun dQ k' l' hb' _ qK Gj _=>?_) ?_
   ·obtain rfl:=au (hb.symm.trans hb');rw[ga] at Lh;cases Lh;omega
   ·obtain rfl:=au (hb.symm.trans hb');rw[g1] at qK;cases qK
   ·rcases hb0 with hb0|⟨blk,c,q1,q2⟩
    ·left;exact Fc (by omega)
    ·right;exact⟨blk,c,q1,by rw[q2];simp[bt]⟩
  rcases g3 with ⟨g3,g4⟩|⟨blk,cap,g3,g4⟩
  ·obtain g4:tv=_:=by simpa using g4
   rw[bn,g1] at gW;obtain⟨e2,l2,j1,j2,j3⟩:=gW;rw[ga] at j1;cases j1;rcases j3 with ⟨_,j4⟩|⟨_,_,_,_,_,j3,_⟩
   ·exact fin (base:=none) (cap:=0) (by rw[g4,j4];rfl) (.inl (by rw[j4];rfl))
   ·rw[g3] at j3;cases j3
  ·exact fin (sD g4) (.inr ⟨blk,cap,g3,rfl⟩)
 ·rename_i b ag q u k lo n;obtain⟨σ1,eP,hr2⟩:=bind_some hr;obtain rfl:=au hr2;have Aw:∃bx,σ.mem b=some bx∧bx.ag=ag:=by
   unfold eL at eP;split at eP
   ·rename_i bx hb;obtain⟨hcd,_⟩:=ai eP;simp only[bY] at hcd;exact⟨bx,hb,cB hcd.1.1⟩
   ·cases eP
  obtain⟨bx,hb,aC⟩:=Aw;obtain⟨hq,blk,c,g1,g3,g4,g5,base,cap,g6,g7,g9⟩:=aD hb aC hv.2;refine⟨base,cap,by simpa using g6,g4,fun news hE hn hone hle=>?_⟩;dsimp only at hE hn hle;refine kk h eP hE hn hone g3 (fun dQ l hb' _ qK ga NC=>absurd NC hq) (fun dQ k' l hb' _ qK Gj Kf=>?_) ?_
  ·simp only[bY] at Kf;have:=cB Kf.1;omega
  ·rcases g9 with g9|g10
   ·left;exact Fc (by rw[g9,show(0:Int).toNat=0 from rfl] at hle;rw[g9];omega)
   ·by_cases hm:mf n=[]
    ·exact .inl hm
    ·right;have he:u=e:=by
      unfold eL at eP;rw[hb] at eP;obtain⟨_,dV⟩:=ai eP;split at dV
      ·split at dV
       ·exact absurd rfl hq
       ·cases dV
      ·obtain⟨old,Gj,fZ⟩:=bind_some dV;split at fZ
       case h_2=>cases fZ
       obtain⟨Kf,wM⟩:=ai fZ;split at wM
       case h_2=>cases wM
       rename_i m' hm';obtain⟨F1,_⟩:=eK hm';simp only[bY] at Kf;exact(Ty.eq_of_beq Kf.2).trans F1.symm
     subst he;exact⟨blk,c,g1,g10⟩
 ·cases hr
theorem vk{I:Nat→Nat→Prop}{e:Ty}{m:List e.den}{v:Value}(h:nK w I e m v)(n:Nat)(hn:n≤m.length) :
  ∃news,(Builtin.firstCells e.size n v).run P w=.ok news.toArray w∧news.length=n*e.size∧(∀u∈news,u.oneCell'=true)∧cG w I e (m.take n) news∧(Builtin.lenOf v).run P w=.ok m.length w:=by
 rcases h with ⟨rfl,base,cap,r1,r2,r3⟩|⟨blk,off,cap,r1,r2,r3,r4⟩
 ·obtain rfl:n=0:=by simpa using hn
  subst r1;refine⟨[],?_,by simp,fun u hu=>absurd hu (by simp),fun i x hx=>absurd hx (by simp),rfl⟩;cases base with
  | none=>rfl
  | some ad=>exact run_firstCells_some w e.size 0 ad 0 cap [] (by simp) (fun j v hj=>by cases hj)
 ·obtain⟨news,n1,n2,n3,n4⟩:=u6 (w:=w) (l:=m.take n) fun i x hx=>by
   rw[jw] at hx;split at hx
   ·exact r4 i x hx
   ·cases hx
  rw[gb,rD hn] at n1;refine⟨news,?_,n1,n3,n4,by rw[r1];rfl⟩;rw[r1];exact run_firstCells_some w e.size n _ m.length cap news n1 (fun j u hj=>by rw[addr_add];exact n2 j u hj)
theorem vl{I:Nat→Nat→Prop}{s:List UInt8}(n:Nat)(hn:n≤s.length) :
  ∃news,(Builtin.firstCells 1 n (.string ⟨s.toArray⟩)).run P w=.ok news.toArray w∧news.length=n∧(∀u∈news,u.oneCell'=true)∧cG w I (.int .u8) ((ah s).take n:List Int) news∧(Builtin.lenOf (.string ⟨s.toArray⟩)).run P w=.ok (ah s).length w:=by
 refine⟨(s.take n).map fun b=>Value.int .u8 b.toNat,?_,by simp[hn],fun u hu=>?_,fun i x hx=>?_,?_⟩
 ·simp only[Builtin.firstCells,Sem.run_pure]
  congr 1
  apply zX;have e1:(⟨s.toArray⟩:ByteArray).extract 0 n=⟨(s.take n).toArray⟩:=by
   have:=Am s (i:=0) (j:=n) (by omega) (by omega);simpa [sub,minus] using this
  rw[e1];simp
 ·obtain⟨_,_,rfl⟩:=List.mem_map.1 hu;rfl
 ·have hx':((ah s).take n)[i]?=some x:=hx;rw[jw] at hx';split at hx'
  ·rename_i hi;simp only[ah,wH] at hx';cases hb:s[i]? with
   | none=>rw[hb] at hx';cases hx'
   | some b =>
     rw[hb] at hx';obtain rfl:(b.toNat:Int)=x:=au hx';refine⟨?_,yL b⟩;apply zO;intro j;rw[jw];split
     ·rename_i hj;obtain rfl:j=0:=by simp[Ty.size] at hj;exact hj
      rw[nk];simp[Ty.size,hb,hi]
     ·rename_i hj;obtain⟨k,rfl⟩:∃k,j=k+1:=⟨j-1,by simp[Ty.size] at hj;omega⟩;simp
  ·cases hx'
 ·simp[Builtin.lenOf,ah,ByteArray.size]
theorem mc(s:List UInt8):(ah s).length=s.length:=DT ..
theorem Gk{s:List UInt8}{n:Nat}(h:n≤(ah s).length):n≤s.length:=by rw[mc] at h;exact h
theorem B8(hm:aG B γ σ.mem w){e:Ty}{m:List e.den}{x:av}{v:Value}(hv:aV γ σ.mem w x .val [v])(h:jY e σ x=some m)(n:Nat)(hn:n≤m.length) :
  ∃news,(Builtin.firstCells e.size n v).run P w=.ok news.toArray w∧news.length=n*e.size∧(∀u∈news,u.oneCell'=true)∧cG w γ.I e (m.take n) news∧(Builtin.lenOf v).run P w=.ok m.length w:=by
 unfold jY at h;split at h
 ·rename_i t;obtain⟨q,hq⟩:=eK h;subst q;subst hq;obtain⟨ev,_⟩:=lE hv;rw[ev];have hn':n≤List.length (α:=UInt8) t:=Gk hn;obtain⟨news,n1,n2,n3,n4,n5⟩:=vl (P:=P) (w:=w) (I:=γ.I) (s:=t) n hn';exact⟨news,n1,by rw[n2];simp[Ty.size],n3,n4,n5⟩
 ·exact vk (iR hm hv h) n hn
theorem vm(hc:dw P cx){tt tx ty:TypeId}{t x:Operand}(h:bE B N γ σ a w)(hd:∀k,d=some k→k<N)(hr:(lS cx d tt (aZ σ t) (aZ σ x) σ).run=some σ') :
  gv P B N γ σ a w d (Builtin.copy_ #[tt,tx] ty #[a.eval t,a.eval x]) σ':=by
 unfold lS at hr;split at hr
 case h_2=>cases hr
 rename_i e hT;split at hr
 case h_1=>cases hr
 rename_i m hm;obtain⟨r,eP,hr2⟩:=bind_some hr;obtain rfl:=au hr2;obtain⟨bN,k1,k2,k3,k4⟩:=(hc.T _ _ hT).slice;obtain⟨base,cap,c1,c2,c3⟩:=qL (P:=P) h (h.aZ t) eP;have hlen:(fG (α:=e.den) m r.1).length=Nat.min m.length r.1.toNat:=by
  simp only[fG,gb];exact Nat.min_comm _ _
 obtain⟨news,n1,n2,n3,n4,n5⟩:=B8 (P:=P) h.ok (h.aZ x) hm (Nat.min m.length r.1.toNat) (Nat.min_le_left _ _);have Li:(m.take (Nat.min m.length r.1.toNat))=fG (α:=e.den) m r.1:=by
  simp only[fG];rcases Nat.le_total m.length r.1.toNat with hle|hle
  ·rw[show Nat.min m.length r.1.toNat=m.length from rD hle,yj (dB _),yj hle]
  ·rw[show Nat.min m.length r.1.toNat=r.1.toNat from Nat.min_eq_right hle]
 rw[Li] at n4;obtain⟨w',s1,s2,s3⟩:=c3 news n4 (by rw[n2,hlen]) n3 (by rw[hlen];exact Nat.min_le_right _ _);have hmax:(fG (α:=e.den) m r.1).length≤maxLen:=by
  rcases HQ (fG (α:=e.den) m r.1).length with h0|h0
  ·omega
  ·rw[hlen];refine gK (Nat.min_le_left _ _) ?_;have hv:=h.aZ x;unfold jY at hm;split at hm
   ·rename_i s hs;obtain⟨q,hq⟩:=eK hm;subst q;subst hq;rw[hs] at hv;obtain⟨_,h2⟩:=lE hv;exact gK (ym (mc s)) h2
   ·rcases iR h.ok hv hm with ⟨rfl,_⟩|⟨_,_,cap,_,h2,h3,_⟩
    ·exact lO _
    ·exact gK h2 h3
 refine⟨goInt (fG (α:=e.den) m r.1).length,w',γ,?_,?_,?_⟩
 ·have hsz:=k2.sizeOf w;simp only[Builtin.copy_,c1];simp only[Js,Fo,Fq,Sem.run_bind,run_underlying k1,Result.andThen_ok,n5,hsz,n1,hlen];cases base with
  | none=>simp only[Sem.run_pure,Result.andThen_ok] at s1⊢;injection s1 with _ s1;subst s1;rfl
  | some ad=>simp only at s1⊢;simp only[Sem.run_bind,s1,Result.andThen_ok,Sem.run_pure]
 ·have h9:(maxLen:Int)≤IntKind.i64.max:=by decide
  have h8:IntKind.i64.min≤0:=by decide
  have:=s2.nG hd (v:=.data (.int .i64) (len (fG (α:=e.den) m r.1))) (val:=goInt (fG (α:=e.den) m r.1).length) (mkInt ⟨by simp only[len];omega,by simp only[len];omega⟩);exact this
 ·cases d<;>exact s3
theorem tO(hc:dw P cx){tt ty:TypeId}{t:Operand}(h:bE B N γ σ a w)(hr:(lT cx tt (aZ σ t) σ).run=some σ') :
  gv P B N γ σ a w none (Builtin.clear_ #[tt] ty #[a.eval t]) σ':=by
 unfold lT at hr;split at hr
 case h_2=>cases hr
 rename_i e hT;obtain⟨r,eP,hr2⟩:=bind_some hr;obtain rfl:=au hr2;obtain⟨bN,k1,k2,k3,k4⟩:=(hc.T _ _ hT).slice;obtain⟨base,cap,c1,c2,c3⟩:=qL (P:=P) h (h.aZ t) eP;have hlen:(yo r.1 e.zero).length=r.1.toNat:=by simp[yo]
 obtain⟨z,z1,z2⟩:=k2.zero w;have hz:=kf z2 k4 r.1.toNat;have KF:=gR w γ.I (.arr r.1.toNat e);have hcells:(Builtin.zeroCells z.cells r.1.toNat).toList=cC (.arr r.1.toNat e):=by
  have hzl:z.cells.size=e.size:=by rw[←cc e,←z2];simp
  rw[←hz];simp only[Builtin.zeroCells,madeCells,hzl]
 obtain⟨w',s1,s2,s3⟩:=c3 (cC (.arr r.1.toNat e)) (fun i x hx=>KF.2.2 i x hx) (by rw[cc,hlen];rfl) (fun u hu=>KF.one u hu) (ym hlen);refine⟨.tuple #[],w',γ,?_,s2,s3⟩;simp only[Builtin.clear_,c1];simp only[Js,Fo,Sem.run_bind,run_underlying k1,Result.andThen_ok];cases base with
 | none=>simp only[Sem.run_pure,Result.andThen_ok] at s1⊢;injection s1 with _ s1;subst s1;rfl
 | some ad =>
   simp only at s1;by_cases h0:r.1.toNat=0
   ·have:cC (.arr r.1.toNat e)=[]:=Fc (by rw[cc];simp[Ty.size,h0]);rw[this] at s1;injection s1 with _ s1
    subst s1;rw[h0];simp only[Sem.run_pure,Result.andThen_ok]
   ·obtain⟨k,hk⟩:∃k,r.1.toNat=k+1:=⟨r.1.toNat-1,by omega⟩;rw[hk] at s1 hcells⊢;simp only[Sem.run_bind,z1,Result.andThen_ok,hcells,s1,Sem.run_pure]
theorem qM{least:Bool}{p q r:av}{u v:Value}(hu:aV γ σ.mem w p .val [u])(hv:aV γ σ.mem w q .val [v])(hr:(yq least p q).run=some r) :
  ∃z,((if least then Builtin.min2 u v else Builtin.max2 u v)).run P w=.ok z w∧aV γ σ.mem w r .val [z]:=by
 unfold yq at hr;split at hr
 ·rename_i k n k' m;obtain⟨hk,hr2⟩:=ai hr;obtain rfl:=lP hk;obtain rfl:=au hr2;obtain⟨rfl,h1⟩:=jz hu;obtain⟨rfl,h2⟩:=jz hv;have cmp:∀n m:Int,k.min≤n∧n≤k.max→k.min≤m∧m≤k.max→aV γ σ.mem w (.data (.int k) (JY n m)) .val [.int k (if m<n then m else n)]∧aV γ σ.mem w (.data (.int k) (imax n m)) .val [.int k (if m > n then m else n)]:=by
   intro n m h1 h2;constructor
   ·unfold JY;by_cases hlt:m<n
    ·simp only[hlt,BG,bZ,iE];exact mkInt h2
    ·simp only[hlt,Dj,ez,rG];exact mkInt h1
   ·unfold imax;by_cases hlt:n<m
    ·simp only[hlt,BG,bZ,gt_iff_lt,iE];exact mkInt h2
    ·simp only[hlt,Dj,ez,gt_iff_lt,rG];exact mkInt h1
  cases least with
  | true=>exact⟨_,rfl,(cmp n m h1 h2).1⟩
  | false=>exact⟨_,rfl,(cmp n m h1 h2).2⟩
 ·cases hr
end
end Go.Ge
namespace Go.Ge
open RowKit
section
variable {P:Program} {B:iP} {N:Nat} {γ:Gh} {σ σ':St} {a:Act} {w w':World} {d:Option Nat} {cx:Ctx} {nb:Nat} {bf:List Nat} {inl:Nat→List av→St→Tree (av×St)}
theorem yR{f:Operand→av}{l:List Operand}{x:av}(h:l.map f=[x]):∃o,l=[o]∧f o=x:=by
 cases l with
 | nil=>cases h
 | cons o r=>cases r with
   | nil=>exact⟨o,rfl,by simpa using h⟩
   | cons p r=>simp at h
theorem uu{f:Operand→av}{l:List Operand}{x y:av}(h:l.map f=[x,y]):∃o p,l=[o,p]∧f o=x∧f p=y:=by
 cases l with
 | nil=>cases h
 | cons o r =>
   obtain⟨p,hp,hq⟩:=yR (l:=r) (f:=f) (x:=y) (by simp at h⊢;exact h.2);subst hp;exact⟨o,p,rfl,by simp at h;exact h.1,hq⟩
theorem cv{α:Type}{a:Array α}{l:List α}(h:a.toList=l):a=l.toArray:=by rw[←h]
theorem Ei{α:Type}(k:Value→Array Value→Sem α)(x:Value)(xs:Array Value):(match(#[x]++xs)[0]? with|some recv=>k recv ((#[x]++xs).extract 1 (#[x]++xs).size)|x=>stuck "call: a method without a receiver")=k x xs.toList.toArray:=by
 have h0:(#[x]++xs)[0]?=some x:=by rw[←Ft,Fi];rfl
 have h1:(#[x]++xs).extract 1 (#[x]++xs).size=xs.toList.toArray:=by
  apply zX;rw[Array.toList_extract,Fi,FA];simp[List.extract];rw[←Fh,Dd]
 rw[h0,h1]
theorem B9(hc:dw P cx)(dy:jD P B.G cx)(fE:mb P B.G inl){o:Oper}{c:Call}(ho:o.op=.call c)(h:bE B N γ σ a w)(hd:∀k,o.dst=some k→k<N)
  (hr:(jZ cx nb bf inl o.dst o.type c σ).run=some σ') {K:Act→World→Prop} {Q:Exit→Act→World→Prop} (hK:qI B N γ σ a w o.dst σ' K):o.wp P a w K Q:=by
 unfold jZ at hr;split at hr
 ·rename_i b vn;split at hr
  ·
   rename_i x t hx ht;obtain⟨ox,E8,rfl⟩:=yR hx;cases hlt:Dl (find cx.T t) (aZ σ ox) with
   | false =>
     rw[hlt] at hr;simp only[ez] at hr;split at hr
     ·rename_i e b ag q u k lo n he hx;obtain⟨hl,hr2⟩:=ai hr;simp only[bY,wG] at hl;obtain rfl:=au hr2;obtain⟨bx,gW,aC⟩:=eO hl.1;have hv:=h.aZ ox;rw[hx] at hv;obtain⟨_,blk,c',g1,g2,g3,g4,base,cap,g5,g6,g7⟩:=aD gW aC hv.2;obtain g5:a.eval ox=_:=by simpa using g5
      refine aO (s:=Builtin.len_ c.argTypes o.type (c.args.map a.eval)) ?_ (aL h hd (x:=.int .i64 n) ?_ (mkInt ?_)) hK
      ·unfold execOp;simp only[ho,resolve,vn,invoke,builtin];rfl
      ·rw[cv E8,cv ht,show Array.map a.eval [ox].toArray=#[a.eval ox] from by simp,g5];simp[Builtin.len_,run_underlying (mO hc he).1,Fx g3];rfl
      ·exact⟨Int.le_trans (by decide) g3,Int.le_trans hl.2 (by decide)⟩
     ·exact absurd hr (by intro k;cases k)
   | true =>
   have hr2:(match lenOf σ (aZ σ ox) with|some n=>Tree.ret (σ.aA o.dst (.data (.int .i64) n))|none=>.fail).run=some σ':=by rw[hlt] at hr;exact hr
   split at hr2
   ·rename_i n hn;obtain rfl:=au hr2;obtain⟨l1,l2⟩:=Av (ty:=o.type) hc h.ok (h.aZ ox) hlt hn;refine aO (s:=Builtin.len_ c.argTypes o.type (c.args.map a.eval)) ?_ (aL h hd (x:=.int .i64 n) ?_ (mkInt l2)) hK
    ·unfold execOp;simp only[ho,resolve,vn,invoke,builtin];rfl
    ·rw[cv E8,cv ht,show Array.map a.eval [ox].toArray=#[a.eval ox] from by simp];exact l1
   ·exact absurd hr2 (by intro k;cases k)
  ·rename_i s x t u hx ht;obtain⟨os,ox,E8,rfl,rfl⟩:=uu hx;have key:(∃e,P.underlying u=some (.slice e))∨P.underlying u=some .string→(dG cx nb o.dst t (aZ σ os) (aZ σ ox) σ).run=some σ'→o.wp P a w K Q:=by
    intro hk hr2;refine aO (s:=Builtin.append_ c.argTypes o.type (c.args.map a.eval)) ?_ ?_ hK
    ·unfold execOp;simp only[ho,resolve,vn,invoke,builtin];rfl
    ·rw[cv E8,cv ht,show Array.map a.eval [os,ox].toArray=#[a.eval os,a.eval ox] from by simp];exact rW hc h hd hk hr2
   split at hr
   ·rename_i hu;exact key (.inr (hc.T _ _ hu).str) hr
   ·rename_i e hu;obtain⟨bN,f1,_⟩:=(hc.T _ _ hu).slice;exact key (.inl ⟨bN,f1⟩) hr
   ·exact absurd hr (by intro k;cases k)
  ·rename_i t x tt tx hx ht;obtain⟨ot,ox,E8,rfl,rfl⟩:=uu hx;have key:(lS cx o.dst tt (aZ σ ot) (aZ σ ox) σ).run=some σ'→o.wp P a w K Q:=by
    intro hr2;refine aO (s:=Builtin.copy_ c.argTypes o.type (c.args.map a.eval)) ?_ ?_ hK
    ·unfold execOp;simp only[ho,resolve,vn,invoke,builtin];rfl
    ·rw[cv E8,cv ht,show Array.map a.eval [ot,ox].toArray=#[a.eval ot,a.eval ox] from by simp];exact vm hc h hd hr2
   split at hr
   ·exact key hr
   ·exact key hr
   ·exact absurd hr (by intro k;cases k)
  ·rename_i t tt hx ht;obtain⟨ot,E8,rfl⟩:=yR hx;split at hr
   ·rename_i Ca;refine aO (s:=Builtin.clear_ c.argTypes o.type (c.args.map a.eval)) ?_ ?_ hK
    ·unfold execOp;simp only[ho,resolve,vn,invoke,builtin];rfl
    ·rw[cv E8,cv ht,show Array.map a.eval [ot].toArray=#[a.eval ot] from by simp,Ca];exact tO hc h hr
   ·exact absurd hr (by intro k;cases k)
  ·rename_i x y hx;obtain⟨ox,oy,E8,rfl,rfl⟩:=uu hx;obtain⟨v,hb,hr2⟩:=bind_some hr;obtain rfl:=au hr2;obtain⟨z,z1,z2⟩:=qM (P:=P) (h.aZ ox) (h.aZ oy) hb;refine aO (s:=Builtin.min_ c.argTypes o.type (c.args.map a.eval)) ?_ (aL h hd (x:=z) ?_ z2) hK
   ·unfold execOp;simp only[ho,resolve,vn,invoke,builtin];rfl
   ·rw[cv E8,show Array.map a.eval [ox,oy].toArray=#[a.eval ox,a.eval oy] from by simp];simp only[iE] at z1;simp[Builtin.min_,z1]
  ·rename_i x y hx;obtain⟨ox,oy,E8,rfl,rfl⟩:=uu hx;obtain⟨v,hb,hr2⟩:=bind_some hr;obtain rfl:=au hr2;obtain⟨z,z1,z2⟩:=qM (P:=P) (h.aZ ox) (h.aZ oy) hb;refine aO (s:=Builtin.max_ c.argTypes o.type (c.args.map a.eval)) ?_ (aL h hd (x:=z) ?_ z2) hK
   ·unfold execOp;simp only[ho,resolve,vn,invoke,builtin];rfl
   ·rw[cv E8,show Array.map a.eval [ox,oy].toArray=#[a.eval ox,a.eval oy] from by simp];simp only[BC,rG] at z1;simp[Builtin.max_,z1]
  ·exact absurd hr (by intro k;cases k)
 ·rename_i f vn;split at hr
  ·rename_i fid caps hf;obtain⟨Lj,hr2⟩:=ai hr;have hv:=h.aZ f;rw[hf] at hv;obtain⟨arr,v1,v2,v3⟩:=hv;obtain v1:=sD v1;have Gl:gm γ σ.mem w (caps.map fun b=>.ptr b.1 b.2 []) arr.toList:=by
    refine⟨by simpa using v2,fun i v x h1 h2=>?_⟩;rw[wH] at h1;cases hi:caps[i]? with
    | none=>rw[hi] at h1;cases h1
    | some bv =>
      rw[hi] at h1;obtain rfl:=au h1;have hl:=List.all_eq_true.1 Lj bv (BA hi);obtain⟨bx,hb,aC⟩:=eO hl;have Gm:=v3 i bv.1 bv.2 (by rw[hi]);obtain⟨blk,cap,g1,g2⟩:=aD hb aC Gm;have hx:x=.pointer (some ⟨blk,0,none⟩):=by
       have:arr[i]?=some x:=by simpa using h2
       rw[g2] at this;exact(au this).symm
      subst hx;exact⟨⟨_,rfl,rfl⟩,bx,hb,ym aC.symm,fun _=>⟨blk,cap,g1,rfl⟩⟩
   have hall:gm γ σ.mem w (c.args.toList.map (aZ σ)++caps.map fun b=>.ptr b.1 b.2 []) (c.args.map a.eval++arr).toList:=by
    rw[Fi,Fj];exact(xX h).append Gl
   refine vj (f:=fid) (xs:=c.args.map a.eval++arr) ?_ (wX dy fE h hd hall hr2 hK);unfold execOp;simp only[ho,resolve,vn,Deferred.ofValue,v1,Sem.run_bind,Sem.run_pure,Result.andThen_ok,invoke];simp
  ·exact absurd hr (by intro k;cases k)
 ·
  rename_i r name vn;unfold iN at hr;split at hr
  ·rename_i cn Lk;split at hr
   ·rename_i x σ1 hx;obtain⟨y,hy,hr2⟩:=aR hr;obtain rfl:=au hr2;have hall:gm γ σ.mem w (aZ σ r::c.args.toList.map (aZ σ)) (a.eval r::(c.args.map a.eval).toList):=by
     rw[Fj];exact xX (ops:=r::c.args.toList) h
    obtain⟨dS,s1,s2,s3⟩:=ja h hall hx;obtain⟨f,u,e1,e2,e3⟩:=dy.inv name cn Lk dS.I w (a.eval r) _ x y (fun b o hi=>s1.ok.kO b o hi) s1.ok.yB s3 hy;refine vj (f:=f) (xs:=(u::(c.args.map a.eval).toList).toArray) ?_ ⟨e2,e3.mono fun e w' hw=>?_⟩
    ·rw[←e1];unfold execOp;simp only[ho,resolve,vn,Sem.run_bind,Sem.run_pure,Result.andThen_ok,invoke];exact congrArg (fun z:Sem Next=>z.run P w) (Ei (fun v=>callMethod v name) (a.eval r) (Array.map a.eval c.args))
    ·obtain⟨v,I',h1,h2,h3,h4,h5,h6⟩:=hw;refine⟨v,h1,?_⟩;obtain⟨m1,m2⟩:=s1.ok.LY (I':=I') h2 h3 h4 h5;refine hK ⟨I',dS.loc⟩ _ w' (s1.aA m2 m1 hd (h6.rep (fun _ _ hi=>hi))) ?_;cases o.dst<;>exact s2.trans m2
   ·exact absurd hr (by intro k;cases k)
  ·exact absurd hr (by intro k;cases k)
theorem Ax{I:Nat→Nat→Prop}{tid:TypeId}{u:Nat}:∀{t:Ty} {a:Ty} {f:a.den→t.den},Den P t tid→z8 t u=some ⟨a,f⟩ →
  P.concrete u=true∧∀(y:a.den) (cs:List Value),aM w I a y cs→aM w I t (f y) [.iface u (bk a cs)]:=by
 intro t;induction t with
 | alt n a r eH ihr =>
   intro b f hd h;unfold z8 at h;obtain⟨h1,h2⟩:=hd.rest;cases hn:Nat.beq n u with
   | true =>
     rw[hn] at h;obtain rfl:=cB hn;cases h;exact⟨h2,fun y cs hy=>⟨h1.FV hd,cs,rfl,hy⟩⟩
   | false =>
     rw[hn] at h;simp only[ez] at h;split at h
     ·rename_i b' g hg;cases h;obtain⟨k1,k2⟩:=ihr h1 hg;exact⟨k1,fun y cs hy=>k2 y cs hy⟩
     ·cases h
 | _=>intro b f hd h;cases h
theorem Im{tid:TypeId}{u:Nat}{t:Ty}{a:Ty}{f:a.den→t.den}(hd:Den P t tid)(h:z8 t u=some ⟨a,f⟩):t.isAgg=false:=by
 cases t with
 | alt n b r=>simp only[Den,cP,bY] at hd;exact(Ty.uQ hd.2).2
 | _=>cases h
theorem tP(hc:dw P cx){ty u:TypeId}{x:Operand}(h:bE B N γ σ a w)(hd:∀k,d=some k→k<N)(hr:(iM cx d ty u (aZ σ x) σ).run=some σ') :
  gv P B N γ σ a w d (Instr.makeInterface u (a.eval x)) σ':=by
 unfold iM at hr;split at hr
 ·rename_i t ht;have Io:=hc.T _ _ ht;split at hr
  ·rename_i b f hf;split at hr
   ·rename_i y σ1 hg;obtain rfl:=au hr;obtain⟨dS,s1,s2,cs,s3,s4⟩:=fQ h (h.aZ x) hg;obtain⟨k1,k2⟩:=Ax (w:=w) (I:=dS.I) Io hf;have Ow:a.eval x=bk b cs:=by simpa using s4
    have FZ:=Im Io hf;refine⟨.iface u (a.eval x),w,dS,run_makeInterface w u _ k1,s1.nG hd ⟨_,k2 y cs s3,?_⟩,?_⟩
    ·rw[Ow];unfold bk;rw[FZ];rfl
    ·cases d<;>exact s2
   ·exact absurd hr (by intro k;cases k)
  ·exact absurd hr (by intro k;cases k)
 ·exact absurd hr (by intro k;cases k)
theorem Ay{o:Oper}{s:Sem Unit}{K:Act→World→Prop}{Q:Exit→Act→World→Prop}(hs:execOp a.eval o=(do s;pure .skip))(Ca:o.dst=none)
  (h:∃w' γ',s.run P w=.ok () w'∧bE B N γ' σ' a w'∧Ext B γ σ.mem w γ' σ'.mem w') (hK:qI B N γ σ a w o.dst σ' K):o.wp P a w K Q:=by
 obtain⟨w',γ',h1,h2,h3⟩:=h;unfold Oper.wp;rw[hs];simp only[Sem.run_bind,h1,Result.andThen_ok,Sem.run_pure,Oper.upon_skip];exact hK γ' _ w' (by rw[Ca];exact h2) h3
theorem pV{d:Option Nat}{k:Nat}(h:z7 bf d=some k):d=some k∧bC bf k=true:=by
 unfold z7 at h;split at h
 ·rename_i d;cases hb:bC bf d with
  | false=>rw[hb] at h;cases h
  | true=>rw[hb] at h;obtain rfl:=au h;exact⟨rfl,hb⟩
 ·cases h
theorem vo(hc:dw P cx)(dy:jD P B.G cx)(fE:mb P B.G inl){o:Oper}(h:bE B N γ σ a w)(hd:∀k,o.dst=some k→k<N)
  (hr:(gY cx nb bf inl o σ).run=some σ') {K:Act→World→Prop} {Q:Exit→Act→World→Prop} (hK:qI B N γ σ a w o.dst σ' K):o.wp P a w K Q:=by
 unfold gY at hr;split at hr
 case h_1 x ho=>exact aO (s:=pure (a.eval x)) (by simp only[execOp,ho];rfl) (lY hc h hd hr) hK
 case h_2 x ho=>exact aO (s:=pure (a.eval x)) (by simp only[execOp,ho];rfl) (lY hc h hd hr) hK
 case h_3 c x y ho=>exact aO (s:=do pure (if ←asBool (a.eval c) then a.eval x else a.eval y)) (by simp only[execOp,ho];simp[bind_assoc]) (uW h hd hr) hK
 case h_4 elem ho =>
  split at hr
  ·rename_i k t hk hT;rw[hk] at hd;refine aO (s:=Instr.alloc elem true (.tuple #[])) (by simp only[execOp,ho]) ?_ hK;rw[hk];exact tJ hc h (hd k rfl) hT hr
  ·rename_i k hk hT;rw[hk] at hd;refine aO (s:=Instr.alloc elem true (.tuple #[])) (by simp only[execOp,ho]) ?_ hK;rw[hk];split at hr
   ·rename_i fs hO;exact tI hc h (hd k rfl) hO hr
   ·obtain⟨h1,hr2⟩:=ai hr;exact tH hc h (hd k rfl) h1 hr2
  ·exact absurd hr (by intro k;cases k)
 case h_5 elem x ho =>
  unfold qj at hr;split at hr
  ·exact absurd hr (by intro k;cases k)
  ·exact absurd hr (by intro k;cases k)
  ·rename_i k hk h1 h2;rw[hk] at hd;refine aO (s:=Instr.box elem (a.eval x)) (by simp only[execOp,ho]) ?_ hK;rw[hk];split at hr
   ·exact wP h (hd k rfl) h1 h2 hr
   ·exact Ec h (hd k rfl) h1 h2 hr
  ·exact absurd hr (by intro k;cases k)
 case h_6 t parts ho =>
  refine aO (s:=Instr.build t (parts.map fun(i,x)=>(i,a.eval x))) (by simp only[execOp,ho]) ?_ hK;split at hr
  ·rename_i u v hT;split at hr
   ·rename_i x σ1 hb;obtain rfl:=au hr;exact pQ hc h hd hT hb
   ·exact absurd hr (by intro k;cases k)
  ·rename_i n e hT;split at hr
   ·rename_i l σ1 hb;obtain rfl:=au hr;exact qE hc h hd hT hb
   ·exact absurd hr (by intro k;cases k)
  ·split at hr
   ·rename_i fs hO;split at hr
    ·rename_i z0 JE;split at hr
     ·rename_i p q hb;obtain rfl:=au hr;exact tL hc h hd hO JE hb
     ·rename_i u hb;obtain rfl:=au hr;exact rS hc h hd hO JE hb
     ·exact absurd hr (by intro k;cases k)
    ·exact absurd hr (by intro k;cases k)
   ·exact absurd hr (by intro k;cases k)
  ·exact absurd hr (by intro k;cases k)
 case h_7 t n parts ho =>
  refine aO (s:=Instr.buildSlice t n (parts.map fun(i,x)=>(i,a.eval x))) (by simp only[execOp,ho]) ?_ hK;split at hr
  ·rename_i e hT;split at hr
   ·rename_i k aJ hparts;obtain⟨hk,_⟩:=pV aJ;have hp:parts=#[]:=by simpa using hparts
    rw[hk,hp];rw[hk] at hd;rw[Array.map_empty];exact rU hc h (hd k rfl) hT hr
   ·obtain⟨hn,hr2⟩:=ai hr;split at hr2
    ·rename_i l σ1 hb;obtain rfl:=au hr2;exact rT hc h hd hT hn hb
    ·exact absurd hr2 (by intro k;cases k)
  ·exact wR hc h hd hr
  ·exact absurd hr (by intro k;cases k)
 case h_8 t x ho=>exact aO (s:=Instr.loadAt t (a.eval x)) (by simp only[execOp,ho]) (u5 hc h hd hr) hK
 case h_9 t x y ho =>
  split at hr
  ·rename_i hk;exact Ay (s:=Instr.storeAt t (a.eval x) (a.eval y)) (by simp only[execOp,ho]) hk (tG hc h hr) hK
  ·exact absurd hr (by intro k;cases k)
 case h_10 x ho =>
  have hv:=h.aZ x;have fin:∀{v:av} {y:Value},a.eval x=y→execOp a.eval o=(do pure (.value (←(pure y:Sem Value))))→aV γ σ.mem w v .val [y]→σ'=σ.aA o.dst v→o.wp P a w K Q:=by
   intro v y he hs Ox Oy;subst Oy;exact aO (s:=pure y) hs (aL h hd rfl Ox) hK
  split at hr
  ·rename_i b ag p hx;rw[hx] at hv;obtain⟨hl,hr2⟩:=ai hr;obtain⟨bx,hb,aC⟩:=eO hl;obtain⟨blk,cap,g1,g2⟩:=aD hb aC hv.2;have g2:=sD g2;rw[g2] at hv;exact fin g2 (by simp only[execOp,ho,g2];rfl) hv (au hr2).symm
  ·rename_i t y hx;rw[hx] at hv;obtain⟨blk,off,cs,g1,g2,g3⟩:=id hv;have g1:=sD g1;rw[g1] at hv;exact fin g1 (by simp only[execOp,ho,g1];rfl) hv (au hr).symm
  ·rename_i f c hx;rw[hx] at hv;obtain⟨arr,g1,g2,g3⟩:=id hv;have g1:=sD g1;rw[g1] at hv;exact fin g1 (by simp only[execOp,ho,g1];rfl) hv (au hr).symm
  ·exact absurd hr (by intro k;cases k)
 case h_11 op xt x y pos ho =>
  obtain⟨v,hb,hr2⟩:=bind_some hr;obtain rfl:=au hr2;obtain⟨z,z1,z2⟩:=BS (P:=P) (x:=x) (y:=y) hc (h.aZ x) (h.aZ y) hb;refine aO (s:=dx op xt x y (a.eval x) (a.eval y)) (by simp only[execOp,ho,dx]) (aL h hd z1 z2) hK
 case h_12 op ty x ho =>
  obtain⟨v,hb,hr2⟩:=bind_some hr;obtain rfl:=au hr2;obtain⟨z,z1,z2⟩:=F2 (P:=P) (h.aZ x) hb;exact aO (s:=Op.unary op (a.eval x)) (by simp only[execOp,ho]) (aL h hd z1 z2) hK
 case h_13 src dst x ho=>exact aO (s:=convert src dst (a.eval x)) (by simp only[execOp,ho]) (qF hc h hd hr) hK
 case h_14 f first caps ho =>
  split at hr
  ·rename_i cs Kg hcs;obtain rfl:=au hr;refine aO (s:=Instr.makeFunc (.func f) #[] (caps.map a.eval)) ?_ (u7 h hd hcs) hK;have:first=#[]:=by simpa using Kg
   simp only[execOp,ho,this,show Array.map a.eval #[]=#[] from by simp]
  ·exact absurd hr (by intro k;cases k)
 case h_15 t x lo hi ho=>exact aO (s:=Instr.sliceAt t (a.eval x) (lo.map a.eval) (hi.map a.eval) none) (by simp only[execOp,ho];rfl) (tF hc h hd hr) hK
 case h_16 s x k ho=>exact aO (s:=Instr.fieldAt s (a.eval x) k) (by simp only[execOp,ho]) (oP hc h hd hr) hK
 case h_17 xt x k ho =>
  have hv:=h.aZ x;split at hr
  ·rename_i u y hx;rw[hx] at hv;obtain⟨hT,hr2⟩:=ai hr;split at hr2
   ·rename_i off v hf;obtain rfl:=au hr2;obtain⟨z,z1,z2⟩:=Al (P:=P) hc (dR hT) hv hf;exact aO (s:=Instr.field xt (a.eval x) k) (by simp only[execOp,ho]) (aL h hd z1 z2) hK
   ·exact absurd hr2 (by intro k;cases k)
  ·exact absurd hr (by intro k;cases k)
 case h_18 t x i ho =>
  split at hr
  ·rename_i ki n hi;have hv:=h.aZ i;rw[hi] at hv;obtain⟨ei,_⟩:=jz hv;refine aO (s:=Instr.indexAt t (a.eval x) (a.eval i)) (by simp only[execOp,ho]) ?_ hK;rw[ei];cases hm:bC bf 5000000 with
   | true=>rw[hm] at hr;exact tD hc h hd hr
   | false=>rw[hm] at hr;exact jC hc h hd hr
  ·exact absurd hr (by intro k;cases k)
 case h_19 t x i ho =>
  split at hr
  ·rename_i ki n hi;have hv:=h.aZ i;rw[hi] at hv;obtain⟨ei,_⟩:=jz hv;refine aO (s:=Instr.index t (a.eval x) (a.eval i)) (by simp only[execOp,ho]) ?_ hK;rw[ei];exact tE hc h hd hr
  ·exact absurd hr (by intro k;cases k)
 case h_20 t l c ho =>
  split at hr
  ·rename_i k e kl ln kc cn hk hT hl E2;rw[hk] at hd;obtain⟨hin,hr2⟩:=aX hr;obtain⟨hf,dV⟩:=aX hr2;refine aO (s:=Instr.makeSlice t (a.eval l) (a.eval c)) (by simp only[execOp,ho]) ?_ hK;rw[hk];exact tM hc h (hd k rfl) hT hl E2 hin hf dV
  ·exact absurd hr (by intro k;cases k)
 case h_21 t k ho =>
  split at hr
  ·rename_i vs hx;split at hr
   ·rename_i v hn;obtain rfl:=au hr;exact aO (s:=Instr.extract (a.eval t) k) (by simp only[execOp,ho]) (wQ h hd hx hn) hK
   ·exact absurd hr (by intro k;cases k)
  ·exact absurd hr (by intro k;cases k)
 case h_22 c ho=>exact B9 hc dy fE ho h hd hr hK
 case h_23 u x ho=>exact aO (s:=Instr.makeInterface u (a.eval x)) (by simp only[execOp,ho]) (tP hc h hd hr) hK
 case h_24=>exact absurd hr (by intro k;cases k)
end
end Go.Ge
namespace Go.Ge
open RowKit
def aE(σ σ':St):Prop:=∀b bx,σ.mem b=some bx→bx.lk=true→σ'.mem b=some bx
theorem aE.refl(σ:St):aE σ σ:=fun _ _ h _=>h
theorem aE.trans{σ σ' Ip:St}(h:aE σ σ')(k:aE σ' Ip):aE σ Ip:=fun b bx hb hl=>k b bx (h b bx hb hl) hl
theorem aE.put(σ:St)(d:Nat)(v:av):aE σ (σ.put d v):=fun _ _ h _=>h
theorem aE.aA(σ:St)(d:Option Nat)(v:av):aE σ (σ.aA d v):=by cases d<;>exact fun _ _ h _=>h
theorem aE.Gn{σ σ':St}(h:σ'.mem=σ.mem):aE σ σ':=fun b bx hb _=>by rw[h];exact hb
theorem dX{σ:St}{b:Nat}{bx:aI}(h:∀bF,σ.mem b=some bF→bF.lk=false):aE σ (σ.aW b bx):=fun c cx hc hl=>by
 by_cases e:c=b
 ·subst e;rw[h cx hc] at hl;cases hl
 ·rw[ke,az _ e];exact hc
theorem fS{β:Type}{σ:St}{b:Nat}{val:av}{tid:TypeId}{buf:Bool}{k:Nat→St→Tree β}{y:β}(h:(σ.ay b val tid buf k).run=some y) :
  ∃ag,aE σ (σ.aW b { val,tid,buf,ro:=false,lk:=false,ag })∧(k ag (σ.aW b { val,tid,buf,ro:=false,lk:=false,ag })).run=some y:=by
 unfold St.ay at h;split at h
 ·rename_i bx hb;cases hl:bx.lk with
  | true=>rw[hl] at h;cases h
  | false =>
    rw[hl] at h;exact⟨bx.ag+1,dX (fun bF h0=>by rw[hb] at h0;obtain rfl:=au h0;exact hl),h⟩
 ·rename_i hb;exact⟨0,dX (fun bF h0=>by rw[hb] at h0;cases h0),h⟩
theorem sS{σ σ':St}{b:Nat}(h:freeze σ b=some σ'):aE σ σ':=by
 unfold freeze at h;split at h
 ·rename_i bx hb;cases hro:bx.ro with
  | true=>simp only[hro,bZ,jx] at h;rw[←h];exact aE.refl _
  | false =>
    cases hlk:bx.lk with
    | true=>simp[hro,hlk] at h
    | false =>
      simp only[hro,hlk,ez,jx] at h;rw[←h];exact dX fun bF h0=>by rw[hb] at h0;obtain rfl:=au h0;exact hlk
 ·cases h
theorem yS:∀{v:av} {σ σ':St},dm σ v=some σ'→aE σ σ':=by
 intro v;induction v with
 | mix p q l8 lG =>
   intro σ σ' h;obtain⟨σ1,h1,h2⟩:=kU h;exact(l8 h1).trans (lG h2)
 | whole b ag=>intro σ σ' h;exact sS h
 | part b ag lo n=>intro σ σ' h;exact sS h
 | _=>intro σ σ' h;obtain rfl:=au h;exact aE.refl _
theorem gT{t:Ty}{x:t.den}{v:av}{σ σ':St}(h:lR σ t v=some (x,σ')):aE σ σ':=by
 unfold lR at h;split at h
 ·split at h
  ·obtain⟨_,rfl⟩:=bM (au h);exact aE.refl _
  ·cases h
 ·split at h
  ·rename_i y σ1 hl hf;obtain⟨_,rfl⟩:=bM (au h);exact yS hf
  ·cases h
theorem ij:∀{A:Ty} {x:A.den} {vs:List av} {σ σ':St},eZ σ A vs=some (x,σ')→aE σ σ':=by
 intro A;induction A with
 | pair t r BH ihr =>
   intro x vs σ σ' hl;cases vs with
   | nil=>cases hl
   | cons v vs =>
     simp only[eZ] at hl;split at hl
     ·rename_i p σ1 hp;split at hl
      ·rename_i q σ2 hq;obtain⟨_,rfl⟩:=bM (au hl);exact(gT hp).trans (ihr hq)
      ·cases hl
     ·cases hl
 | unit =>
   intro x vs σ σ' hl;cases vs with
   | nil=>obtain⟨_,rfl⟩:=bM (au hl);exact aE.refl _
   | cons v vs=>cases hl
 | _=>intro x vs σ σ' hl;cases vs<;>cases hl
theorem tQ{t:Ty}:∀{parts:List (Nat×Operand)} {x x':t.den} {σ σ':St},cW σ t x parts=some (x',σ')→aE σ σ':=by
 intro parts;induction parts with
 | nil=>intro x x' σ σ' h;obtain⟨_,rfl⟩:=bM (au h);exact aE.refl _
 | cons p r ih =>
   obtain⟨k,o⟩:=p;intro x x' σ σ' h;simp only[cW] at h;split at h
   ·split at h
    ·rename_i hg;split at h
     ·exact(gT hg).trans (ih h)
     ·cases h
    ·cases h
   ·cases h
theorem nO{e:Ty}:∀{parts:List (Nat×Operand)} {l l':List e.den} {σ σ':St},cR σ e l parts=some (l',σ')→aE σ σ':=by
 intro parts;induction parts with
 | nil=>intro x x' σ σ' h;obtain⟨_,rfl⟩:=bM (au h);exact aE.refl _
 | cons p r ih =>
   obtain⟨k,o⟩:=p;intro l l' σ σ' h;simp only[cR] at h;split at h
   ·rename_i hg;cases hlt:Nat.blt k l.length with
    | false=>rw[hlt] at h;cases h
    | true=>rw[hlt] at h;exact(gT hg).trans (ih h)
   ·cases h
theorem qN{b ag:Nat}{p:List pI}{fit:av→Bool}{u:av}{σ σ':St}(hr:(storeAt b ag p fit u σ).run=some σ'):aE σ σ':=by
 unfold storeAt at hr;split at hr
 case h_2=>exact absurd hr (by intro k;cases k)
 rename_i bx hb;obtain⟨hc,hr2⟩:=ai hr;simp only[bY,oh] at hc;obtain⟨old,hn,dV⟩:=bind_some hr2;obtain⟨hfit,fZ⟩:=ai dV;obtain⟨c,hs,wM⟩:=bind_some fZ;obtain rfl:=au wM;exact dX fun bF h0=>by rw[hb] at h0;obtain rfl:=au h0;exact hc.1.2
theorem yT{b ag:Nat}{p:List pI}{n:Nat}{u:av}{σ σ':St}(hr:(iV b ag p n u σ).run=some σ'):aE σ σ':=by
 unfold iV at hr;split at hr
 case h_2=>exact absurd hr (by intro k;cases k)
 rename_i bx hb;obtain⟨hc,hr2⟩:=ai hr;simp only[bY,oh] at hc;obtain⟨old,hn,dV⟩:=bind_some hr2;obtain⟨hfit,fZ⟩:=ai dV;obtain⟨c,hs,wM⟩:=bind_some fZ;obtain⟨Mq,K7⟩:=ai wM;obtain rfl:=au K7;exact dX fun bF h0=>by rw[hb] at h0;obtain rfl:=au h0;exact hc.1.1.1.2
theorem vp{cx:Ctx}{bf:List Nat}{ty:TypeId}{x y:av}{σ σ':St}(hr:(fq cx bf ty x y σ).run=some σ'):aE σ σ':=by
 unfold fq at hr;split at hr
 case h_2=>exact absurd hr (by intro k;cases k)
 split at hr
 case h_2=>exact absurd hr (by intro k;cases k)
 obtain⟨aC,hr2⟩:=ai hr;obtain⟨old,hn,dV⟩:=bind_some hr2;split at dV
 ·rename_i u _;obtain⟨hT,fZ⟩:=ai dV;cases hq:bC bf 8000000&&FO u y with
  | true=>rw[hq] at fZ;exact yT fZ
  | false =>
  rw[hq] at fZ;replace fZ:(match lR σ u y with|some (y,σ)=>storeAt _ _ _ (D2 u) (.data u y) σ|none=>.fail).run=some σ':=fZ;split at fZ
  ·rename_i hg;exact(gT hg).trans (qN fZ)
  ·exact absurd fZ (by intro k;cases k)
 ·obtain⟨hT,fZ⟩:=ai dV;exact qN fZ
theorem nh{cx:Ctx}{nb:Nat}{d:Option Nat}{ty:TypeId}{s x:av}{σ σ':St}(hr:(dG cx nb d ty s x σ).run=some σ'):aE σ σ':=by
 unfold dG at hr;split at hr
 case h_2=>exact absurd hr (by intro k;cases k)
 split at hr
 case h_2=>exact absurd hr (by intro k;cases k)
 split at hr
 ·obtain⟨hf,hr2⟩:=aX hr;obtain⟨ag,k1,k2⟩:=fS hr2;obtain rfl:=au k2;exact k1.trans (aE.put _ _ _)
 ·split at hr
  case h_2=>exact absurd hr (by intro k;cases k)
  rename_i bx l hb hl;obtain⟨hlk,eP⟩:=mQ hr;have hlk:=(Bool.or_eq_false_iff.1 hlk).1;obtain⟨hf,hr2⟩:=aX eP;obtain rfl:=au hr2;exact(dX fun bF h0=>by rw[hb] at h0;obtain rfl:=au h0;exact hlk).trans (aE.put _ _ _)
 ·exact absurd hr (by intro k;cases k)
theorem lH{e:Ty}{m:List e.den}{b ag:Nat}{q:List pI}{FK:Nat→Ty→Bool}{lo:Int}{σ σ':St}(hr:(eL e m b ag q FK lo σ).run=some σ'):aE σ σ':=by
 unfold eL at hr;split at hr
 case h_2=>exact absurd hr (by intro k;cases k)
 rename_i bx hb;obtain⟨hc,hr2⟩:=ai hr;simp only[bY,oh] at hc;have fin:∀{dQ:aI},aE σ (σ.aW b dQ):=fun {dQ}=>dX fun bF h0=>by rw[hb] at h0;obtain rfl:=au h0;exact hc.1.2
 split at hr2
 ·split at hr2
  ·split at hr2
   ·obtain rfl:=au hr2;exact fin
   ·exact absurd hr2 (by intro k;cases k)
  ·exact absurd hr2 (by intro k;cases k)
 ·obtain⟨old,_,dV⟩:=bind_some hr2;split at dV
  ·obtain⟨_,fZ⟩:=ai dV;split at fZ
   ·obtain⟨c,_,wM⟩:=bind_some fZ;obtain rfl:=au wM;exact fin
   ·exact absurd fZ (by intro k;cases k)
  ·exact absurd dV (by intro k;cases k)
theorem sU{e:Ty}{mf:Int→List e.den}{t:av}{σ:St}{r:Int×St}(hr:(rJ e mf t σ).run=some r):aE σ r.2:=by
 unfold rJ at hr;split at hr
 ·obtain⟨σ1,h1,h2⟩:=bind_some hr;obtain rfl:=au h2;exact lH h1
 ·split at hr
  ·obtain⟨σ1,h1,h2⟩:=bind_some hr;obtain rfl:=au h2;exact lH h1
  ·exact absurd hr (by intro k;cases k)
 ·obtain⟨σ1,h1,h2⟩:=bind_some hr;obtain rfl:=au h2;exact lH h1
 ·exact absurd hr (by intro k;cases k)
theorem Az{mem:Nat→Option aI}:∀{o:OT} {v:av} {u:o.den} {N M:List (Nat×Nat)},bJ mem o v=some (u,N,M)→∀b∈aF N M,∀bx,mem b=some bx→bx.lk=false:=by
 intro o;induction o with
 | dat t =>
   intro v u N M h;unfold bJ at h;split at h
   ·cases h;intro b hb;cases hb
   ·cases h
 | buf e bN =>
   intro v u N M h;unfold bJ at h;split at h
   case h_2=>cases h
   rename_i b ag;split at h
   case h_2=>cases h
   rename_i bx hb;cases hcd:(Nat.beq bx.ag ag&&bx.buf&&!bx.lk&&!bx.ro&&Nat.beq bx.tid bN&&Nat.blt 0 e.size) with
   | false=>rw[hcd] at h;cases h
   | true =>
     rw[hcd] at h;simp only[bY,oh] at hcd;simp only[bZ] at h;split at h
     case h_2=>cases h
     split at h
     case h_2=>cases h
     cases h;intro c hc cx zN;have:c=b:=by simpa [aF] using hc
     subst this;rw[hb] at zN;obtain rfl:=au zN;exact hcd.1.1.1.2
 | ref tid o ih =>
   intro v u N M h;unfold bJ at h;split at h
   case h_2=>cases h
   rename_i b ag;split at h
   case h_2=>cases h
   rename_i bx hb;cases hcd:(Nat.beq bx.ag ag&&!bx.buf&&!bx.lk&&!bx.ro&&Nat.beq bx.tid tid) with
   | false=>rw[hcd] at h;cases h
   | true =>
     rw[hcd] at h;simp only[bY,oh] at hcd;simp only[bZ] at h;split at h
     case h_2=>cases h
     rename_i u1 N1 M1 hr;cases h;intro c hc cx zN;unfold aF at hc;simp only[jH,zP,zU] at hc;rcases hc with rfl|hc
     ·rw[hb] at zN;obtain rfl:=au zN;exact hcd.1.1.2
     ·exact ih hr c hc cx zN
 | pair p q l8 lG =>
   intro v u N M h;unfold bJ at h;split at h
   case h_2=>cases h
   split at h
   case h_2=>cases h
   rename_i x N1 M1 y N2 M2 h1 h2;cases h;intro c hc cx zN;unfold aF at hc;simp only[qg,zS] at hc;rcases hc with (hc|hc)|(hc|hc)
   ·exact l8 h1 c (rB _ hc) cx zN
   ·exact lG h2 c (rB _ hc) cx zN
   ·exact l8 h1 c (qc _ hc) cx zN
   ·exact lG h2 c (qc _ hc) cx zN
 | unit =>
   intro v u N M h;unfold bJ at h;split at h
   case h_2=>cases h
   cases h;intro b hb;cases hb
theorem Cb{σ:St}:∀{ps:List Bool} {A:Ty} {U:OT} {vs:List av} {x:A.den} {u:U.den} {N M:List (Nat×Nat)},cS σ ps A U vs=some (x,u,N,M)→∀b∈aF N M,∀bx,σ.mem b=some bx→bx.lk=false:=by
 intro ps;induction ps with
 | nil =>
   intro A U vs x u N M h;cases A<;>first|(cases h;done)|skip
   cases U<;>first|(cases h;done)|skip
   cases vs with
   | cons v r=>cases h
   | nil=>cases h;intro b hb;cases hb
 | cons p ps ih =>
   intro A U vs x u N M h;cases p with
   | false =>
     cases A<;>first|(cases h;done)|skip
     cases vs with
     | nil=>cases h
     | cons v r =>
       simp only[cS] at h;split at h
       ·rename_i h2;cases h;exact ih h2
       ·cases h
   | true =>
     cases U<;>first|(cases h;done)|skip
     rename_i o U;cases o<;>first|(cases h;done)|skip
     cases vs with
     | nil=>cases h
     | cons v r =>
       simp only[cS] at h;split at h
       ·rename_i x1 N1 M1 y1 u1 N2 M2 h1 h2;cases h;intro c hc cx zN;unfold aF at hc;simp only[qg,zS] at hc;rcases hc with (hc|hc)|(hc|hc)
        ·exact Az h1 c (rB _ hc) cx zN
        ·exact ih h2 c (rB _ hc) cx zN
        ·exact Az h1 c (qc _ hc) cx zN
        ·exact ih h2 c (qc _ hc) cx zN
       ·cases h
theorem yU{ps:List Bool}{A:Ty}{U:OT}{vs:List av}{x:A.den}{u y:U.den}{N M:List (Nat×Nat)}{σ:St}(h:cS σ ps A U vs=some (x,u,N,M)):aE σ (fc U y N M σ):=fun b bx hb hl=>by
 rw[dA];cases hv:dN U y N (M.map fun p=>(p.1,p.2+1)) b with
 | none=>exact hb
 | some v =>
   have:=Cb h b (by have:=gN hv;rwa [kj] at this) bx hb;rw[hl] at this;cases this
theorem yV{s:EZ}{d:Option Nat}{vals:List av}{σ σ':St}(hr:(om s d vals σ).run=some σ'):aE σ σ':=by
 unfold om at hr;split at hr
 ·split at hr
  case h_2=>cases hr
  split at hr
  case h_2=>cases hr
  obtain⟨_,hr2⟩:=ai hr;obtain rfl:=au hr2;exact aE.aA _ _ _
 ·split at hr
  case h_2=>cases hr
  split at hr
  case h_2=>cases hr
  obtain⟨_,hr2⟩:=ai hr;split at hr2
  case h_2=>cases hr2
  rename_i hx KK;obtain⟨hcd,dV⟩:=ai hr2;simp only[bY,oh] at hcd;split at dV
  case h_2=>cases dV
  obtain rfl:=au dV;exact(dX fun bF h0=>by rw[KK] at h0;obtain rfl:=au h0;exact hcd.1.1.2).trans (aE.aA _ _ _)
 ·cases hr
theorem Cc{b ag:Nat}:∀{fs:List gr} {j:Nat} {σ:St} {r:av×St},(mkObj b ag fs j σ).run=some r→aE σ r.2:=by
 intro fs;induction fs with
 | nil=>intro j σ r hr;obtain rfl:=au hr;exact aE.refl _
 | cons f q ih =>
   intro j σ r hr;cases f with
   | buf e bN =>
     obtain⟨_,eP⟩:=ai hr;obtain⟨ag,k1,k2⟩:=fS eP;obtain⟨y,h1,h2⟩:=bind_some k2;obtain rfl:=au h2;have:=ih h1;exact k1.trans this
   | _ =>
     obtain⟨y,h1,h2⟩:=bind_some hr;obtain rfl:=au h2;have:=ih h1;exact this
theorem yW{b:Nat}:∀{fs:List gr} {j:Nat} {v:av} {σ:St} {r:av×St},(gh b fs j v σ).run=some r→aE σ r.2:=by
 intro fs;induction fs with
 | nil =>
   intro j v σ r hr;obtain rfl:=sM hr;exact aE.refl _
 | cons f q ih =>
   intro j v σ r hr;rcases qD hr with ⟨x,u,y,rfl,h1,rfl⟩|⟨e,bN,u,rfl,he,eP⟩
   ·have:=ih h1;exact this
   ·obtain⟨ag,k1,k2⟩:=fS eP;obtain⟨y,h1,h2⟩:=bind_some k2;obtain rfl:=au h2;have:=ih h1;exact k1.trans this
theorem AA{cx:Ctx}{inl:Nat→List av→St→Tree (av×St)}(fE:∀f vals σ v σ',(inl f vals σ).run=some (v,σ')→aE σ σ'){d:Option Nat}{f:Nat}{vals:List av}{σ σ':St}
  (hr:(lC cx inl d f vals σ).run=some σ'):aE σ σ':=by
 unfold lC at hr;split at hr
 ·split at hr
  ·split at hr
   ·obtain⟨y,hy,hr2⟩:=aR hr;obtain rfl:=au hr2;exact aE.aA _ _ _
   ·exact absurd hr (by intro k;cases k)
  ·split at hr
   ·rename_i hx;obtain⟨y,hy,hr2⟩:=aR hr;obtain rfl:=au hr2;exact(ij hx).trans (aE.aA _ _ _)
   ·exact absurd hr (by intro k;cases k)
 ·have qJ:((inl f vals σ).bind fun r=>.ret (r.2.aA d r.1):Tree St).run=some σ'→aE σ σ':=by
   intro hr;obtain⟨r,eP,hr2⟩:=bind_some hr;obtain rfl:=au hr2;exact(fE _ _ _ _ _ eP).trans (aE.aA _ _ _)
  split at hr
  ·exact yV hr
  split at hr
  ·rename_i c Ny;split at hr
   ·rename_i x u N M hx;obtain⟨_,hr⟩:=ai hr;obtain⟨y,hy,hr2⟩:=aR hr;obtain rfl:=au hr2;exact(yU hx).trans (aE.aA _ _ _)
   ·exact qJ hr
  ·exact qJ hr
theorem vq{nb:Nat}{e:Ty}{d:Option Nat}{vals:List av}{σ σ':St}(hr:(fB nb e d vals σ).run=some σ'):aE σ σ':=by
 unfold fB at hr;split at hr
 case h_2=>cases hr
 split at hr
 case h_2=>cases hr
 rename_i hg;obtain⟨_,hr⟩:=ai hr;obtain⟨_,hr⟩:=aX hr;obtain⟨ag,k1,k2⟩:=fS hr;obtain rfl:=au k2;exact((gT hg).trans k1).trans (aE.aA _ (some _) _)
theorem yX{e A:Ty}{res:Bool}{spec:List e.den→A.den→Option (List e.den)}{d:Option Nat}{vals:List av}{σ σ':St}(hr:(iW e A res spec d vals σ).run=some σ'):aE σ σ':=by
 unfold iW at hr;split at hr
 case h_2=>cases hr
 split at hr
 case h_2=>cases hr
 rename_i hg;split at hr
 case h_2=>cases hr
 rename_i b ag bx l JJ;obtain⟨l',_,hr⟩:=aR hr;obtain⟨hb,aC,aJ,hlk,hro,cQ,_⟩:=kV JJ;have key:∀dQ,aE _ (St.aW _ b dQ):=fun dQ=>dX fun bF h0=>by rw[hb] at h0;obtain rfl:=au h0;exact hlk
 cases res with
 | true =>
   cases d with
   | none=>cases hr
   | some k=>obtain rfl:=au hr;exact((ij hg).trans (key _)).trans (aE.aA _ (some _) _)
 | false =>
   cases d with
   | none=>obtain⟨_,hr⟩:=ai hr;obtain rfl:=au hr;exact((ij hg).trans (key _)).trans (aE.aA _ none _)
   | some k=>obtain⟨_,hr⟩:=ai hr;obtain rfl:=au hr;exact((ij hg).trans (key _)).trans (aE.aA _ (some _) _)
theorem yY{cx:Ctx}{nb:Nat}{bf:List Nat}{inl:Nat→List av→St→Tree (av×St)}(fE:∀f vals σ v σ',(inl f vals σ).run=some (v,σ')→aE σ σ'){d:Option Nat}{f:Nat}{vals:List av}{σ σ':St}
  (hr:(jI cx nb bf inl d f vals σ).run=some σ'):aE σ σ':=by
 unfold jI at hr;split at hr
 ·exact vq hr
 ·exact yX hr
 ·exact AA fE hr
end Go.Ge
