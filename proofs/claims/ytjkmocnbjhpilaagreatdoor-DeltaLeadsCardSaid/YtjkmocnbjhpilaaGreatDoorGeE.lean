/- A ghost interpreter of the model's code, and that it tells the truth: part 5. It says of a function of plain data what a call of it comes to. -/
import Derived.Test.YtjkmocnbjhpilaaGreatDoorGeD
import Derived.Laws.Build
namespace Go.Ge
set_option linter.unusedVariables false
set_option linter.unusedSimpArgs false
open RowKit
def sI(P:Program)(G:eJ)(inl:Nat→List aQ→St→Tree (aQ×St)):Prop :=
 ∀(B:nY) (γ:Gh) (σ σ':St) (w:World) (f:Nat) (vals:List aQ) (xs:Array Value) (v:aQ),B.G=G→bz B γ σ.mem w→jR γ σ.mem w vals xs.toList→(inl f vals σ).run=some (v,σ') →
  (∃fn code,P.funcs[f]?=some fn∧(fn.name == "runtime.NumGoroutine")=false∧fn.body=some code)∧σ'.slots=σ.slots ∧
  Calls P f xs w fun e w'=>∃val γ',e=.returned val∧bz B γ' σ'.mem w'∧Ext B γ σ.mem w γ' σ'.mem w'∧b8 γ' σ'.mem w' v .val [val]
section
variable {P:Program} {B:nY} {N:Nat} {γ:Gh} {σ σ':St} {a:Act} {w w':World} {d:Option Nat} {cx:Ctx} {nb:Nat} {bf:List Nat} {inl:Nat→List aQ→St→Tree (aQ×St)}
def Ai(B:nY)(N:Nat)(γ:Gh)(σ:St)(a:Act)(w:World)(d:Option Nat)(σ':St)(K:Act→World→Prop):Prop :=
 ∀γ' v w',cG B N γ' σ' (a.put d v) w'→Ext B γ σ.mem w γ' σ'.mem w'→K (a.put d v) w'
theorem IF{f:Nat}{fn:Func}{code:Code}(h1:P.funcs[f]?=some fn)(h2:(fn.name == "runtime.NumGoroutine")=false)(h3:fn.body=some code)(args:Array Value)(w:World) :
  (callFunc f args).run P w=.ok (.enter f args) w:=by
 have W9:¬fn.name = "runtime.NumGoroutine":=by simpa using h2
 simp[callFunc,h1,W9,h3]
theorem bJ{o:Oper}{s:Sem Value}{K:Act→World→Prop}{Q:Exit→Act→World→Prop}(hs:execOp a.eval o=(do pure (.value (←s))))(h:mb P B N γ σ a w o.dst s σ')(hK:Ai B N γ σ a w o.dst σ' K):o.wp P a w K Q:=by
 obtain⟨v,w',γ',h1,h2,h3⟩:=h
 unfold Oper.wp
 rw[hs]
 simp only[Sem.run_bind,h1,Result.andThen_ok,Sem.run_pure]
 exact hK γ' _ w' h2 h3
theorem Hv{ops:List Operand}(h:cG B N γ σ a w):jR γ σ.mem w (ops.map (cq σ)) (ops.map a.eval):=by
 refine⟨by simp,fun i v x h1 h2=>?_⟩
 rw[List.getElem?_map] at h1 h2
 cases ho:ops[i]? with
 | none=>rw[ho] at h1;cases h1
 | some o =>
   rw[ho] at h1 h2
   obtain rfl:=Option.some.inj h1
   obtain rfl:=Option.some.inj h2
   exact h.cq o
theorem jR.append{mem:Nat→Option bL}{vs us:List aQ}{xs ys:List Value}(h:jR γ mem w vs xs)(k:jR γ mem w us ys):jR γ mem w (vs++us) (xs++ys):=by
 refine⟨by simp[h.1,k.1],fun i v x h1 h2=>?_⟩
 rw[List.getElem?_append] at h1 h2
 rw[h.1] at h2
 split at h1
 ·rename_i hi
  rw[if_pos hi] at h2
  exact h.2 i v x h1 h2
 ·rename_i hi
  rw[if_neg hi] at h2
  exact k.2 _ v x h1 h2
theorem bz.drop{mem:Nat→Option bL}{w':World}(h:bz B γ mem w){b:Nat}{cK bx:bL}(hb:mem b=some cK)(aZ:cK.ax<bx.ax)(hw:rM B w w')
  (hold:∀k,k<w.heap.size→(∀c,γ.loc b≠some (k,c))→w'.heap[k]?=w.heap[k]?) (hcell:∀k o,k<w.heap.size→w'.cell? ⟨k,o,none⟩=w.cell? ⟨k,o,none⟩)
  (gz:cw (bD γ b none) (cc mem b bx) w' b bx):bz B (bD γ b none) (cc mem b bx) w'∧Ext B γ mem w (bD γ b none) (cc mem b bx) w':=by
 have hx:Ext B γ mem w (bD γ b none) (cc mem b bx) w' :=
  { below:=hw
    I:=fun _ _ x=>x
    nh:=fun _ _ x=>.inl x
    cells:=fun blk o x=>hcell blk o (h.qu blk o x)
    boxes:=fun c cx hc=>by
     by_cases e:c=b
     ·subst e
      obtain rfl:cK=cx:=Option.some.inj (hb.symm.trans hc)
      exact⟨bx,bt _ _,Nat.le_of_lt aZ,fun e=>absurd e (by omega)⟩
     ·exact⟨cx,by rw[aM _ e];exact hc,Nat.le_refl _,fun _=>⟨by simp[bD,e],rfl,rfl⟩⟩ }
 refine⟨?_,hx⟩
 exact
  { aU:=h.zY hx
    base:=Nat.le_trans h.base hw.size
    boxes:=fun c cx hc=>by
     by_cases e:c=b
     ·subst e
      rw[bt] at hc
      obtain rfl:=Option.some.inj hc
      exact gz
     ·rw[aM _ e] at hc
      refine(h.boxes c cx hc).keep hx (by simp[bD,e]) fun blk k hl=>hold blk (h.fresh c blk k (by rw[hc];simp) hl).2 fun k' hl'=>e ?_
      exact h.inj c b blk k k' (by rw[hc];simp) (by rw[hb];simp) hl hl'
    inj:=fun c d blk k k' hc hd h1 h2=>by
     by_cases e:c=b
     ·simp only[bD,if_pos e] at h1;cases h1
     ·by_cases e2:d=b
      ·simp only[bD,if_pos e2] at h2;cases h2
      ·simp only[bD,if_neg e] at h1
       simp only[bD,if_neg e2] at h2
       rw[aM _ e] at hc
       rw[aM _ e2] at hd
       exact h.inj c d blk k k' hc hd h1 h2
    fresh:=fun c blk k hc h1=>by
     by_cases e:c=b
     ·simp only[bD,if_pos e] at h1;cases h1
     ·simp only[bD,if_neg e] at h1
      rw[aM _ e] at hc
      have:=h.fresh c blk k hc h1
      exact⟨this.1,Nat.lt_of_lt_of_le this.2 hw.size⟩
    qu:=fun blk off hi=>Nat.lt_of_lt_of_le (h.qu blk off hi) hw.size
    sep:=fun c cx blk k off hc h1 hi=>by
     by_cases e:c=b
     ·simp only[bD,if_pos e] at h1;cases h1
     ·simp only[bD,if_neg e] at h1
      rw[aM _ e] at hc
      exact h.sep c cx blk k off hc h1 hi }
theorem Kg{mem:Nat→Option bL}{b:Nat}{bx:bL}(h:mem b=some bx):cc mem b bx=mem:=by
 funext i
 by_cases e:i=b
 ·subst e;rw[bt,h]
 ·rw[aM _ e]
theorem Gu{f:Nat}{s:OM}{vals:List aQ}{xs:Array Value}(hs:nu P f s)(h:cG B N γ σ a w)(hd:∀k,d=some k→k<N)(hv:jR γ σ.mem w vals xs.toList)
  (hr:(xH s d vals σ).run=some σ') {K:Act→World→Prop} (hK:Ai B N γ σ a w d σ' K) :
  (∃fn code,P.funcs[f]?=some fn∧(fn.name == "runtime.NumGoroutine")=false∧fn.body=some code)∧Calls P f xs w fun e w'=>∃v,e=.returned v∧K (a.put d v) w':=by
 unfold xH at hr
 split at hr
 ·rename_i T b ax
  split at hr
  case h_2=>cases hr
  rename_i bx hb
  split at hr
  case h_2=>cases hr
  rename_i b' v' u un hval
  obtain⟨hcd,hr2⟩:=aA hr
  obtain rfl:=Option.some.inj hr2
  simp only[Bool.and_eq_true,Bool.not_eq_true'] at hcd
  obtain⟨⟨⟨⟨⟨⟨⟨⟨c1,c2⟩,c3⟩,c4⟩,c5⟩,c6⟩,c7⟩,c8⟩,c9⟩:=hcd
  have c1:=Nat.eq_of_beq_eq_true c1
  have c5:=Nat.eq_of_beq_eq_true c5
  have c7:=Nat.eq_of_beq_eq_true c7
  have c8:=Nat.eq_of_beq_eq_true c8
  have c6:0<T:=by simpa using c6
  subst c7;subst c8
  obtain⟨val,rest,hxs,g1,g2⟩:=hv.cons
  have sJ:rest=[]:=by have:=g2.1;simpa using this
  subst sJ
  obtain⟨blk,cap,hl,g3⟩:=aW hb c1 g1.2
  have g3:=List.head_eq_of_cons_eq g3
  simp only[cz] at g3
  obtain rfl:xs=#[.pointer (some ⟨blk,0,none⟩)]:=by apply Array.toList_inj.1;rw[hxs,g3]
  have gz:=h.ok.boxes b' bx hb
  unfold cw at gz
  rw[c2] at gz
  obtain⟨cU,cap',cur,tid,fr,a1,a2,a3,a4,a5⟩:=gz
  rw[hl] at a1
  obtain⟨rfl,rfl⟩:=Prod.mk.inj (Option.some.inj a1)
  have gk:tid=T:=by
   rcases a4 with a4|a4
   ·rw[c5] at a4;exact absurd a4 (Nat.ne_of_gt c6)
   ·rw[a4,c5]
  subst gk
  rw[hval] at a5
  obtain⟨N4,J4,e1,e2,e3⟩:=a5
  obtain⟨YK,XK,e4,e5,e6⟩:=e3
  obtain⟨⟨p,rfl,ZF⟩,VK⟩:=e2
  obtain⟨q,hq⟩:∃q,YK=[q]:=by
   cases u<;>first|(cases c9;done)|skip
   obtain⟨⟨q,hq,_⟩,_⟩:=e5
   exact⟨q,hq⟩
  subst hq
  obtain rfl:XK=[]:=e6
  have IG:cur=#[p,q]:=by apply Array.toList_inj.1;rw[e1,e4];rfl
  subst IG
  obtain⟨ZG,cap2,j1,j2⟩:=aW hb c1 VK
  rw[hl] at j1
  obtain⟨rfl,rfl⟩:=Prod.mk.inj (Option.some.inj j1)
  have j2:p=.pointer none∨p=.pointer (some ⟨blk,0,none⟩):=j2.imp List.head_eq_of_cons_eq List.head_eq_of_cons_eq
  refine⟨hs.1,(hs.2 w blk p q fr a2 (a3 0 (by simp)) j2).mono fun e w' hw=>?_⟩
  obtain⟨rfl,hw⟩:=hw
  refine⟨_,rfl,?_⟩
  have hres:∀{γ':Gh} {mem':Nat→Option bL} {w':World},b8 γ' mem' w' (.yT .nl) .val [.tuple #[]]:=fun {_ _ _}=>⟨#[],rfl,rfl⟩
  rcases hw with rfl|rfl
  ·refine hK γ _ _ (h.rN hd hres) ?_
   cases d<;>exact Ext.refl _ _ _ _
  ·have qv:({ bx with val:=bx.val }:bL)=bx:=by cases bx;rfl
   obtain⟨m1,m2⟩:=h.ok.write hb c4 hl a2 (cur':=#[.pointer (some ⟨blk,0,none⟩),q]) (v:=bx.val) (by simp) (by rw[qv])
    (fun w' mem' hx hg=>by
     rw[qv]
     unfold cw
     rw[c2]
     refine⟨blk,cap,_,tid,fr,hl,hg,fun o ho=>a3 o (by simpa using ho),a4,?_⟩
     rw[hval]
     refine⟨[.pointer (some ⟨blk,0,none⟩)],[q],rfl,?_,[q],[],rfl,e5.ext hx,rfl⟩
     have ZH:jX mem' b' v' fun _=>∃blk cap,γ.loc b'=some (blk,cap):=by
      obtain⟨cK,k1,k2,k3⟩:=VK
      obtain⟨fJ,q1,q2,q3⟩:=hx.boxes b' cK k1
      exact⟨fJ,q1,Nat.le_trans k2 q2,fun _=>⟨blk,cap,hl⟩⟩
     obtain⟨fJ,q1,q2,q3⟩:=ZH
     exact⟨⟨_,rfl,rfl⟩,fJ,q1,q2,fun _=>⟨blk,cap,hl,.inr rfl⟩⟩)
   rw[qv,Kg hb] at m1 m2
   refine hK γ _ _ (h.aR m2 m1 hd hres) ?_
   cases d<;>exact m2
 ·rename_i T E b ax
  split at hr
  case h_2=>cases hr
  rename_i bx hb
  split at hr
  case h_2=>cases hr
  rename_i b' v' hh Xc un hval
  obtain⟨hcd,hr2⟩:=aA hr
  simp only[Bool.and_eq_true,Bool.not_eq_true'] at hcd
  obtain⟨⟨⟨⟨c1,c2⟩,c5⟩,c6⟩,c7⟩:=hcd
  have c1:=Nat.eq_of_beq_eq_true c1
  have c5:=Nat.eq_of_beq_eq_true c5
  have c6:0<T:=by simpa using c6
  split at hr2
  case h_2=>cases hr2
  rename_i hx VL
  obtain⟨hcd,iR⟩:=aA hr2
  simp only[Bool.and_eq_true,Bool.not_eq_true'] at hcd
  obtain⟨⟨⟨⟨d1,d2⟩,d3⟩,d4⟩,d5⟩:=hcd
  have d1:=Nat.eq_of_beq_eq_true d1
  have d4:=Nat.eq_of_beq_eq_true d4
  have d5:0<E:=by simpa using d5
  split at iR
  case h_2=>cases iR
  rename_i l YL
  change List Int at l
  obtain rfl:=Option.some.inj iR
  obtain⟨val,rest,hxs,g1,g2⟩:=hv.cons
  have sJ:rest=[]:=by have:=g2.1;simpa using this
  subst sJ
  obtain⟨blk,cap,hl,g3⟩:=aW hb c1 g1.2
  have g3:=List.head_eq_of_cons_eq g3
  simp only[cz] at g3
  obtain rfl:xs=#[.pointer (some ⟨blk,0,none⟩)]:=by apply Array.toList_inj.1;rw[hxs,g3]
  have gz:=h.ok.boxes b bx hb
  unfold cw at gz
  rw[c2] at gz
  obtain⟨cU,cap',cur,tid,fr,a1,a2,a3,a4,a5⟩:=gz
  rw[hl] at a1
  obtain⟨rfl,rfl⟩:=Prod.mk.inj (Option.some.inj a1)
  have gk:tid=T:=by
   rcases a4 with a4|a4
   ·rw[c5] at a4;exact absurd a4 (Nat.ne_of_gt c6)
   ·rw[a4,c5]
  subst gk
  rw[hval] at a5
  obtain⟨N4,J4,e1,e2,e3⟩:=a5
  obtain⟨YK,XK,e4,e5,e6⟩:=e3
  obtain⟨⟨p,rfl,ZF⟩,VK⟩:=e2
  obtain⟨⟨q,rfl,hq1⟩,UJ⟩:=e5
  obtain rfl:XK=[]:=e6
  have IG:cur=#[p,q]:=by apply Array.toList_inj.1;rw[e1,e4];rfl
  subst IG
  obtain⟨e',n',k1,k2,k3⟩:=aW VL d1 UJ
  rw[bL.cV d2 YL] at k2
  obtain⟨rfl,rfl⟩:=Prod.mk.inj (Option.some.inj k2)
  have UK:=h.ok.boxes hh hx VL
  unfold cw at UK
  rw[d2] at UK
  obtain⟨e3,l3,q1,q2,q3⟩:=UK
  rw[YL] at q1
  cases q1
  have hlen:(bV l).length=l.length:=by simp[bV]
  let hx':bL:={ hx with val:=.data (.slice (.int .u8)) ([]:List Int),ax:=hx.ax+1 }
  have key:∃og:Option Nat,(∀k,og=some k→∃c,γ.loc hh=some (k,c))∧l.length≤maxLen ∧
    ((og=none∧q=.slice none 0 0∧bV l=[])∨∃(g cap:Nat) (cur:Array Value) (fr':Nat×Nat),og=some g∧q=.slice (some ⟨g,0,none⟩) (bV l).length cap∧w.heap[g]?=some (.cells cur E fr')∧(bV l).length≤cap∧cap≤maxLen∧cur.size=cap∧∀(j:Nat) (x:UInt8),(bV l)[j]?=some x→cur[j]?=some (Value.int .u8 x.toNat)):=by
   rcases k3 with ⟨k3,k4⟩|⟨g,UL,k3,k4⟩
   ·rcases q3 with ⟨_,q3⟩|⟨_,_,_,_,_,q3,_⟩
    ·subst q3
     exact⟨none,(fun k hk=>by cases hk),Nat.zero_le _,.inl ⟨rfl,List.head_eq_of_cons_eq k4,rfl⟩⟩
    ·rw[k3] at q3;cases q3
   ·rcases q3 with ⟨q3,_⟩|⟨g',YM,UM,XL,ZI,q3,q4,q5,q6,q7,q8,q9,Wd⟩
    ·rw[k3] at q3;cases q3
    ·rw[k3] at q3
     obtain⟨rfl,rfl⟩:=Prod.mk.inj (Option.some.inj q3)
     have ZJ:XL=E:=by
      rcases q6 with q6|q6
      ·rw[d4] at q6;exact absurd q6 (Nat.ne_of_gt d5)
      ·rw[q6,d4]
     subst ZJ
     have We:(Ty.int IntKind.u8).size=1:=rfl
     have ZK:l.length≤UL:=q7
     refine⟨some g,fun k hk=>⟨UL,by rw[k3,Option.some.inj hk]⟩,Nat.le_trans ZK q8,.inr ⟨g,UL,UM,ZI,rfl,?_,q4,by omega,q8,by rw[q9,We,Nat.mul_one],fun j x hj=>?_⟩⟩
     ·rw[hlen];exact List.head_eq_of_cons_eq k4
     ·simp only[bV,List.getElem?_map,Option.map_eq_some_iff] at hj
      obtain⟨y,hy,rfl⟩:=hj
      obtain⟨r1,r2,r3⟩:=Wd j y hy
      rw[We,Nat.mul_one] at r1
      have hmin:(IntKind.u8).min=0:=by decide
      have hmax:(IntKind.u8).max=255:=by decide
      have r2':0≤y:=by have:=r2;rw[hmin] at this;exact this
      have r3':y≤255:=by have:=r3;rw[hmax] at this;exact this
      have hcell:UM.toList[j]?=some (.int .u8 y):=by
       have:((UM.toList.drop j).take 1)[0]?=some (.int .u8 y):=by rw[r1];rfl
       simpa [List.getElem?_take,List.getElem?_drop] using this
      have gU:((UInt8.ofNat y.toNat).toNat:Int)=y:=by
       rw[UInt8.toNat_ofNat']
       have:y.toNat<256:=by omega
       rw[Nat.mod_eq_of_lt (by simpa using this)]
       omega
      rw[gU]
      simpa using hcell
  obtain⟨og,YN,S5,hk⟩:=key
  refine⟨hs.1,(hs.2 w blk p q fr (bV l) og a2 hk).mono fun e w' hw=>?_⟩
  obtain⟨rfl,hw⟩:=hw
  refine⟨_,rfl,?_⟩
  have XM:rM B w w':=⟨hw.os,hw.tape,hw.output,hw.size,fun k hk=>by
   rcases Nat.lt_or_ge k w.heap.size with hlt|hge
   ·refine hw.block k hlt fun e=>hk ?_
    obtain⟨c,hc⟩:=YN k e
    exact(h.ok.fresh hh k c (by rw[VL];simp) hc).1
   ·exact absurd (.inl (Nat.le_trans h.ok.base hge)) hk⟩
  have XN:cw (bD γ hh none) (cc σ.mem hh hx') w' hh hx':=by
   unfold cw
   rw[show hx'.buf=true from d2]
   exact⟨.int .u8,[],rfl,q2,.inl ⟨by simp[bD],rfl⟩⟩
  obtain⟨m1,m2⟩:=h.ok.drop (bx:=hx') VL (Nat.lt_succ_self _) XM (fun k hk hn=>hw.block k hk fun e=>by obtain⟨c,hc⟩:=YN k e;exact hn c hc) hw.cell XN
  refine hK (bD γ hh none) _ w' (h.aR m2 m1 hd (v:=.data .str (bV l)) (val:=.string ⟨(bV l).toArray⟩) ?_) ?_
  ·exact⟨[.string ⟨(bV l).toArray⟩],⟨rfl,by rw[hlen];exact S5⟩,rfl⟩
  ·cases d<;>exact m2
 ·cases hr
theorem II(dG:mC P B.G cx)(jK:sI P B.G inl){f:Nat}{vals:List aQ}{xs:Array Value}(h:cG B N γ σ a w)(hd:∀k,d=some k→k<N)(hv:jR γ σ.mem w vals xs.toList)
  (hr:(s9 cx inl d f vals σ).run=some σ') {K:Act→World→Prop} (hK:Ai B N γ σ a w d σ' K) :
  (∃fn code,P.funcs[f]?=some fn∧(fn.name == "runtime.NumGoroutine")=false∧fn.body=some code)∧Calls P f xs w fun e w'=>∃v,e=.returned v∧K (a.put d v) w':=by
 unfold s9 at hr
 split at hr
 ·rename_i c SN
  have hh:=dG.cF f c SN
  refine⟨hh.body,?_⟩
  split at hr
  ·rename_i Wf
   split at hr
   ·rename_i x hx
    obtain⟨y,hy,hr2⟩:=bR hr
    obtain rfl:=Option.some.inj hr2
    have hargs:=Gs (I':=fun b o=>b<w.heap.size) h.ok (fun b o hi=>h.ok.qu b o hi) (fun b o _ hb=>hb) hv hx
    refine(hh.calls (fun b o=>b<w.heap.size) w xs x y (fun b o hb=>hb) h.ok.Is hargs hy).mono fun e w' hw=>?_
    obtain⟨v,I',h1,h2,h3,h4,h5,h6⟩:=hw
    refine⟨v,h1,?_⟩
    obtain⟨m1,m2⟩:=h.ok.Xe (I':=γ.I) h2 (fun _ _ hi=>hi) (fun b o hi=>Nat.lt_of_lt_of_le (h.ok.qu b o hi) h2.size) (fun b o hi hn=>absurd hi hn)
    refine hK γ _ w' (h.aR m2 m1 hd (h6.flat Wf)) ?_
    cases d<;>exact m2
   ·exact absurd hr (by intro k;cases k)
  ·split at hr
   ·rename_i x σ1 hx
    obtain⟨y,hy,hr2⟩:=bR hr
    obtain rfl:=Option.some.inj hr2
    obtain⟨ij,s1,s2,s3⟩:=oZ h hv hx
    refine(hh.calls ij.I w xs x y (fun b o hi=>s1.ok.qu b o hi) s1.ok.Is s3 hy).mono fun e w' hw=>?_
    obtain⟨v,I',h1,h2,h3,h4,h5,h6⟩:=hw
    refine⟨v,h1,?_⟩
    obtain⟨m1,m2⟩:=s1.ok.Xe (I':=I') h2 h3 h4 h5
    refine hK ⟨I',ij.loc⟩ _ w' (s1.aR m2 m1 hd (h6.rep (fun _ _ hi=>hi))) ?_
    cases d<;>exact s2.trans m2
   ·exact absurd hr (by intro k;cases k)
 ·rename_i SN
  have Aj:((inl f vals σ).bind fun r=>.ret (r.2.aR d r.1):Tree St).run=some σ'→(∃fn code,P.funcs[f]?=some fn∧(fn.name == "runtime.NumGoroutine")=false∧fn.body=some code)∧Calls P f xs w fun e w'=>∃v,e=.returned v∧K (a.put d v) w':=by
   intro hr
   obtain⟨r,jl,hr2⟩:=bind_some hr
   obtain rfl:=Option.some.inj hr2
   obtain⟨v0,iy⟩:=r
   obtain⟨hb,Qd,Et⟩:=jK B γ σ iy w f vals xs v0 rfl h.ok hv jl
   refine⟨hb,Et.mono fun e w' hw=>?_⟩
   obtain⟨v,γ',h1,h2,h3,h4⟩:=hw
   refine⟨v,h1,?_⟩
   have hs0:iy={ slots:=σ.slots,mem:=iy.mem }:=by cases iy;simp only at Qd;subst Qd;rfl
   rw[hs0] at hK
   refine hK γ' _ w' (h.aR h3 h2 hd h4) ?_
   cases d<;>exact h3
  split at hr
  ·rename_i s hcs
   exact Gu (dG.JR f s hcs) h hd hv hr hK
  split at hr
  ·rename_i c YO
   split at hr
   ·rename_i x u ns hx
    obtain⟨y,hy,hr2⟩:=bR hr
    obtain rfl:=Option.some.inj hr2
    have hh:=dG.bg f c YO
    obtain⟨bs,g1,g2,g3⟩:=Gt h.ok hv hx
    have hfree:∀blk∈bs,∀o,¬γ.I blk o:=fun blk hb o hi=>by
     obtain⟨b,bx,k,j1,j2,j3,j4⟩:=g2.Es blk hb
     have:=(h.ok.sep b bx blk k o j2 j4 hi).1
     rw[j3] at this;cases this
    refine⟨hh.body,(hh.calls γ.I w xs bs x u y (fun b o hi=>h.ok.qu b o hi) h.ok.Is (fun b Q g hb=>by
     obtain⟨n,bx,k,j1,j2,j3,j4⟩:=g2.Es b hb
     exact(h.ok.aU b Q g).1 (h.ok.fresh n b k (by rw[j2];simp) j4).1) g1 g3 (g2.nodup h.ok) hfree hy).mono fun e w' hw=>?_⟩
    obtain⟨v,I',h1,h2,h3,h4,h5,h6,h7⟩:=hw
    refine⟨v,h1,?_⟩
    obtain⟨m1,m2⟩:=h.ok.refs g2 h2 h3 h4 h5 h7
    have hs:qJ c.U y.2 ns σ={ slots:=σ.slots,mem:=(qJ c.U y.2 ns σ).mem }:=rfl
    refine hK ⟨I',γ.loc⟩ _ w' (by rw[hs];exact h.aR m2 m1 hd (h6.rep (fun _ _ hi=>hi))) ?_
    cases d<;>exact m2
   ·exact Aj hr
  ·exact Aj hr
theorem bz.Mu{mem:Nat→Option bL}{w':World}(h:bz B γ mem w){b:Nat}{fJ:bL}{e:Ty}{l':List e.den}{L:Option (Nat×Nat)}{X:Nat→Prop}{I':Nat→Nat→Prop}{v:Value}
  (hX:∀k,X k→∃cK c,mem b=some cK∧cK.ro=false∧γ.loc b=some (k,c)) (hw:qe w γ.I X w' I') (hown:ud w' I' e l' L v) (YP:∀blk c,L=some (blk,c)→X blk∨w.heap.size≤blk)
  (aZ:∀cK,mem b=some cK→cK.ax<fJ.ax∨(cK.ax=fJ.ax∧L=γ.loc b∧fJ.buf=cK.buf∧fJ.row=cK.row)) (hval:fJ.val=.data (.slice e) l') (bF:fJ.buf=true) (gk:fJ.tid=0) (he:0<e.size) :
  let γ':Gh:=⟨I',fun i=>if i=b then L else γ.loc i⟩
  bz B γ' (cc mem b fJ) w'∧Ext B γ mem w γ' (cc mem b fJ) w':=by
 intro γ'
 have hsame:∀k,k<w.heap.size→¬X k→w'.heap[k]?=w.heap[k]?:=fun k hk hb=>hw.below.block k fun q=>by
  rcases q with q|q
  ·have:w.heap.size≤k:=q;omega
  ·exact hb q
 have hfree:∀k,X k→∀o,¬γ.I k o:=fun k hk o hi=>by
  obtain⟨cK,c,h1,h2,h3⟩:=hX k hk
  have:=(h.sep b cK k c o h1 h3 hi).1
  rw[h2] at this;cases this
 have UH:∀k,¬B.has k→k<w.heap.size:=fun k hk=>Nat.lt_of_not_le fun q=>hk (.inl (Nat.le_trans h.base q))
 have Ud:∀k,X k→B.has k∧k<w.heap.size:=fun k hk=>by
  obtain⟨cK,c,h1,h2,h3⟩:=hX k hk
  exact h.fresh b k c (by rw[h1];simp) h3
 have hx:Ext B γ mem w γ' (cc mem b fJ) w' :=
  { below:=⟨hw.below.os,hw.below.tape,hw.below.output,hw.below.size,fun k hk=>hsame k (UH k hk) fun hb=>hk (Ud k hb).1⟩
    I:=hw.held
    nh:=fun b o x=>by
     by_cases hi:γ.I b o
     ·exact .inl hi
     ·exact .inr (.inl (Nat.le_trans h.base (hw.nh b o x hi)))
    cells:=fun b o hi=>cQ (hsame b (h.qu b o hi) fun hb=>hfree b hb o hi)
    boxes:=fun c cx hc=>by
     by_cases e1:c=b
     ·subst e1
      refine⟨fJ,bt _ _,?_,fun e2=>?_⟩
      ·rcases aZ cx hc with q|q
       ·exact Nat.le_of_lt q
       ·exact Nat.le_of_eq q.1
      ·rcases aZ cx hc with q|q
       ·omega
       ·exact⟨by simp[γ',q.2.1],q.2.2⟩
     ·exact⟨cx,by rw[aM _ e1];exact hc,Nat.le_refl _,fun _=>⟨by simp[γ',e1],rfl,rfl⟩⟩ }
 have Wg:∀blk c,L=some (blk,c)→blk<w'.heap.size∧∀o,¬I' blk o:=fun blk c hl=>by
  rcases hown with ⟨q,_⟩|⟨cU,cap,cur,tid,fr,q1,q2,q3,q4,q5,q6,q7,q8,q9⟩
  ·rw[q] at hl;cases hl
  ·rw[q1] at hl
   obtain⟨rfl,rfl⟩:=Prod.mk.inj (Option.some.inj hl)
   exact⟨(Array.getElem?_eq_some_iff.1 q3).1,q8⟩
 have hne:∀{c d:Nat},c≠b→cc mem b fJ c≠none→mem c≠none:=fun hc hm=>by rwa [aM _ hc] at hm
 have tc:∀{d blk k c:Nat},d≠b→mem d≠none→L=some (blk,k)→γ.loc d=some (blk,c)→False:=fun {d blk k c} hd hm hl h2=>by
  rcases YP blk k hl with hx1|hx1
  ·obtain⟨cK,c0,j1,j2,j3⟩:=hX blk hx1
   exact hd (h.inj d b blk c c0 hm (by rw[j1];simp) h2 j3)
  ·have:=(h.fresh d blk c hm h2).2;omega
 refine⟨?_,hx⟩
 exact
  { aU:=h.zY hx
    base:=Nat.le_trans h.base hw.below.size
    boxes:=fun c cx hc=>by
     by_cases e1:c=b
     ·subst e1
      rw[bt] at hc
      obtain rfl:=Option.some.inj hc
      unfold cw
      rw[bF]
      refine⟨e,l',hval,he,?_⟩
      rcases hown with ⟨q1,q2,q3⟩|⟨cU,cap,cur,tid,fr,q1,q2,q3,q4,q5,q6,q7,q8,q9⟩
      ·exact .inl ⟨by simp[γ',q1],q2⟩
      ·exact .inr ⟨cU,cap,cur,tid,fr,by simp[γ',q1],q3,q4,.inl gk,q5,q6,q7,q9⟩
     ·rw[aM _ e1] at hc
      refine(h.boxes c cx hc).keep hx (by simp[γ',e1]) fun blk k hl=>hsame blk (h.fresh c blk k (by rw[hc];simp) hl).2 fun hx1=>?_
      obtain⟨cK,c0,j1,j2,j3⟩:=hX blk hx1
      exact e1 (h.inj c b blk k c0 (by rw[hc];simp) (by rw[j1];simp) hl j3)
    inj:=fun c d blk k k' hc hd h1 h2=>by
     by_cases e1:c=b
     ·by_cases e2:d=b
      ·rw[e1,e2]
      ·exfalso
       simp only[γ',if_pos e1] at h1
       simp only[γ',if_neg e2] at h2
       exact tc e2 (hne (d:=0) e2 hd) h1 h2
     ·by_cases e2:d=b
      ·exfalso
       simp only[γ',if_neg e1] at h1
       simp only[γ',if_pos e2] at h2
       exact tc e1 (hne (d:=0) e1 hc) h2 h1
      ·simp only[γ',if_neg e1] at h1
       simp only[γ',if_neg e2] at h2
       exact h.inj c d blk k k' (hne (d:=0) e1 hc) (hne (d:=0) e2 hd) h1 h2
    fresh:=fun c blk k hc h1=>by
     by_cases e1:c=b
     ·simp only[γ',if_pos e1] at h1
      refine⟨?_,(Wg blk k h1).1⟩
      rcases YP blk k h1 with q|q
      ·exact(Ud blk q).1
      ·exact .inl (Nat.le_trans h.base q)
     ·simp only[γ',if_neg e1] at h1
      have:=h.fresh c blk k (hne (d:=0) e1 hc) h1
      exact⟨this.1,Nat.lt_of_lt_of_le this.2 hw.below.size⟩
    qu:=hw.qu
    sep:=fun c cx blk k off hc h1 hi=>by
     by_cases e1:c=b
     ·simp only[γ',if_pos e1] at h1
      exact absurd hi ((Wg blk k h1).2 off)
     ·simp only[γ',if_neg e1] at h1
      rw[aM _ e1] at hc
      by_cases SK:γ.I blk off
      ·exact h.sep c cx blk k off hc h1 SK
      ·have h3:=hw.nh blk off hi SK
       have h2:=(h.fresh c blk k (by rw[hc];simp) h1).2
       omega }
theorem ud.rep{I:Nat→Nat→Prop}{loc:Nat→Option (Nat×Nat)}{mem:Nat→Option bL}{w:World}{e:Ty}{l:List e.den}{L:Option (Nat×Nat)}{v:Value}{b ax:Nat}{bx:bL}(h:ud w I e l L v)
  (Mv:loc b=L) (hb:mem b=some bx) (aZ:bx.ax=ax) (bF:bx.buf=true) (hval:bx.val=.data (.slice e) l):b8 ⟨I,loc⟩ mem w (.whole b ax) .val [v]:=by
 rcases h with ⟨q1,q2,q3⟩|⟨cU,cap,cur,tid,fr,q1,q2,q3,q4,q5,q6,q7,q8,q9⟩
 ·exact⟨⟨v,rfl,by rw[q3];rfl⟩,fN hb aZ ⟨e,l.length,bF,bL.cV bF hval,.inl ⟨by rw[←q1];exact Mv,by rw[q3]⟩⟩⟩
 ·exact⟨⟨v,rfl,by rw[q2];rfl⟩,fN hb aZ ⟨e,l.length,bF,bL.cV bF hval,.inr ⟨cU,cap,by rw[←q1];exact Mv,by rw[q2]⟩⟩⟩
theorem QO{mem:Nat→Option bL}(h:bz B γ mem w){b ax:Nat}{bx:bL}{e:Ty}{l:List e.den}{v:Value}(hb:mem b=some bx)(aZ:bx.ax=ax)(bF:bx.buf=true)(hro:bx.ro=false)(hval:bx.val=.data (.slice e) l)
  (hv:b8 γ mem w (.whole b ax) .val [v]):ud w γ.I e l (γ.loc b) v∧0<e.size:=by
 obtain⟨e',n,k1,k2,k3⟩:=aW hb aZ hv.2
 rw[bL.cV bF hval] at k2
 obtain⟨rfl,rfl⟩:=Prod.mk.inj (Option.some.inj k2)
 have gz:=h.boxes b bx hb
 unfold cw at gz
 rw[bF] at gz
 obtain⟨e3,l3,q1,q2,q3⟩:=gz
 rw[hval] at q1
 cases q1
 refine⟨?_,q2⟩
 rcases q3 with ⟨q3,q4⟩|⟨blk,cap,cur,tid,fr,q3,q4,q5,q6,q7,q8,q9,Wd⟩
 ·rcases k3 with ⟨k3,k4⟩|⟨cU,cap',k3,k4⟩
  ·exact .inl ⟨k3,q4,List.head_eq_of_cons_eq k4⟩
  ·rw[q3] at k3;cases k3
 ·rcases k3 with ⟨k3,k4⟩|⟨cU,cap',k3,k4⟩
  ·rw[q3] at k3;cases k3
  ·rw[q3] at k3
   obtain⟨rfl,rfl⟩:=Prod.mk.inj (Option.some.inj k3)
   refine .inr ⟨blk,cap,cur,tid,fr,q3,List.head_eq_of_cons_eq k4,q4,q5,q7,q8,q9,fun o hi=>?_,Wd⟩
   have:=(h.sep b bx blk cap o hb q3 hi).1
   rw[hro] at this;cases this
theorem pT{e:Ty}{v:aQ}{b ax:Nat}{bx:bL}{l:List e.den}(h:uJ e σ v=some (b,ax,bx,l)):σ.mem b=some bx∧bx.ax=ax∧bx.buf=true∧bx.lk=false∧bx.ro=false∧bx.tid=0 ∧
  ∃l0:List e.den,bx.val=.data (.slice e) l0∧((v=.whole b ax∧l=l0)∨∃n,v=.part b ax 0 n∧l=sub l0 0 n):=by
 unfold uJ at h
 split at h
 ·rename_i b0 S9
  split at h
  ·rename_i cK hb
   cases hc:(Nat.beq cK.ax S9&&cK.buf&&!cK.lk&&!cK.ro&&Nat.beq cK.tid 0) with
   | false=>rw[hc] at h;cases h
   | true =>
     rw[hc] at h
     simp only[Bool.and_eq_true,Bool.not_eq_true'] at hc
     simp only[cond_true] at h
     split at h
     ·rename_i u l0 hval
      split at h
      ·rename_i l1 hl
       obtain⟨q,hq⟩:=ji hl
       subst q;subst hq
       cases h
       exact⟨hb,Nat.eq_of_beq_eq_true hc.1.1.1.1,hc.1.1.1.2,hc.1.1.2,hc.1.2,Nat.eq_of_beq_eq_true hc.2,_,hval,.inl ⟨rfl,rfl⟩⟩
      ·cases h
     ·cases h
  ·cases h
 ·rename_i b0 S9 lo n
  split at h
  ·rename_i cK hb
   cases hc:(Nat.beq cK.ax S9&&cK.buf&&!cK.lk&&!cK.ro&&Nat.beq cK.tid 0&&decide (lo=0)) with
   | false=>rw[hc] at h;cases h
   | true =>
     rw[hc] at h
     simp only[Bool.and_eq_true,Bool.not_eq_true',decide_eq_true_eq] at hc
     simp only[cond_true] at h
     split at h
     ·rename_i u l0 hval
      split at h
      ·rename_i l1 hl
       obtain⟨q,hq⟩:=ji hl
       subst q;subst hq
       cases h
       have h0:=hc.2
       subst h0
       exact⟨hb,Nat.eq_of_beq_eq_true hc.1.1.1.1.1,hc.1.1.1.1.2,hc.1.1.1.2,hc.1.1.2,Nat.eq_of_beq_eq_true hc.1.2,_,hval,.inr ⟨n,rfl,rfl⟩⟩
      ·cases h
     ·cases h
  ·cases h
 ·cases h
theorem Mw{mem:Nat→Option bL}(h:bz B γ mem w){b ax:Nat}{bx:bL}{e:Ty}{l:List e.den}{n:Int}{v:Value}(hb:mem b=some bx)(aZ:bx.ax=ax)(bF:bx.buf=true)(hro:bx.ro=false)(hval:bx.val=.data (.slice e) l)
  (hv:b8 γ mem w (.part b ax 0 n) .val [v]):ud w γ.I e (sub l 0 n) (γ.loc b) v∧0<e.size:=by
 obtain⟨e',k,k2,k3,k4,k5,base,cap',k6,k7,k8,kF,k9⟩:=aW hb aZ hv.2
 rw[bL.cV bF hval] at k2
 obtain⟨rfl,rfl⟩:=Prod.mk.inj (Option.some.inj k2)
 have gz:=h.boxes b bx hb
 unfold cw at gz
 rw[bF] at gz
 obtain⟨e3,l3,q1,q2,q3⟩:=gz
 rw[hval] at q1
 cases q1
 refine⟨?_,q2⟩
 obtain k6:=List.head_eq_of_cons_eq k6
 have hlen:(sub l 0 n).length=n.toNat:=by
  have:n.toNat≤l.length:=by omega
  simp only[sub,List.length_take,List.length_drop];omega
 rcases kF.2 rfl bF with ⟨z1,rfl,rfl⟩|⟨blk,z1,rfl⟩
 ·rcases q3 with ⟨q3,q4⟩|⟨blk,cap,cur,tid,fr,q3,_⟩
  ·subst q4
   have:n.toNat=0:=by omega
   exact .inl ⟨z1,by simp[sub],by rw[k6,this]⟩
  ·rw[z1] at q3;cases q3
 ·rcases q3 with ⟨q3,q4⟩|⟨cU,cap,cur,tid,fr,q3,q4,q5,q6,q7,q8,q9,Wd⟩
  ·rw[z1] at q3;cases q3
  ·rw[z1] at q3
   obtain⟨rfl,rfl⟩:=Prod.mk.inj (Option.some.inj q3)
   refine .inr ⟨blk,cap',cur,tid,fr,z1,by rw[hlen];exact k6,q4,q5,by rw[hlen];omega,q8,q9,fun o hi=>?_,fun i x hx=>Wd i x ?_⟩
   ·have:=(h.sep b bx blk cap' o hb z1 hi).1
    rw[hro] at this;cases this
   ·have hx':((l.drop (0:Int).toNat).take n.toNat)[i]?=some x:=hx
    rw[List.getElem?_take] at hx'
    split at hx'
    ·simpa using hx'
    ·cases hx'
theorem Hw{e:Ty}{v:aQ}{b ax:Nat}{bx:bL}{l:List e.den}{val:Value}(hm:bz B γ σ.mem w)(h:uJ e σ v=some (b,ax,bx,l))(hv:b8 γ σ.mem w v .val [val]):ud w γ.I e l (γ.loc b) val∧0<e.size:=by
 obtain⟨hb,aZ,bF,hlk,hro,gk,l0,hval,QS⟩:=pT h
 rcases QS with ⟨rfl,rfl⟩|⟨n,rfl,rfl⟩
 ·exact QO hm hb aZ bF hro hval hv
 ·exact Mw hm hb aZ bF hro hval hv
theorem sK{f:Nat}{s:OM}(h:s8 cx bf d f=some s):find cx.JR f=some s:=by
 unfold s8 at h
 split at h
 ·rename_i e he
  split at h
  ·obtain rfl:=Option.some.inj h;exact he
  ·cases h
 ·rename_i he
  obtain rfl:=Option.some.inj h;exact he
 ·cases h
theorem Dn{f:Nat}{e:Ty}{vals:List aQ}{xs:Array Value}(hs:nu P f (.clone e))(h:cG B N γ σ a w)(hd:∀k,d=some k→k<N)(hv:jR γ σ.mem w vals xs.toList)
  (hr:(jC nb e d vals σ).run=some σ') {K:Act→World→Prop} (hK:Ai B N γ σ a w d σ' K) :
  (∃fn code,P.funcs[f]?=some fn∧(fn.name == "runtime.NumGoroutine")=false∧fn.body=some code)∧Calls P f xs w fun e w'=>∃v,e=.returned v∧K (a.put d v) w':=by
 unfold jC at hr
 split at hr
 case h_2=>cases hr
 rename_i k x
 split at hr
 case h_2=>cases hr
 rename_i l σ1 hg
 change List e.den at l
 obtain⟨he,hr⟩:=aA hr
 have he:0<e.size:=by simpa using he
 obtain⟨hfit,hr⟩:=b9 hr
 obtain⟨ax,aZ,hr2⟩:=dw hr
 obtain rfl:=Option.some.inj hr2
 obtain⟨val,rest,hxs,g1,g2⟩:=hv.cons
 have sJ:rest=[]:=by have:=g2.1;simpa using this
 subst sJ
 obtain⟨ij,s1,s2,cs,c1,c2⟩:=jZ h g1 hg
 have c2:=List.head_eq_of_cons_eq c2
 refine⟨hs.1,(hs.2 ij.I w xs l (fun b o hi=>s1.ok.qu b o hi) ⟨cs,[],by rw[hxs,c2],c1,rfl⟩ hfit).mono fun q w' hw=>?_⟩
 obtain⟨v,I',L,rfl,h1,h2,h3⟩:=hw
 refine⟨v,rfl,?_⟩
 obtain⟨m1,m2⟩:=s1.ok.Mu (b:=nb+k) (fJ:={ val:=.data (.slice e) l,tid:=0,buf:=true,ro:=false,lk:=false,ax }) (fun _ hf=>hf.elim) h1 h2 (fun blk c hl=>.inr (h3 blk c hl))
  (fun cK h0=>.inl (aZ cK h0)) rfl rfl rfl he
 exact hK _ _ w' (s1.step m2 m1 (hd k rfl) (h2.rep (by simp) (bt _ _) rfl rfl rfl)) (s2.trans m2)
theorem Gv{f:Nat}{e A:Ty}{res:Bool}{spec:List e.den→A.den→Option (List e.den)}{vals:List aQ}{xs:Array Value}(hs:nu P f (.own e A res spec))(h:cG B N γ σ a w)(hd:∀k,d=some k→k<N)(hv:jR γ σ.mem w vals xs.toList)
  (hr:(oV e A res spec d vals σ).run=some σ') {K:Act→World→Prop} (hK:Ai B N γ σ a w d σ' K) :
  (∃fn code,P.funcs[f]?=some fn∧(fn.name == "runtime.NumGoroutine")=false∧fn.body=some code)∧Calls P f xs w fun e w'=>∃v,e=.returned v∧K (a.put d v) w':=by
 unfold oV at hr
 split at hr
 case h_2=>cases hr
 rename_i v0 vs
 split at hr
 case h_2=>cases hr
 rename_i x σ1 hg
 split at hr
 case h_2=>cases hr
 rename_i b ax bx l Ue
 obtain⟨l',hspec,hr⟩:=bR hr
 obtain⟨hb,aZ,bF,hlk,hro,gk,l0,hval,QS⟩:=pT Ue
 obtain⟨val,rest,hxs,g1,g2⟩:=hv.cons
 obtain⟨ij,s1,s2,hargs⟩:=oZ h g2 hg
 obtain⟨hown,he⟩:=Hw s1.ok Ue (g1.ext s2)
 refine⟨hs.1,(hs.2 ij.I w xs val rest l l' (ij.loc b) x (fun b o hi=>s1.ok.qu b o hi) hxs hown hargs hspec).mono fun q w' hw=>?_⟩
 obtain⟨I',h1,h2⟩:=hw
 have hX:∀k,(∃c,ij.loc b=some (k,c))→∃cK c,σ1.mem b=some cK∧cK.ro=false∧ij.loc b=some (k,c):=fun k ⟨c,hc⟩=>⟨bx,c,hb,hro,hc⟩
 cases res with
 | true =>
   cases d with
   | none=>cases hr
   | some k =>
     obtain rfl:=Option.some.inj hr
     obtain⟨v',L',rfl,h3,h4⟩:=h2
     refine⟨v',rfl,?_⟩
     obtain⟨m1,m2⟩:=s1.ok.Mu (b:=b) (fJ:={ bx with val:=.data (.slice e) l',ax:=ax+1 }) hX h1 h3 h4 (fun cK h0=>by
      rw[hb] at h0
      obtain rfl:=Option.some.inj h0
      exact .inl (by simp[aZ])) rfl bF gk he
     exact hK _ _ w' (s1.step m2 m1 (hd k rfl) (h3.rep (by simp) (bt _ _) rfl bF rfl)) (s2.trans m2)
 | false =>
   have hr':DI v0=true∧σ'=(σ1.bX b { bx with val:=.data (.slice e) l' }).aR d (.yT .nl):=by
    cases d with
    | none=>obtain⟨q1,q2⟩:=aA hr;exact⟨q1,(Option.some.inj q2).symm⟩
    | some k=>obtain⟨q1,q2⟩:=aA hr;exact⟨q1,(Option.some.inj q2).symm⟩
   obtain⟨ZL,rfl⟩:=hr'
   obtain rfl:l=l0:=by
    rcases QS with ⟨_,q⟩|⟨n,rfl,_⟩
    ·exact q
    ·cases ZL
   obtain⟨rfl,hlen,h3⟩:=h2
   refine⟨_,rfl,?_⟩
   obtain⟨m1,m2⟩:=s1.ok.Mu (b:=b) (fJ:={ bx with val:=.data (.slice e) l' }) hX h1 h3 (fun blk c hl=>.inl ⟨c,hl⟩) (fun cK h0=>by
    rw[hb] at h0
    obtain rfl:=Option.some.inj h0
    exact .inr ⟨rfl,rfl,rfl,by rw[bL.cV bF hval,bL.cV (bx:={ bx with val:=.data (.slice e) l' }) bF rfl,hlen]⟩) rfl bF gk he
   refine hK _ _ w' (s1.aR m2 m1 hd (v:=.yT .nl) (val:=.tuple #[]) ⟨#[],rfl,rfl⟩) ?_
   cases d<;>exact s2.trans m2
theorem Gw(dG:mC P B.G cx)(jK:sI P B.G inl){f:Nat}{vals:List aQ}{xs:Array Value}(h:cG B N γ σ a w)(hd:∀k,d=some k→k<N)(hv:jR γ σ.mem w vals xs.toList)
  (hr:(qK cx nb bf inl d f vals σ).run=some σ') {K:Act→World→Prop} (hK:Ai B N γ σ a w d σ' K) :
  (∃fn code,P.funcs[f]?=some fn∧(fn.name == "runtime.NumGoroutine")=false∧fn.body=some code)∧Calls P f xs w fun e w'=>∃v,e=.returned v∧K (a.put d v) w':=by
 unfold qK at hr
 split at hr
 ·rename_i e he
  exact Dn (dG.JR f _ (sK he)) h hd hv hr hK
 ·rename_i e A r s he
  exact Gv (dG.JR f _ (sK he)) h hd hv hr hK
 ·exact II dG jK h hd hv hr hK
theorem Eu{o:Oper}{f:Nat}{xs:Array Value}{K:Act→World→Prop}{Q:Exit→Act→World→Prop}(hs:(execOp a.eval o).run P w=(callFunc f xs).run P w)
  (h:(∃fn code,P.funcs[f]?=some fn∧(fn.name == "runtime.NumGoroutine")=false∧fn.body=some code)∧Calls P f xs w fun e w'=>∃v,e=.returned v∧K (a.put o.dst v) w'):o.wp P a w K Q:=by
 obtain⟨⟨fn,code,h1,h2,h3⟩,hc⟩:=h
 unfold Oper.wp
 rw[hs,IF h1 h2 h3]
 refine hc.mono fun e w' hw=>?_
 obtain⟨v,rfl,hk⟩:=hw
 exact hk
theorem Kh(hc:eG P cx){t ty:TypeId}{v:aQ}{x:Value}{n:Int}(hm:bz B γ σ.mem w)(hv:b8 γ σ.mem w v .val [x])(ht:N1 (find cx.T t) v=true)(hl:lenOf σ v=some n) :
  (Builtin.len_ #[t] ty #[x]).run P w=.ok (goInt n) w∧IntKind.i64.min≤n∧n≤IntKind.i64.max:=by
 have hmax:(maxLen:Int)≤IntKind.i64.max:=by decide
 have hmin:IntKind.i64.min≤0:=by decide
 have VM:∀{base:Option Addr} {m c:Nat},(∃e,find cx.T t=some (.slice e))→x=.slice base m c→n=m→m≤maxLen→(Builtin.len_ #[t] ty #[x]).run P w=.ok (goInt n) w∧IntKind.i64.min≤n∧n≤IntKind.i64.max:=by
  intro base m c he hx hn hm
  obtain⟨e,he⟩:=he
  obtain⟨eB,f1,_⟩:=(hc.T _ _ he).slice
  subst hx;subst hn
  refine⟨?_,by omega,by omega⟩
  simp[Builtin.len_,run_underlying f1]
 have Qd:∀{o:Option Ty},(match o with|some (.slice _)=>true|_=>false)=true→∃e,o=some (.slice e):=by
  intro o h
  split at h
  ·exact⟨_,rfl⟩
  ·cases h
 cases v with
 | data u y =>
   cases u with
   | str =>
     obtain⟨rfl,h2⟩:=td hv
     obtain rfl:=Option.some.inj hl
     have hT:=(hc.T _ _ (gr ht)).str
     have e1:(⟨List.toArray (α:=UInt8) y⟩:ByteArray).size=List.length (α:=UInt8) y:=by
      show(List.toArray (α:=UInt8) y).size=_
      exact List.size_toArray
     refine⟨?_,?_,?_⟩
     ·simp only[Builtin.len_]
      simp[run_underlying hT,e1,len]
     ·simp only[len];omega
     ·simp only[len];omega
   | slice e =>
     obtain rfl:=Option.some.inj hl
     obtain⟨cs,h1,h2⟩:=de.1 hv
     rcases h1 with ⟨⟨_,h1⟩,h3⟩|⟨blk,off,cap,h1,h3,h4,_⟩
     ·rw[h1] at h2
      exact VM ⟨e,gr ht⟩ (show x=.slice _ 0 0 from h2) (by rw[h3];rfl) (Nat.zero_le _)
     ·rw[h1] at h2
      exact VM ⟨e,gr ht⟩ (show x=.slice _ _ _ from h2) rfl (Nat.le_trans h3 h4)
   | arr m e =>
     obtain⟨eB,f1,_⟩:=(hc.T _ _ (gr ht)).arr
     simp only[lenOf] at hl
     cases hb:Nat.ble m 4294967296 with
     | false=>rw[hb] at hl;cases hl
     | true =>
       rw[hb] at hl
       obtain rfl:=Option.some.inj hl
       have:=Nat.le_of_ble_eq_true hb
       have h9:(4294967296:Int)≤IntKind.i64.max:=by decide
       refine⟨by simp[Builtin.len_,run_underlying f1],by omega,by omega⟩
   | _=>cases hl
 | lz =>
   obtain rfl:=Option.some.inj hl
   obtain rfl:x=_:=by simpa [b8] using hv
   exact VM (Qd ht) rfl rfl (Nat.zero_le _)
 | whole b ax =>
   simp only[lenOf] at hl
   split at hl
   ·rename_i bx hb
    cases Td:(Nat.beq bx.ax ax&&bx.buf) with
    | false=>rw[Td] at hl;cases hl
    | true =>
      rw[Td] at hl
      simp only[Bool.and_eq_true] at Td
      simp only[cond_true] at hl
      split at hl
      ·rename_i u l kJ
       obtain rfl:=Option.some.inj hl
       obtain⟨e',k,g1,g2,g3⟩:=aW hb (Nat.eq_of_beq_eq_true Td.1) hv.2
       rw[bL.cV g1 kJ] at g2
       obtain⟨rfl,rfl⟩:=Prod.mk.inj (Option.some.inj g2)
       rcases g3 with ⟨g3,g4⟩|⟨blk,cap,g3,g4⟩
       ·have gz:=hm.boxes b bx hb
        rw[cw,g1] at gz
        obtain⟨e3,l3,q1,q2,q3⟩:=gz
        rw[kJ] at q1
        cases q1
        rcases q3 with ⟨_,q3⟩|⟨blk,cap,cur,tid,fr,q3,_⟩
        ·exact VM (Qd ht) (List.head_eq_of_cons_eq g4) (by rw[q3];rfl) (Nat.zero_le _)
        ·rw[g3] at q3;cases q3
       ·obtain⟨cur,tid,fr,q1,q2,q3,q4,_⟩:=((hm.boxes b bx hb).row g3).1 _ l g1 kJ
        exact VM (Qd ht) (List.head_eq_of_cons_eq g4) rfl (Nat.le_trans q3 q4)
      ·cases hl
   ·cases hl
 | part b ax lo n' =>
   simp only[lenOf] at hl
   cases hlv:live σ b ax with
   | false=>rw[hlv] at hl;cases hl
   | true =>
     rw[hlv] at hl
     obtain rfl:=Option.some.inj hl
     obtain⟨bx,hb,aZ⟩:=jD hlv
     obtain⟨e',k,g2,g3,g4,g5,base,cap,g6,g7,g8,gF,g9⟩:=aW hb aZ hv.2
     exact VM (Qd ht) (List.head_eq_of_cons_eq g6) (Int.toNat_of_nonneg g4).symm (Nat.le_trans g7 g8)
 | _=>cases hl
theorem dS.take{w:World}{I:Nat→Nat→Prop}{e:Ty}{l:List e.den}{cs:List Value}(h:dS w I e l cs)(k:Nat):dS w I e (l.take k) (cs.take (k*e.size)):=by
 intro i x hx
 rw[List.getElem?_take] at hx
 split at hx
 ·rename_i hi
  have hm:(i+1)*e.size≤k*e.size:=Nat.mul_le_mul_right _ hi
  rw[Nat.succ_mul] at hm
  rw[List.drop_take,List.take_take,Nat.min_eq_left (by omega)]
  exact h i x hx
 ·cases hx
theorem dS.drop{w:World}{I:Nat→Nat→Prop}{e:Ty}{l:List e.den}{cs:List Value}(h:dS w I e l cs)(k:Nat):dS w I e (l.drop k) (cs.drop (k*e.size)):=by
 intro i x hx
 rw[List.getElem?_drop] at hx
 rw[List.drop_drop,←Nat.add_mul]
 exact h _ x hx
theorem wF{α:Type}{l m:List α}{lo:Int}(h0:0≤lo)(h:lo+m.length≤l.length):(over l lo m).length=l.length:=by
 simp only[over,List.length_append,List.length_take,List.length_drop];omega
theorem dS.over{w:World}{I:Nat→Nat→Prop}{e:Ty}{l m:List e.den}{cs news:List Value}{lo:Int}(h:dS w I e l cs)(hm:dS w I e m news)(hn:news.length=m.length*e.size)(h0:0≤lo)
  (hl:lo+m.length≤l.length) (hc:l.length*e.size≤cs.length):dS w I e (over l lo m) (splice cs (lo.toNat*e.size) news):=by
 have h1:(lo.toNat+m.length)*e.size≤l.length*e.size:=Nat.mul_le_mul_right _ (by omega)
 rw[Nat.add_mul] at h1
 have a1:=(h.take lo.toNat).append (rest:=[]) hm (by rw[List.length_take,List.length_take,Nat.min_eq_left (by omega),Nat.min_eq_left (by omega)]) hn
 rw[List.append_nil] at a1
 have a2:=a1.append (rest:=[]) (h.drop (lo.toNat+m.length)) (by rw[List.length_append,List.length_append,Nat.add_mul,hn,List.length_take,List.length_take,Nat.min_eq_left (by omega),Nat.min_eq_left (by omega)])
 have e1:splice cs (lo.toNat*e.size) news=cs.take (lo.toNat*e.size)++news++cs.drop ((lo.toNat+m.length)*e.size):=by
  simp only[splice,hn,Nat.add_mul]
 rw[e1]
 intro i x hx
 have hi:i<l.length:=by have:=(List.getElem?_eq_some_iff.1 hx).1;rw[wF h0 hl] at this;exact this
 have hm1:(i+1)*e.size≤l.length*e.size:=Nat.mul_le_mul_right _ hi
 by_cases Ev:(lo.toNat+m.length)*e.size+(l.length-(lo.toNat+m.length))*e.size=l.length*e.size
 ·have a3:dS w I e (Go.Ge.over l lo m) (cs.take (lo.toNat*e.size)++news++(cs.drop ((lo.toNat+m.length)*e.size))):=by
   intro i x hx
   by_cases Wh:i<lo.toNat+m.length
   ·have hx':(l.take lo.toNat++m)[i]?=some x:=by
     simp only[Go.Ge.over] at hx
     rw[List.getElem?_append_left (by rw[List.length_append,List.length_take];omega)] at hx
     exact hx
    have hm2:(i+1)*e.size≤(lo.toNat+m.length)*e.size:=Nat.mul_le_mul_right _ Wh
    rw[kN (by rw[List.length_append,List.length_take,hn,Nat.min_eq_left (by omega),←Nat.add_mul];exact hm2)]
    exact a1 i x hx'
   ·have hx':(l.drop (lo.toNat+m.length))[i-(lo.toNat+m.length)]?=some x:=by
     simp only[Go.Ge.over] at hx
     rw[List.getElem?_append_right (by rw[List.length_append,List.length_take];omega)] at hx
     rw[←hx];congr 1
     rw[List.length_append,List.length_take];omega
    have:=h.drop (lo.toNat+m.length) _ x hx'
    have e2:i*e.size=(cs.take (lo.toNat*e.size)++news).length+(i-(lo.toNat+m.length))*e.size:=by
     rw[List.length_append,List.length_take,hn,Nat.min_eq_left (by omega),←Nat.add_mul,←Nat.add_mul];congr 1;omega
    rw[e2,←List.drop_drop,List.drop_left]
    exact this
  exact a3 i x hx
 ·exact absurd (by rw[←Nat.add_mul];congr 1;omega) Ev
theorem rQ(h:cG B N γ σ a w){e:Ty}{m:List e.den}{b ax:Nat}{q:List Ci}{Qr:Nat→Ty→Bool}{lo:Int}{base:Option Addr}{news:List Value}
  (hr:(iw e m b ax q Qr lo σ).run=some σ') (hE:dS w γ.I e m news) (hn:news.length=m.length*e.size) (hone:∀u∈news,u.oneCell'=true) (h0:0≤lo)
  (bF:∀bx (l:List e.den),σ.mem b=some bx→bx.ax=ax→bx.buf=true→bx.val=.data (.slice e) l→q=[]→lo+m.length≤l.length)
  (XO:∀bx k (l:List e.den),σ.mem b=some bx→bx.ax=ax→bx.buf=false→(Qc q bx.val).run=some (.data (.arr k e) l)→Qr k e=true→lo+m.length≤k)
  (hbase:m=[]∨∃blk c,γ.loc b=some (blk,c)∧base=some ⟨blk,cz q+lo.toNat*e.size,none⟩) :
  ∃w',(match base with|some ad=>storeCells ad news|none=>pure ()).run P w=.ok () w'∧cG B N γ σ' a w'∧Ext B γ σ.mem w γ σ'.mem w':=by
 unfold iw at hr
 split at hr
 case h_2=>cases hr
 rename_i bx hb
 obtain⟨hcd,hr2⟩:=aA hr
 simp only[Bool.and_eq_true,Bool.not_eq_true'] at hcd
 obtain⟨⟨aZ,hlk⟩,hro⟩:=hcd
 have aZ:=Nat.eq_of_beq_eq_true aZ
 have gz:=h.ok.boxes b bx hb
 have hnil:m=[]→news=[]:=fun hm=>by subst hm;simpa using hn
 have Wi:m=[]→(match base with|some ad=>storeCells ad news|none=>pure ()).run P w=.ok () w:=fun hm=>by
  rw[hnil hm];cases base<;>rfl
 have QT:∀(blk c:Nat) (cur:Array Value) (tid:TypeId) (fr:Nat×Nat),γ.loc b=some (blk,c)→w.heap[blk]?=some (.cells cur tid fr)→l9 cur fr→cz q+lo.toNat*e.size+news.length≤cur.size →
   (match base with|some ad=>storeCells ad news|none=>pure ()).run P w=.ok () (w.setRow blk (splice cur.toList (cz q+lo.toNat*e.size) news).toArray):=by
  intro blk c cur tid fr hl hg JY hle
  rcases hbase with hm|⟨cU,c',hl',rfl⟩
  ·rw[Wi hm,hnil hm]
   simp only[splice,List.append_nil,List.length_nil,Nat.add_zero,List.take_append_drop,Array.toArray_toList]
   rw[setRow_self w blk cur tid fr hg]
  ·rw[hl] at hl'
   obtain⟨rfl,rfl⟩:=Prod.mk.inj (Option.some.inj hl')
   have:=dD (P:=P) blk (cz q+lo.toNat*e.size) tid fr news 0 cur w hg JY (by omega) hone
   rw[Nat.add_zero] at this
   exact this
 split at hr2
 ·rename_i Ak
  split at hr2
  case h_2=>cases hr2
  rename_i u l kJ
  split at hr2
  case h_2=>cases hr2
  rename_i m' hm'
  obtain rfl:=Option.some.inj hr2
  obtain⟨hq,UJ⟩:=ji hm'
  subst hq
  obtain rfl:m'=m:=UJ
  have hle:=bF bx l hb aZ Ak kJ rfl
  have hlen:=wF h0 hle
  unfold cw at gz
  rw[Ak] at gz
  obtain⟨e2,l2,j1,j2,j3⟩:=gz
  rw[kJ] at j1
  cases j1
  have hrw:({ bx with val:=.data (.slice e) (over l lo m') }:bL).row=bx.row:=by
   rw[bL.cV Ak kJ]
   exact(bL.cV (bx:=⟨.data (.slice e) (over (α:=e.den) l lo m'),bx.tid,bx.buf,bx.ro,bx.lk,bx.ax⟩) (l:=over (α:=e.den) l lo m') Ak rfl).trans (by rw[hlen])
  rcases j3 with ⟨k1,k2⟩|⟨blk,cap,cur,tid,fr,k1,k2,k3,gk,k4,k5,k6,k7⟩
  ·subst k2
   have hm0:m'=[]:=by
    cases m' with
    | nil=>rfl
    | cons x r=>simp at hle;omega
   subst hm0
   have e1:σ.bX b { bx with val:=.data (.slice e) (over ([]:List e.den) lo []) }=σ:=by
    have:({ bx with val:=.data (.slice e) (over ([]:List e.den) lo []) }:bL)=bx:=by
     cases bx;simp only at kJ;subst kJ;simp[over]
    rw[this]
    cases σ
    simp only[St.bX]
    congr 1
    funext i
    by_cases hi:i=b
    ·subst hi;simp only[Nat.beq_refl,cond_true];exact hb.symm
    ·simp[fQ hi]
   rw[e1]
   exact⟨w,Wi rfl,h,Ext.refl _ _ _ _⟩
  ·have hoff:cz ([]:List Ci)+lo.toNat*e.size+news.length≤cur.size:=by
    have:(lo.toNat+m'.length)*e.size≤cap*e.size:=Nat.mul_le_mul_right _ (by omega)
    rw[Nat.add_mul] at this
    simp only[cz];omega
   have hst:=QT blk cap cur tid fr k1 k2 k3.th hoff
   have UN:lo.toNat*e.size+news.length≤cur.toList.length:=by simp only[cz] at hoff;show _≤cur.size;omega
   have hsz:(splice cur.toList (lo.toNat*e.size) news).toArray.size=cur.size:=by have:=bN UN;simpa using this
   obtain⟨m1,m2⟩:=h.ok.write hb hro k1 k2 (cur':=(splice cur.toList (lo.toNat*e.size) news).toArray) (v:=.data (.slice e) (over l lo m')) hsz hrw
    (fun w' mem' hx hg=>by
     show cw γ mem' w' b { bx with val:=.data (.slice e) (over l lo m') }
     unfold cw
     simp only[Ak]
     refine⟨e,_,rfl,j2,.inr ⟨blk,cap,_,tid,fr,k1,hg,k3.same hsz,gk,by rw[hlen];exact k4,k5,by rw[hsz];exact k6,?_⟩⟩
     intro i x hx'
     have:=dS.over (l:=l) (cs:=cur.toList) k7 hE hn h0 hle (by show _≤cur.size;rw[k6];exact Nat.mul_le_mul_right _ k4) i x hx'
     simpa using bE.mono hx.I hx.cells this)
   simp only[cz,Nat.zero_add] at hst
   exact⟨_,hst,h.go m2 m1,m2⟩
 ·rename_i Ak
  obtain⟨old,QU,iR⟩:=bind_some hr2
  split at iR
  case h_2=>cases iR
  rename_i k u l
  obtain⟨UO,qM⟩:=aA iR
  split at qM
  case h_2=>cases qM
  rename_i m' hm'
  obtain⟨c,hs,Mq⟩:=bind_some qM
  obtain rfl:=Option.some.inj Mq
  obtain⟨hq,UJ⟩:=ji hm'
  subst hq
  obtain rfl:m'=m:=UJ
  have hle:=XO bx k l hb aZ Ak QU UO
  unfold cw at gz
  rw[Ak] at gz
  obtain⟨blk,cap,cur,tid,fr,k1,k2,k3,gk,k4⟩:=gz
  obtain⟨p1,p2⟩:=uN k4 QU
  have hvs:dY (.data (.arr k e) l)=k*e.size:=rfl
  rw[hvs] at p1 p2
  obtain⟨r1,r2,r3⟩:=p2
  have Xf:lo+m'.length≤(List.length (α:=e.den) l:Int):=by rw[r1];exact hle
  have hlen:List.length (α:=e.den) (over (α:=e.den) l lo m')=List.length (α:=e.den) l:=wF (l:=l) h0 Xf
  have XP:(lo.toNat+m'.length)*e.size≤k*e.size:=Nat.mul_le_mul_right _ (by omega)
  rw[Nat.add_mul] at XP
  have hoff:cz q+lo.toNat*e.size+news.length≤cur.size:=by have p1':cz q+k*e.size≤cur.size:=p1;omega
  have hst:=QT blk cap cur tid fr k1 k2 k3 hoff
  have Te:((cur.toList.drop (cz q)).take (k*e.size)).length=k*e.size:=r2
  have Uf:lo.toNat*e.size+news.length≤((cur.toList.drop (cz q)).take (k*e.size)).length:=by rw[Te];omega
  have hnew:bE w γ.I (.arr k e) (over l lo m') (splice ((cur.toList.drop (cz q)).take (k*e.size)) (lo.toNat*e.size) news):=by
   refine⟨hlen.trans r1,by rw[bN Uf,Te],?_⟩
   exact dS.over (l:=l) r3 hE hn h0 Xf (by rw[Te];exact Nat.le_of_eq (by rw[r1]))
  have XQ:=oY cur.toList (cz q) (lo.toNat*e.size) (k*e.size) news (by omega) p1
  have hrw:({ bx with val:=c }:bL).row=bx.row:=Cr (bx:=bx) (p:=q) (v:=.data (.arr k e) (over l lo m')) (by rw[Ak];exact hs) fun hp _=>by
   subst hp
   have kJ:bx.val=.data (.arr k e) l:=Option.some.inj QU
   rw[bL.nk Ak kJ]
   exact bL.nk (bx:=⟨_,bx.tid,bx.buf,bx.ro,bx.lk,bx.ax⟩) Ak rfl
  have UN:cz q+lo.toNat*e.size+news.length≤cur.toList.length:=hoff
  have hsz:(splice cur.toList (cz q+lo.toNat*e.size) news).toArray.size=cur.size:=by have:=bN UN;simpa using this
  obtain⟨m1,m2⟩:=h.ok.write hb hro k1 k2 (cur':=(splice cur.toList (cz q+lo.toNat*e.size) news).toArray) (v:=c) hsz hrw
   (fun w' mem' hx hg=>by
    show cw γ mem' w' b { bx with val:=c }
    unfold cw
    simp only[Ak]
    refine⟨blk,cap,_,tid,fr,k1,hg,k3.same hsz,gk,?_⟩
    have:=yX (k4.ext hx) QU hs (show b8 γ mem' w' (.data (.arr k e) (over l lo m')) .cells _ from bE.mono hx.I hx.cells hnew) (by rw[bN Uf,Te];rfl)
    rw[XQ] at this
    simpa using this)
  exact⟨_,hst,h.go m2 m1,m2⟩
theorem Al{e:Ty}{mf:Int→List e.den}{t:aQ}{tv:Value}{r:Int×St}(h:cG B N γ σ a w)(hv:b8 γ σ.mem w t .val [tv])(hr:(Bs e mf t σ).run=some r) :
  ∃base cap,tv=.slice base r.1.toNat cap∧0≤r.1∧∀news,dS w γ.I e (mf r.1) news→news.length=(mf r.1).length*e.size→(∀u∈news,u.oneCell'=true)→(mf r.1).length≤r.1.toNat →
   ∃w',(match base with|some ad=>storeCells ad news|none=>pure ()).run P w=.ok () w'∧cG B N γ r.2 a w'∧Ext B γ σ.mem w γ r.2.mem w':=by
 unfold Bs at hr
 split at hr
 ·rename_i b ax lo n
  obtain⟨σ1,jl,hr2⟩:=bind_some hr
  obtain rfl:=Option.some.inj hr2
  have Ki:∃bx,σ.mem b=some bx∧bx.ax=ax:=by
   unfold iw at jl
   split at jl
   ·rename_i bx hb
    obtain⟨hcd,_⟩:=aA jl
    simp only[Bool.and_eq_true] at hcd
    exact⟨bx,hb,Nat.eq_of_beq_eq_true hcd.1.1⟩
   ·cases jl
  obtain⟨bx,hb,aZ⟩:=Ki
  obtain⟨e',k,g2,g3,g4,g5,base,cap,g6,g7,g8,gF,g9⟩:=aW hb aZ hv.2
  refine⟨base,cap,by simpa using g6,g4,fun news hE hn hone hle=>?_⟩
  dsimp only at hE hn hle
  refine rQ h jl hE hn hone g3 (fun fJ l hb' _ Ak kJ _=>?_) (fun fJ k' l hb' _ Ak QU _=>?_) ?_
  ·obtain rfl:=Option.some.inj (hb.symm.trans hb')
   rw[bL.cV Ak kJ] at g2
   obtain⟨_,rfl⟩:=Prod.mk.inj (Option.some.inj g2)
   omega
  ·obtain rfl:=Option.some.inj (hb.symm.trans hb')
   have kJ:bx.val=.data (.arr k' e) l:=Option.some.inj QU
   rw[bL.nk Ak kJ] at g2
   obtain⟨_,rfl⟩:=Prod.mk.inj (Option.some.inj g2)
   omega
  ·rcases g9 with g9|⟨blk,c,g9,g10⟩
   ·left
    exact List.eq_nil_of_length_eq_zero (by rw[g9,show(0:Int).toNat=0 from rfl] at hle;rw[g9];omega)
   ·by_cases hm:mf n=[]
    ·exact .inl hm
    ·right
     have he:e'=e:=by
      unfold iw at jl
      rw[hb] at jl
      obtain⟨_,iR⟩:=aA jl
      split at iR
      ·rename_i Ak
       split at iR
       case h_2=>cases iR
       rename_i u l kJ
       split at iR
       case h_2=>cases iR
       rename_i m' hm'
       obtain⟨hq,_⟩:=ji hm'
       rw[bL.cV Ak kJ] at g2
       obtain⟨rfl,_⟩:=Prod.mk.inj (Option.some.inj g2)
       exact hq.symm
      ·rename_i Ak
       obtain⟨old,QU,qM⟩:=bind_some iR
       split at qM
       case h_2=>cases qM
       rename_i k' u l
       obtain⟨_,Mq⟩:=aA qM
       split at Mq
       case h_2=>cases Mq
       rename_i m' hm'
       obtain⟨hq,_⟩:=ji hm'
       have kJ:bx.val=.data (.arr k' u) l:=Option.some.inj QU
       rw[bL.nk Ak kJ] at g2
       obtain⟨rfl,_⟩:=Prod.mk.inj (Option.some.inj g2)
       exact hq.symm
     subst he
     exact⟨blk,c,g9,by rw[g10];simp[cz]⟩
 ·rename_i b ax
  split at hr
  case h_2=>cases hr
  rename_i n hlen
  obtain⟨σ1,jl,hr2⟩:=bind_some hr
  obtain rfl:=Option.some.inj hr2
  have Ki:∃bx,σ.mem b=some bx∧bx.ax=ax:=by
   unfold iw at jl
   split at jl
   ·rename_i bx hb
    obtain⟨hcd,_⟩:=aA jl
    simp only[Bool.and_eq_true] at hcd
    exact⟨bx,hb,Nat.eq_of_beq_eq_true hcd.1.1⟩
   ·cases jl
  obtain⟨bx,hb,aZ⟩:=Ki
  obtain⟨e',k,g1,g2,g3⟩:=aW hb aZ hv.2
  have pR:=h.ok.boxes b bx hb
  have hl:∃l:List e.den,bx.val=.data (.slice e) l∧n=l.length:=by
   unfold iw at jl
   rw[hb] at jl
   obtain⟨_,iR⟩:=aA jl
   split at iR
   ·split at iR
    case h_2=>cases iR
    rename_i u l YQ kJ
    split at iR
    case h_2=>cases iR
    rename_i m' hm'
    obtain⟨hq,_⟩:=ji hm'
    subst hq
    refine⟨l,kJ,?_⟩
    simp only[lenOf,hb,aZ,g1,Nat.beq_refl,Bool.and_self,cond_true,kJ] at hlen
    exact(Option.some.inj hlen).symm
   ·rename_i Ak
    rw[g1] at Ak;cases Ak
  obtain⟨l,kJ,rfl⟩:=hl
  rw[bL.cV g1 kJ] at g2
  obtain⟨rfl,rfl⟩:=Prod.mk.inj (Option.some.inj g2)
  have fin:∀{base:Option Addr} {cap:Nat},tv=.slice base l.length cap→(l.length=0∨∃blk c,γ.loc b=some (blk,c)∧base=some ⟨blk,0,none⟩) →
    ∃base cap,tv=.slice base (l.length:Int).toNat cap∧(0:Int)≤l.length∧∀news,dS w γ.I e (mf l.length) news→news.length=(mf l.length).length*e.size→(∀u∈news,u.oneCell'=true)→(mf l.length).length≤(l.length:Int).toNat →
     ∃w',(match base with|some ad=>storeCells ad news|none=>pure ()).run P w=.ok () w'∧cG B N γ σ1 a w'∧Ext B γ σ.mem w γ σ1.mem w':=by
   intro base cap ZM hb0
   refine⟨base,cap,by simpa using ZM,by omega,fun news hE hn hone hle=>?_⟩
   refine rQ h jl hE hn hone (by omega) (fun fJ l' hb' _ Ak Wj _=>?_) (fun fJ k' l' hb' _ Ak QU _=>?_) ?_
   ·obtain rfl:=Option.some.inj (hb.symm.trans hb')
    rw[kJ] at Wj
    cases Wj
    omega
   ·obtain rfl:=Option.some.inj (hb.symm.trans hb')
    rw[g1] at Ak;cases Ak
   ·rcases hb0 with hb0|⟨blk,c,q1,q2⟩
    ·left;exact List.eq_nil_of_length_eq_zero (by omega)
    ·right;exact⟨blk,c,q1,by rw[q2];simp[cz]⟩
  rcases g3 with ⟨g3,g4⟩|⟨blk,cap,g3,g4⟩
  ·obtain g4:tv=_:=by simpa using g4
   rw[cw,g1] at pR
   obtain⟨e2,l2,j1,j2,j3⟩:=pR
   rw[kJ] at j1
   cases j1
   rcases j3 with ⟨_,j4⟩|⟨_,_,_,_,_,j3,_⟩
   ·exact fin (base:=none) (cap:=0) (by rw[g4,j4];rfl) (.inl (by rw[j4];rfl))
   ·rw[g3] at j3;cases j3
  ·exact fin (List.head_eq_of_cons_eq g4) (.inr ⟨blk,cap,g3,rfl⟩)
 ·rename_i b ax q u k lo n
  obtain⟨σ1,jl,hr2⟩:=bind_some hr
  obtain rfl:=Option.some.inj hr2
  have Ki:∃bx,σ.mem b=some bx∧bx.ax=ax:=by
   unfold iw at jl
   split at jl
   ·rename_i bx hb
    obtain⟨hcd,_⟩:=aA jl
    simp only[Bool.and_eq_true] at hcd
    exact⟨bx,hb,Nat.eq_of_beq_eq_true hcd.1.1⟩
   ·cases jl
  obtain⟨bx,hb,aZ⟩:=Ki
  obtain⟨hq,blk,c,g1,g3,g4,g5,base,cap,g6,g7,g9⟩:=aW hb aZ hv.2
  refine⟨base,cap,by simpa using g6,g4,fun news hE hn hone hle=>?_⟩
  dsimp only at hE hn hle
  refine rQ h jl hE hn hone g3 (fun fJ l hb' _ Ak kJ YQ=>absurd YQ hq) (fun fJ k' l hb' _ Ak QU UO=>?_) ?_
  ·simp only[Bool.and_eq_true] at UO
   have:=Nat.eq_of_beq_eq_true UO.1
   omega
  ·rcases g9 with g9|g10
   ·left
    exact List.eq_nil_of_length_eq_zero (by rw[g9,show(0:Int).toNat=0 from rfl] at hle;rw[g9];omega)
   ·by_cases hm:mf n=[]
    ·exact .inl hm
    ·right
     have he:u=e:=by
      unfold iw at jl
      rw[hb] at jl
      obtain⟨_,iR⟩:=aA jl
      split at iR
      ·split at iR
       ·exact absurd rfl hq
       ·cases iR
      ·obtain⟨old,QU,qM⟩:=bind_some iR
       split at qM
       case h_2=>cases qM
       obtain⟨UO,Mq⟩:=aA qM
       split at Mq
       case h_2=>cases Mq
       rename_i m' hm'
       obtain⟨QA,_⟩:=ji hm'
       simp only[Bool.and_eq_true] at UO
       exact(Ty.eq_of_beq UO.2).trans QA.symm
     subst he
     exact⟨blk,c,g1,g10⟩
 ·cases hr
theorem Ew{I:Nat→Nat→Prop}{e:Ty}{m:List e.den}{v:Value}(h:wz w I e m v)(n:Nat)(hn:n≤m.length) :
  ∃news,(Builtin.firstCells e.size n v).run P w=.ok news.toArray w∧news.length=n*e.size∧(∀u∈news,u.oneCell'=true)∧dS w I e (m.take n) news∧(Builtin.lenOf v).run P w=.ok m.length w:=by
 rcases h with ⟨rfl,base,cap,r1,r2,r3⟩|⟨blk,off,cap,r1,r2,r3,r4⟩
 ·obtain rfl:n=0:=by simpa using hn
  subst r1
  refine⟨[],?_,by simp,fun u hu=>absurd hu (by simp),fun i x hx=>absurd hx (by simp),rfl⟩
  cases base with
  | none=>rfl
  | some ad=>exact run_firstCells_some w e.size 0 ad 0 cap [] (by simp) (fun j v hj=>by cases hj)
 ·obtain⟨news,n1,n2,n3,n4⟩:=za (w:=w) (l:=m.take n) fun i x hx=>by
   rw[List.getElem?_take] at hx
   split at hx
   ·exact r4 i x hx
   ·cases hx
  rw[List.length_take,Nat.min_eq_left hn] at n1
  refine⟨news,?_,n1,n3,n4,by rw[r1];rfl⟩
  rw[r1]
  exact run_firstCells_some w e.size n _ m.length cap news n1 (fun j u hj=>by rw[addr_add];exact n2 j u hj)
theorem Ex{I:Nat→Nat→Prop}{s:List UInt8}(n:Nat)(hn:n≤s.length) :
  ∃news,(Builtin.firstCells 1 n (.string ⟨s.toArray⟩)).run P w=.ok news.toArray w∧news.length=n∧(∀u∈news,u.oneCell'=true)∧dS w I (.int .u8) ((ai s).take n:List Int) news∧(Builtin.lenOf (.string ⟨s.toArray⟩)).run P w=.ok (ai s).length w:=by
 refine⟨(s.take n).map fun b=>Value.int .u8 b.toNat,?_,by simp[hn],fun u hu=>?_,fun i x hx=>?_,?_⟩
 ·simp only[Builtin.firstCells,Sem.run_pure]
  congr 1
  apply Array.ext'
  have e1:(⟨s.toArray⟩:ByteArray).extract 0 n=⟨(s.take n).toArray⟩:=by
   have:=J8 s (i:=0) (j:=n) (by omega) (by omega)
   simpa [sub,minus] using this
  rw[e1]
  simp
 ·obtain⟨_,_,rfl⟩:=List.mem_map.1 hu;rfl
 ·have hx':((ai s).take n)[i]?=some x:=hx
  rw[List.getElem?_take] at hx'
  split at hx'
  ·rename_i hi
   simp only[ai,List.getElem?_map] at hx'
   cases hb:s[i]? with
   | none=>rw[hb] at hx';cases hx'
   | some b =>
     rw[hb] at hx'
     obtain rfl:(b.toNat:Int)=x:=Option.some.inj hx'
     refine⟨?_,IC b⟩
     apply List.ext_getElem?
     intro j
     rw[List.getElem?_take]
     split
     ·rename_i hj
      obtain rfl:j=0:=by simp[Ty.size] at hj;exact hj
      rw[List.getElem?_drop]
      simp[Ty.size,hb,hi]
     ·rename_i hj
      obtain⟨k,rfl⟩:∃k,j=k+1:=⟨j-1,by simp[Ty.size] at hj;omega⟩
      simp
  ·cases hx'
 ·simp[Builtin.lenOf,ai,ByteArray.size]
theorem ue(s:List UInt8):(ai s).length=s.length:=List.length_map ..
theorem QV{s:List UInt8}{n:Nat}(h:n≤(ai s).length):n≤s.length:=by rw[ue] at h;exact h
theorem Mx(hm:bz B γ σ.mem w){e:Ty}{m:List e.den}{x:aQ}{v:Value}(hv:b8 γ σ.mem w x .val [v])(h:rI e σ x=some m)(n:Nat)(hn:n≤m.length) :
  ∃news,(Builtin.firstCells e.size n v).run P w=.ok news.toArray w∧news.length=n*e.size∧(∀u∈news,u.oneCell'=true)∧dS w γ.I e (m.take n) news∧(Builtin.lenOf v).run P w=.ok m.length w:=by
 unfold rI at h
 split at h
 ·rename_i t
  obtain⟨q,hq⟩:=ji h
  subst q;subst hq
  obtain⟨ev,_⟩:=td hv
  rw[ev]
  have hn':n≤List.length (α:=UInt8) t:=QV hn
  obtain⟨news,n1,n2,n3,n4,n5⟩:=Ex (P:=P) (w:=w) (I:=γ.I) (s:=t) n hn'
  exact⟨news,n1,by rw[n2];simp[Ty.size],n3,n4,n5⟩
 ·exact Ew (oE hm hv h) n hn
theorem Ey(hc:eG P cx){tt tx ty:TypeId}{t x:Operand}(h:cG B N γ σ a w)(hd:∀k,d=some k→k<N)(hr:(tQ cx d tt (cq σ t) (cq σ x) σ).run=some σ') :
  mb P B N γ σ a w d (Builtin.copy_ #[tt,tx] ty #[a.eval t,a.eval x]) σ':=by
 unfold tQ at hr
 split at hr
 case h_2=>cases hr
 rename_i e hT
 split at hr
 case h_1=>cases hr
 rename_i m hm
 obtain⟨r,jl,hr2⟩:=bind_some hr
 obtain rfl:=Option.some.inj hr2
 obtain⟨eB,k1,k2,k3,k4⟩:=(hc.T _ _ hT).slice
 obtain⟨base,cap,c1,c2,c3⟩:=Al (P:=P) h (h.cq t) jl
 have hlen:(bP (α:=e.den) m r.1).length=Nat.min m.length r.1.toNat:=by
  simp only[bP,List.length_take];exact Nat.min_comm _ _
 obtain⟨news,n1,n2,n3,n4,n5⟩:=Mx (P:=P) h.ok (h.cq x) hm (Nat.min m.length r.1.toNat) (Nat.min_le_left _ _)
 have Wk:(m.take (Nat.min m.length r.1.toNat))=bP (α:=e.den) m r.1:=by
  simp only[bP]
  rcases Nat.le_total m.length r.1.toNat with hle|hle
  ·rw[show Nat.min m.length r.1.toNat=m.length from Nat.min_eq_left hle,List.take_of_length_le (Nat.le_refl _),List.take_of_length_le hle]
  ·rw[show Nat.min m.length r.1.toNat=r.1.toNat from Nat.min_eq_right hle]
 rw[Wk] at n4
 obtain⟨w',s1,s2,s3⟩:=c3 news n4 (by rw[n2,hlen]) n3 (by rw[hlen];exact Nat.min_le_right _ _)
 have hmax:(bP (α:=e.den) m r.1).length≤maxLen:=by
  rcases Nat.eq_zero_or_pos (bP (α:=e.den) m r.1).length with h0|h0
  ·omega
  ·rw[hlen]
   refine Nat.le_trans (Nat.min_le_left _ _) ?_
   have hv:=h.cq x
   unfold rI at hm
   split at hm
   ·rename_i s hs
    obtain⟨q,hq⟩:=ji hm
    subst q;subst hq
    rw[hs] at hv
    obtain⟨_,h2⟩:=td hv
    exact Nat.le_trans (Nat.le_of_eq (ue s)) h2
   ·rcases oE h.ok hv hm with ⟨rfl,_⟩|⟨_,_,cap,_,h2,h3,_⟩
    ·exact Nat.zero_le _
    ·exact Nat.le_trans h2 h3
 refine⟨goInt (bP (α:=e.den) m r.1).length,w',γ,?_,?_,?_⟩
 ·have hsz:=k2.sizeOf w
  simp only[Builtin.copy_,c1]
  simp only[List.getElem?_toArray,List.getElem?_cons_zero,List.getElem?_cons_succ,Sem.run_bind,run_underlying k1,Result.andThen_ok,n5,hsz,n1,hlen]
  cases base with
  | none=>simp only[Sem.run_pure,Result.andThen_ok] at s1⊢;injection s1 with _ s1;subst s1;rfl
  | some ad=>simp only at s1⊢;simp only[Sem.run_bind,s1,Result.andThen_ok,Sem.run_pure]
 ·have h9:(maxLen:Int)≤IntKind.i64.max:=by decide
  have h8:IntKind.i64.min≤0:=by decide
  have:=s2.rN hd (v:=.data (.int .i64) (len (bP (α:=e.den) m r.1))) (val:=goInt (bP (α:=e.den) m r.1).length) (mkInt ⟨by simp only[len];omega,by simp only[len];omega⟩)
  exact this
 ·cases d<;>exact s3
theorem Dp(hc:eG P cx){tt ty:TypeId}{t:Operand}(h:cG B N γ σ a w)(hr:(tT cx tt (cq σ t) σ).run=some σ') :
  mb P B N γ σ a w none (Builtin.clear_ #[tt] ty #[a.eval t]) σ':=by
 unfold tT at hr
 split at hr
 case h_2=>cases hr
 rename_i e hT
 obtain⟨r,jl,hr2⟩:=bind_some hr
 obtain rfl:=Option.some.inj hr2
 obtain⟨eB,k1,k2,k3,k4⟩:=(hc.T _ _ hT).slice
 obtain⟨base,cap,c1,c2,c3⟩:=Al (P:=P) h (h.cq t) jl
 have hlen:(qc r.1 e.zero).length=r.1.toNat:=by simp[qc]
 obtain⟨z,z1,z2⟩:=k2.zero w
 have hz:=rP z2 k4 r.1.toNat
 have SL:=mA w γ.I (.arr r.1.toNat e)
 have hcells:(Builtin.zeroCells z.cells r.1.toNat).toList=eC (.arr r.1.toNat e):=by
  have hzl:z.cells.size=e.size:=by rw[←dF e,←z2];simp
  rw[←hz]
  simp only[Builtin.zeroCells,madeCells,hzl]
 obtain⟨w',s1,s2,s3⟩:=c3 (eC (.arr r.1.toNat e)) (fun i x hx=>SL.2.2 i x hx) (by rw[dF,hlen];rfl) (fun u hu=>SL.one u hu) (Nat.le_of_eq hlen)
 refine⟨.tuple #[],w',γ,?_,s2,s3⟩
 simp only[Builtin.clear_,c1]
 simp only[List.getElem?_toArray,List.getElem?_cons_zero,Sem.run_bind,run_underlying k1,Result.andThen_ok]
 cases base with
 | none=>simp only[Sem.run_pure,Result.andThen_ok] at s1⊢;injection s1 with _ s1;subst s1;rfl
 | some ad =>
   simp only at s1
   by_cases h0:r.1.toNat=0
   ·have:eC (.arr r.1.toNat e)=[]:=List.eq_nil_of_length_eq_zero (by rw[dF];simp[Ty.size,h0])
    rw[this] at s1
    injection s1 with _ s1
    subst s1
    rw[h0]
    simp only[Sem.run_pure,Result.andThen_ok]
   ·obtain⟨k,hk⟩:∃k,r.1.toNat=k+1:=⟨r.1.toNat-1,by omega⟩
    rw[hk] at s1 hcells⊢
    simp only[Sem.run_bind,z1,Result.andThen_ok,hcells,s1,Sem.run_pure]
theorem Am{least:Bool}{p q r:aQ}{u v:Value}(hu:b8 γ σ.mem w p .val [u])(hv:b8 γ σ.mem w q .val [v])(hr:(Ip least p q).run=some r) :
  ∃z,((if least then Builtin.min2 u v else Builtin.max2 u v)).run P w=.ok z w∧b8 γ σ.mem w r .val [z]:=by
 unfold Ip at hr
 split at hr
 ·rename_i k n k' m
  obtain⟨hk,hr2⟩:=aA hr
  obtain rfl:=tO hk
  obtain rfl:=Option.some.inj hr2
  obtain⟨rfl,h1⟩:=qd hu
  obtain⟨rfl,h2⟩:=qd hv
  have cmp:∀n m:Int,k.min≤n∧n≤k.max→k.min≤m∧m≤k.max→b8 γ σ.mem w (.data (.int k) (Uy n m)) .val [.int k (if m<n then m else n)]∧b8 γ σ.mem w (.data (.int k) (imax n m)) .val [.int k (if m > n then m else n)]:=by
   intro n m h1 h2
   constructor
   ·unfold Uy
    by_cases hlt:m<n
    ·simp only[hlt,decide_true,cond_true,if_true];exact mkInt h2
    ·simp only[hlt,decide_false,cond_false,if_false];exact mkInt h1
   ·unfold imax
    by_cases hlt:n<m
    ·simp only[hlt,decide_true,cond_true,gt_iff_lt,if_true];exact mkInt h2
    ·simp only[hlt,decide_false,cond_false,gt_iff_lt,if_false];exact mkInt h1
  cases least with
  | true=>exact⟨_,rfl,(cmp n m h1 h2).1⟩
  | false=>exact⟨_,rfl,(cmp n m h1 h2).2⟩
 ·cases hr
end
end Go.Ge
namespace Go.Ge
set_option linter.unusedVariables false
set_option linter.unusedSimpArgs false
open RowKit
section
variable {P:Program} {B:nY} {N:Nat} {γ:Gh} {σ σ':St} {a:Act} {w w':World} {d:Option Nat} {cx:Ctx} {nb:Nat} {bf:List Nat} {inl:Nat→List aQ→St→Tree (aQ×St)}
theorem IJ{f:Operand→aQ}{l:List Operand}{x:aQ}(h:l.map f=[x]):∃o,l=[o]∧f o=x:=by
 cases l with
 | nil=>cases h
 | cons o r=>cases r with
   | nil=>exact⟨o,rfl,by simpa using h⟩
   | cons p r=>simp at h
theorem DR{f:Operand→aQ}{l:List Operand}{x y:aQ}(h:l.map f=[x,y]):∃o p,l=[o,p]∧f o=x∧f p=y:=by
 cases l with
 | nil=>cases h
 | cons o r =>
   obtain⟨p,hp,hq⟩:=IJ (l:=r) (f:=f) (x:=y) (by simp at h⊢;exact h.2)
   subst hp
   exact⟨o,p,rfl,by simp at h;exact h.1,hq⟩
theorem eA{α:Type}{a:Array α}{l:List α}(h:a.toList=l):a=l.toArray:=by rw[←h]
theorem O0{α:Type}(k:Value→Array Value→Sem α)(x:Value)(xs:Array Value):(match(#[x]++xs)[0]? with|some recv=>k recv ((#[x]++xs).extract 1 (#[x]++xs).size)|x=>stuck "call: a method without a receiver")=k x xs.toList.toArray:=by
 have h0:(#[x]++xs)[0]?=some x:=by rw[←Array.getElem?_toList,Array.toList_append];rfl
 have h1:(#[x]++xs).extract 1 (#[x]++xs).size=xs.toList.toArray:=by
  apply Array.ext'
  rw[Array.toList_extract,Array.toList_append,Array.size_append]
  simp[List.extract]
  rw[←Array.length_toList,List.take_length]
 rw[h0,h1]
theorem My(hc:eG P cx)(dG:mC P B.G cx)(jK:sI P B.G inl){o:Oper}{c:Call}(ho:o.op=.call c)(h:cG B N γ σ a w)(hd:∀k,o.dst=some k→k<N)
  (hr:(rJ cx nb bf inl o.dst o.type c σ).run=some σ') {K:Act→World→Prop} {Q:Exit→Act→World→Prop} (hK:Ai B N γ σ a w o.dst σ' K):o.wp P a w K Q:=by
 unfold rJ at hr
 split at hr
 ·rename_i b Ez
  split at hr
  ·
   rename_i x t hx ht
   obtain⟨ox,Qj,rfl⟩:=IJ hx
   cases hlt:N1 (find cx.T t) (cq σ ox) with
   | false =>
     rw[hlt] at hr
     simp only[cond_false] at hr
     split at hr
     ·rename_i e b ax q u k lo n he hx
      obtain⟨hl,hr2⟩:=aA hr
      simp only[Bool.and_eq_true,decide_eq_true_eq] at hl
      obtain rfl:=Option.some.inj hr2
      obtain⟨bx,pR,aZ⟩:=jD hl.1
      have hv:=h.cq ox
      rw[hx] at hv
      obtain⟨_,blk,c',g1,g2,g3,g4,base,cap,g5,g6,g7⟩:=aW pR aZ hv.2
      obtain g5:a.eval ox=_:=by simpa using g5
      refine bJ (s:=Builtin.len_ c.argTypes o.type (c.args.map a.eval)) ?_ (bG h hd (x:=.int .i64 n) ?_ (mkInt ?_)) hK
      ·unfold execOp
       simp only[ho,resolve,Ez,invoke,builtin]
       rfl
      ·rw[eA Qj,eA ht,show Array.map a.eval [ox].toArray=#[a.eval ox] from by simp,g5]
       simp[Builtin.len_,run_underlying (yZ hc he).1,Int.toNat_of_nonneg g3]
       rfl
      ·exact⟨Int.le_trans (by decide) g3,Int.le_trans hl.2 (by decide)⟩
     ·exact absurd hr (by intro k;cases k)
   | true =>
   have hr2:(match lenOf σ (cq σ ox) with|some n=>Tree.ret (σ.aR o.dst (.data (.int .i64) n))|none=>.fail).run=some σ':=by rw[hlt] at hr;exact hr
   split at hr2
   ·rename_i n hn
    obtain rfl:=Option.some.inj hr2
    obtain⟨l1,l2⟩:=Kh (ty:=o.type) hc h.ok (h.cq ox) hlt hn
    refine bJ (s:=Builtin.len_ c.argTypes o.type (c.args.map a.eval)) ?_ (bG h hd (x:=.int .i64 n) ?_ (mkInt l2)) hK
    ·unfold execOp
     simp only[ho,resolve,Ez,invoke,builtin]
     rfl
    ·rw[eA Qj,eA ht,show Array.map a.eval [ox].toArray=#[a.eval ox] from by simp];exact l1
   ·exact absurd hr2 (by intro k;cases k)
  ·rename_i s x t u hx ht
   obtain⟨os,ox,Qj,rfl,rfl⟩:=DR hx
   have key:(∃e,P.underlying u=some (.slice e))∨P.underlying u=some .string→(fP cx nb o.dst t (cq σ os) (cq σ ox) σ).run=some σ'→o.wp P a w K Q:=by
    intro hk hr2
    refine bJ (s:=Builtin.append_ c.argTypes o.type (c.args.map a.eval)) ?_ ?_ hK
    ·unfold execOp
     simp only[ho,resolve,Ez,invoke,builtin]
     rfl
    ·rw[eA Qj,eA ht,show Array.map a.eval [os,ox].toArray=#[a.eval os,a.eval ox] from by simp]
     exact BJ hc h hd hk hr2
   split at hr
   ·rename_i hu;exact key (.inr (hc.T _ _ hu).str) hr
   ·rename_i e hu
    obtain⟨eB,f1,_⟩:=(hc.T _ _ hu).slice
    exact key (.inl ⟨eB,f1⟩) hr
   ·exact absurd hr (by intro k;cases k)
  ·rename_i t x tt tx hx ht
   obtain⟨ot,ox,Qj,rfl,rfl⟩:=DR hx
   have key:(tQ cx o.dst tt (cq σ ot) (cq σ ox) σ).run=some σ'→o.wp P a w K Q:=by
    intro hr2
    refine bJ (s:=Builtin.copy_ c.argTypes o.type (c.args.map a.eval)) ?_ ?_ hK
    ·unfold execOp
     simp only[ho,resolve,Ez,invoke,builtin]
     rfl
    ·rw[eA Qj,eA ht,show Array.map a.eval [ot,ox].toArray=#[a.eval ot,a.eval ox] from by simp]
     exact Ey hc h hd hr2
   split at hr
   ·exact key hr
   ·exact key hr
   ·exact absurd hr (by intro k;cases k)
  ·rename_i t tt hx ht
   obtain⟨ot,Qj,rfl⟩:=IJ hx
   split at hr
   ·rename_i Mz
    refine bJ (s:=Builtin.clear_ c.argTypes o.type (c.args.map a.eval)) ?_ ?_ hK
    ·unfold execOp
     simp only[ho,resolve,Ez,invoke,builtin]
     rfl
    ·rw[eA Qj,eA ht,show Array.map a.eval [ot].toArray=#[a.eval ot] from by simp,Mz]
     exact Dp hc h hr
   ·exact absurd hr (by intro k;cases k)
  ·rename_i x y hx
   obtain⟨ox,oy,Qj,rfl,rfl⟩:=DR hx
   obtain⟨v,hb,hr2⟩:=bind_some hr
   obtain rfl:=Option.some.inj hr2
   obtain⟨z,z1,z2⟩:=Am (P:=P) (h.cq ox) (h.cq oy) hb
   refine bJ (s:=Builtin.min_ c.argTypes o.type (c.args.map a.eval)) ?_ (bG h hd (x:=z) ?_ z2) hK
   ·unfold execOp
    simp only[ho,resolve,Ez,invoke,builtin]
    rfl
   ·rw[eA Qj,show Array.map a.eval [ox,oy].toArray=#[a.eval ox,a.eval oy] from by simp]
    simp only[if_true] at z1
    simp[Builtin.min_,z1]
  ·rename_i x y hx
   obtain⟨ox,oy,Qj,rfl,rfl⟩:=DR hx
   obtain⟨v,hb,hr2⟩:=bind_some hr
   obtain rfl:=Option.some.inj hr2
   obtain⟨z,z1,z2⟩:=Am (P:=P) (h.cq ox) (h.cq oy) hb
   refine bJ (s:=Builtin.max_ c.argTypes o.type (c.args.map a.eval)) ?_ (bG h hd (x:=z) ?_ z2) hK
   ·unfold execOp
    simp only[ho,resolve,Ez,invoke,builtin]
    rfl
   ·rw[eA Qj,show Array.map a.eval [ox,oy].toArray=#[a.eval ox,a.eval oy] from by simp]
    simp only[Bool.false_eq_true,if_false] at z1
    simp[Builtin.max_,z1]
  ·exact absurd hr (by intro k;cases k)
 ·rename_i f Ez
  split at hr
  ·rename_i fid caps hf
   obtain⟨Wl,hr2⟩:=aA hr
   have hv:=h.cq f
   rw[hf] at hv
   obtain⟨arr,v1,v2,v3⟩:=hv
   obtain v1:=List.head_eq_of_cons_eq v1
   have QW:jR γ σ.mem w (caps.map fun b=>.ptr b.1 b.2 []) arr.toList:=by
    refine⟨by simpa using v2,fun i v x h1 h2=>?_⟩
    rw[List.getElem?_map] at h1
    cases hi:caps[i]? with
    | none=>rw[hi] at h1;cases h1
    | some bv =>
      rw[hi] at h1
      obtain rfl:=Option.some.inj h1
      have hl:=List.all_eq_true.1 Wl bv (List.mem_of_getElem? hi)
      obtain⟨bx,hb,aZ⟩:=jD hl
      have XR:=v3 i bv.1 bv.2 (by rw[hi])
      obtain⟨blk,cap,g1,g2⟩:=aW hb aZ XR
      have hx:x=.pointer (some ⟨blk,0,none⟩):=by
       have:arr[i]?=some x:=by simpa using h2
       rw[g2] at this
       exact(Option.some.inj this).symm
      subst hx
      exact⟨⟨_,rfl,rfl⟩,bx,hb,Nat.le_of_eq aZ.symm,fun _=>⟨blk,cap,g1,rfl⟩⟩
   have hall:jR γ σ.mem w (c.args.toList.map (cq σ)++caps.map fun b=>.ptr b.1 b.2 []) (c.args.map a.eval++arr).toList:=by
    rw[Array.toList_append,Array.toList_map]
    exact(Hv h).append QW
   refine Eu (f:=fid) (xs:=c.args.map a.eval++arr) ?_ (Gw dG jK h hd hall hr2 hK)
   unfold execOp
   simp only[ho,resolve,Ez,Deferred.ofValue,v1,Sem.run_bind,Sem.run_pure,Result.andThen_ok,invoke]
   simp
  ·exact absurd hr (by intro k;cases k)
 ·
  rename_i r name Ez
  unfold oC at hr
  split at hr
  ·rename_i cn Wm
   split at hr
   ·rename_i x σ1 hx
    obtain⟨y,hy,hr2⟩:=bR hr
    obtain rfl:=Option.some.inj hr2
    have hall:jR γ σ.mem w (cq σ r::c.args.toList.map (cq σ)) (a.eval r::(c.args.map a.eval).toList):=by
     rw[Array.toList_map]
     exact Hv (ops:=r::c.args.toList) h
    obtain⟨ij,s1,s2,s3⟩:=oZ h hall hx
    obtain⟨f,u,e1,e2,e3⟩:=dG.inv name cn Wm ij.I w (a.eval r) _ x y (fun b o hi=>s1.ok.qu b o hi) s1.ok.Is s3 hy
    refine Eu (f:=f) (xs:=(u::(c.args.map a.eval).toList).toArray) ?_ ⟨e2,e3.mono fun e w' hw=>?_⟩
    ·rw[←e1]
     unfold execOp
     simp only[ho,resolve,Ez,Sem.run_bind,Sem.run_pure,Result.andThen_ok,invoke]
     exact congrArg (fun z:Sem Next=>z.run P w) (O0 (fun v=>callMethod v name) (a.eval r) (Array.map a.eval c.args))
    ·obtain⟨v,I',h1,h2,h3,h4,h5,h6⟩:=hw
     refine⟨v,h1,?_⟩
     obtain⟨m1,m2⟩:=s1.ok.Xe (I':=I') h2 h3 h4 h5
     refine hK ⟨I',ij.loc⟩ _ w' (s1.aR m2 m1 hd (h6.rep (fun _ _ hi=>hi))) ?_
     cases o.dst<;>exact s2.trans m2
   ·exact absurd hr (by intro k;cases k)
  ·exact absurd hr (by intro k;cases k)
theorem Kj{I:Nat→Nat→Prop}{tid:TypeId}{u:Nat}:∀{t:Ty} {a:Ty} {f:a.den→t.den},Den P t tid→JW t u=some ⟨a,f⟩ →
  P.concrete u=true∧∀(y:a.den) (cs:List Value),bE w I a y cs→bE w I t (f y) [.iface u (bQ a cs)]:=by
 intro t
 induction t with
 | alt n a r iQ ihr =>
   intro b f hd h
   unfold JW at h
   obtain⟨h1,h2⟩:=hd.rest
   cases hn:Nat.beq n u with
   | true =>
     rw[hn] at h
     obtain rfl:=Nat.eq_of_beq_eq_true hn
     cases h
     exact⟨h2,fun y cs hy=>⟨h1.Qv hd,cs,rfl,hy⟩⟩
   | false =>
     rw[hn] at h
     simp only[cond_false] at h
     split at h
     ·rename_i b' g hg
      cases h
      obtain⟨k1,k2⟩:=ihr h1 hg
      exact⟨k1,fun y cs hy=>k2 y cs hy⟩
     ·cases h
 | _=>intro b f hd h;cases h
theorem Tf{tid:TypeId}{u:Nat}{t:Ty}{a:Ty}{f:a.den→t.den}(hd:Den P t tid)(h:JW t u=some ⟨a,f⟩):t.isAgg=false:=by
 cases t with
 | alt n b r=>simp only[Den,eK,Bool.and_eq_true] at hd;exact(Ty.Ea hd.2).2
 | _=>cases h
theorem Dq(hc:eG P cx){ty u:TypeId}{x:Operand}(h:cG B N γ σ a w)(hd:∀k,d=some k→k<N)(hr:(oB cx d ty u (cq σ x) σ).run=some σ') :
  mb P B N γ σ a w d (Instr.makeInterface u (a.eval x)) σ':=by
 unfold oB at hr
 split at hr
 ·rename_i t ht
  have Gx:=hc.T _ _ ht
  split at hr
  ·rename_i b f hf
   split at hr
   ·rename_i y σ1 hg
    obtain rfl:=Option.some.inj hr
    obtain⟨ij,s1,s2,cs,s3,s4⟩:=jZ h (h.cq x) hg
    obtain⟨k1,k2⟩:=Kj (w:=w) (I:=ij.I) Gx hf
    have ZN:a.eval x=bQ b cs:=by simpa using s4
    have hag:=Tf Gx hf
    refine⟨.iface u (a.eval x),w,ij,run_makeInterface w u _ k1,s1.rN hd ⟨_,k2 y cs s3,?_⟩,?_⟩
    ·rw[ZN]
     unfold bQ
     rw[hag];rfl
    ·cases d<;>exact s2
   ·exact absurd hr (by intro k;cases k)
  ·exact absurd hr (by intro k;cases k)
 ·exact absurd hr (by intro k;cases k)
theorem Kk{o:Oper}{s:Sem Unit}{K:Act→World→Prop}{Q:Exit→Act→World→Prop}(hs:execOp a.eval o=(do s;pure .skip))(Mz:o.dst=none)
  (h:∃w' γ',s.run P w=.ok () w'∧cG B N γ' σ' a w'∧Ext B γ σ.mem w γ' σ'.mem w') (hK:Ai B N γ σ a w o.dst σ' K):o.wp P a w K Q:=by
 obtain⟨w',γ',h1,h2,h3⟩:=h
 unfold Oper.wp
 rw[hs]
 simp only[Sem.run_bind,h1,Result.andThen_ok,Sem.run_pure,Oper.upon_skip]
 exact hK γ' _ w' (by rw[Mz];exact h2) h3
theorem zh{d:Option Nat}{k:Nat}(h:JV bf d=some k):d=some k∧cT bf k=true:=by
 unfold JV at h
 split at h
 ·rename_i d
  cases hb:cT bf d with
  | false=>rw[hb] at h;cases h
  | true=>rw[hb] at h;obtain rfl:=Option.some.inj h;exact⟨rfl,hb⟩
 ·cases h
theorem EA(hc:eG P cx)(dG:mC P B.G cx)(jK:sI P B.G inl){o:Oper}(h:cG B N γ σ a w)(hd:∀k,o.dst=some k→k<N)
  (hr:(mW cx nb bf inl o σ).run=some σ') {K:Act→World→Prop} {Q:Exit→Act→World→Prop} (hK:Ai B N γ σ a w o.dst σ' K):o.wp P a w K Q:=by
 unfold mW at hr
 split at hr
 case h_1 x ho=>exact bJ (s:=pure (a.eval x)) (by simp only[execOp,ho];rfl) (tZ hc h hd hr) hK
 case h_2 x ho=>exact bJ (s:=pure (a.eval x)) (by simp only[execOp,ho];rfl) (tZ hc h hd hr) hK
 case h_3 c x y ho=>exact bJ (s:=do pure (if ←asBool (a.eval c) then a.eval x else a.eval y)) (by simp only[execOp,ho];simp[bind_assoc]) (Eh h hd hr) hK
 case h_4 elem ho =>
  split at hr
  ·rename_i k t hk hT
   rw[hk] at hd
   refine bJ (s:=Instr.alloc elem true (.tuple #[])) (by simp only[execOp,ho]) ?_ hK
   rw[hk]
   exact Di hc h (hd k rfl) hT hr
  ·rename_i k hk hT
   rw[hk] at hd
   refine bJ (s:=Instr.alloc elem true (.tuple #[])) (by simp only[execOp,ho]) ?_ hK
   rw[hk]
   split at hr
   ·rename_i fs hO
    exact Dh hc h (hd k rfl) hO hr
   ·obtain⟨h1,hr2⟩:=aA hr
    exact Dg hc h (hd k rfl) h1 hr2
  ·exact absurd hr (by intro k;cases k)
 case h_5 elem x ho =>
  unfold zQ at hr
  split at hr
  ·exact absurd hr (by intro k;cases k)
  ·exact absurd hr (by intro k;cases k)
  ·rename_i k hk h1 h2
   rw[hk] at hd
   refine bJ (s:=Instr.box elem (a.eval x)) (by simp only[execOp,ho]) ?_ hK
   rw[hk]
   split at hr
   ·exact Gm h (hd k rfl) h1 h2 hr
   ·exact OW h (hd k rfl) h1 h2 hr
  ·exact absurd hr (by intro k;cases k)
 case h_6 t parts ho =>
  refine bJ (s:=Instr.build t (parts.map fun(i,x)=>(i,a.eval x))) (by simp only[execOp,ho]) ?_ hK
  split at hr
  ·rename_i u v hT
   split at hr
   ·rename_i x σ1 hb
    obtain rfl:=Option.some.inj hr
    exact zb hc h hd hT hb
   ·exact absurd hr (by intro k;cases k)
  ·rename_i n e hT
   split at hr
   ·rename_i l σ1 hb
    obtain rfl:=Option.some.inj hr
    exact Af hc h hd hT hb
   ·exact absurd hr (by intro k;cases k)
  ·split at hr
   ·rename_i fs hO
    split at hr
    ·rename_i z0 Uc
     split at hr
     ·rename_i p q hb
      obtain rfl:=Option.some.inj hr
      exact Dk hc h hd hO Uc hb
     ·rename_i u hb
      obtain rfl:=Option.some.inj hr
      exact BF hc h hd hO Uc hb
     ·exact absurd hr (by intro k;cases k)
    ·exact absurd hr (by intro k;cases k)
   ·exact absurd hr (by intro k;cases k)
  ·exact absurd hr (by intro k;cases k)
 case h_7 t n parts ho =>
  refine bJ (s:=Instr.buildSlice t n (parts.map fun(i,x)=>(i,a.eval x))) (by simp only[execOp,ho]) ?_ hK
  split at hr
  ·rename_i e hT
   split at hr
   ·rename_i k bF hparts
    obtain⟨hk,_⟩:=zh bF
    have hp:parts=#[]:=by simpa using hparts
    rw[hk,hp]
    rw[hk] at hd
    rw[Array.map_empty]
    exact BH hc h (hd k rfl) hT hr
   ·obtain⟨hn,hr2⟩:=aA hr
    split at hr2
    ·rename_i l σ1 hb
     obtain rfl:=Option.some.inj hr2
     exact BG hc h hd hT hn hb
    ·exact absurd hr2 (by intro k;cases k)
  ·exact Gp hc h hd hr
  ·exact absurd hr (by intro k;cases k)
 case h_8 t x ho=>exact bJ (s:=Instr.loadAt t (a.eval x)) (by simp only[execOp,ho]) (Ej hc h hd hr) hK
 case h_9 t x y ho =>
  split at hr
  ·rename_i hk
   exact Kk (s:=Instr.storeAt t (a.eval x) (a.eval y)) (by simp only[execOp,ho]) hk (Df hc h hr) hK
  ·exact absurd hr (by intro k;cases k)
 case h_10 x ho =>
  have hv:=h.cq x
  have fin:∀{v:aQ} {y:Value},a.eval x=y→execOp a.eval o=(do pure (.value (←(pure y:Sem Value))))→b8 γ σ.mem w v .val [y]→σ'=σ.aR o.dst v→o.wp P a w K Q:=by
   intro v y he hs UP ZO
   subst ZO
   exact bJ (s:=pure y) hs (bG h hd rfl UP) hK
  split at hr
  ·rename_i b ax p hx
   rw[hx] at hv
   obtain⟨hl,hr2⟩:=aA hr
   obtain⟨bx,hb,aZ⟩:=jD hl
   obtain⟨blk,cap,g1,g2⟩:=aW hb aZ hv.2
   have g2:=List.head_eq_of_cons_eq g2
   rw[g2] at hv
   exact fin g2 (by simp only[execOp,ho,g2];rfl) hv (Option.some.inj hr2).symm
  ·rename_i t y hx
   rw[hx] at hv
   obtain⟨blk,off,cs,g1,g2,g3⟩:=id hv
   have g1:=List.head_eq_of_cons_eq g1
   rw[g1] at hv
   exact fin g1 (by simp only[execOp,ho,g1];rfl) hv (Option.some.inj hr).symm
  ·rename_i f c hx
   rw[hx] at hv
   obtain⟨arr,g1,g2,g3⟩:=id hv
   have g1:=List.head_eq_of_cons_eq g1
   rw[g1] at hv
   exact fin g1 (by simp only[execOp,ho,g1];rfl) hv (Option.some.inj hr).symm
  ·exact absurd hr (by intro k;cases k)
 case h_11 op xt x y pos ho =>
  obtain⟨v,hb,hr2⟩:=bind_some hr
  obtain rfl:=Option.some.inj hr2
  obtain⟨z,z1,z2⟩:=Mk (P:=P) (x:=x) (y:=y) hc (h.cq x) (h.cq y) hb
  refine bJ (s:=fA op xt x y (a.eval x) (a.eval y)) (by simp only[execOp,ho,fA]) (bG h hd z1 z2) hK
 case h_12 op ty x ho =>
  obtain⟨v,hb,hr2⟩:=bind_some hr
  obtain rfl:=Option.some.inj hr2
  obtain⟨z,z1,z2⟩:=QB (P:=P) (h.cq x) hb
  exact bJ (s:=Op.unary op (a.eval x)) (by simp only[execOp,ho]) (bG h hd z1 z2) hK
 case h_13 src dst x ho=>exact bJ (s:=convert src dst (a.eval x)) (by simp only[execOp,ho]) (Ag hc h hd hr) hK
 case h_14 f first caps ho =>
  split at hr
  ·rename_i cs UQ hcs
   obtain rfl:=Option.some.inj hr
   refine bJ (s:=Instr.makeFunc (.func f) #[] (caps.map a.eval)) ?_ (Ek h hd hcs) hK
   have:first=#[]:=by simpa using UQ
   simp only[execOp,ho,this,show Array.map a.eval #[]=#[] from by simp]
  ·exact absurd hr (by intro k;cases k)
 case h_15 t x lo hi ho=>exact bJ (s:=Instr.sliceAt t (a.eval x) (lo.map a.eval) (hi.map a.eval) none) (by simp only[execOp,ho];rfl) (De hc h hd hr) hK
 case h_16 s x k ho=>exact bJ (s:=Instr.fieldAt s (a.eval x) k) (by simp only[execOp,ho]) (yd hc h hd hr) hK
 case h_17 xt x k ho =>
  have hv:=h.cq x
  split at hr
  ·rename_i u y hx
   rw[hx] at hv
   obtain⟨hT,hr2⟩:=aA hr
   split at hr2
   ·rename_i off v hf
    obtain rfl:=Option.some.inj hr2
    obtain⟨z,z1,z2⟩:=J6 (P:=P) hc (gr hT) hv hf
    exact bJ (s:=Instr.field xt (a.eval x) k) (by simp only[execOp,ho]) (bG h hd z1 z2) hK
   ·exact absurd hr2 (by intro k;cases k)
  ·exact absurd hr (by intro k;cases k)
 case h_18 t x i ho =>
  split at hr
  ·rename_i ki n hi
   have hv:=h.cq i
   rw[hi] at hv
   obtain⟨ei,_⟩:=qd hv
   refine bJ (s:=Instr.indexAt t (a.eval x) (a.eval i)) (by simp only[execOp,ho]) ?_ hK
   rw[ei]
   exact ye hc h hd hr
  ·exact absurd hr (by intro k;cases k)
 case h_19 t x i ho =>
  split at hr
  ·rename_i ki n hi
   have hv:=h.cq i
   rw[hi] at hv
   obtain⟨ei,_⟩:=qd hv
   refine bJ (s:=Instr.index t (a.eval x) (a.eval i)) (by simp only[execOp,ho]) ?_ hK
   rw[ei]
   exact Dd hc h hd hr
  ·exact absurd hr (by intro k;cases k)
 case h_20 t l c ho =>
  split at hr
  ·rename_i k e kl ln kc cn hk hT hl Qe
   rw[hk] at hd
   obtain⟨hin,hr2⟩:=b9 hr
   obtain⟨hf,iR⟩:=b9 hr2
   refine bJ (s:=Instr.makeSlice t (a.eval l) (a.eval c)) (by simp only[execOp,ho]) ?_ hK
   rw[hk]
   exact Dm hc h (hd k rfl) hT hl Qe hin hf iR
  ·exact absurd hr (by intro k;cases k)
 case h_21 t k ho =>
  split at hr
  ·rename_i vs hx
   split at hr
   ·rename_i v hn
    obtain rfl:=Option.some.inj hr
    exact bJ (s:=Instr.extract (a.eval t) k) (by simp only[execOp,ho]) (Gn h hd hx hn) hK
   ·exact absurd hr (by intro k;cases k)
  ·exact absurd hr (by intro k;cases k)
 case h_22 c ho=>exact My hc dG jK ho h hd hr hK
 case h_23 u x ho=>exact bJ (s:=Instr.makeInterface u (a.eval x)) (by simp only[execOp,ho]) (Dq hc h hd hr) hK
 case h_24=>exact absurd hr (by intro k;cases k)
end
end Go.Ge
namespace Go.Ge
set_option linter.unusedVariables false
set_option linter.unusedSimpArgs false
open RowKit
def aY(σ σ':St):Prop:=∀b bx,σ.mem b=some bx→bx.lk=true→σ'.mem b=some bx
theorem aY.refl(σ:St):aY σ σ:=fun _ _ h _=>h
theorem aY.trans{σ σ' Tg:St}(h:aY σ σ')(k:aY σ' Tg):aY σ Tg:=fun b bx hb hl=>k b bx (h b bx hb hl) hl
theorem aY.put(σ:St)(d:Nat)(v:aQ):aY σ (σ.put d v):=fun _ _ h _=>h
theorem aY.aR(σ:St)(d:Option Nat)(v:aQ):aY σ (σ.aR d v):=by cases d<;>exact fun _ _ h _=>h
theorem aY.QX{σ σ':St}(h:σ'.mem=σ.mem):aY σ σ':=fun b bx hb _=>by rw[h];exact hb
theorem iT{σ:St}{b:Nat}{bx:bL}(h:∀cK,σ.mem b=some cK→cK.lk=false):aY σ (σ.bX b bx):=fun c cx hc hl=>by
 by_cases e:c=b
 ·subst e;rw[h cx hc] at hl;cases hl
 ·rw[rO,aM _ e];exact hc
theorem j8{β:Type}{σ:St}{b:Nat}{val:aQ}{tid:TypeId}{buf:Bool}{k:Nat→St→Tree β}{y:β}(h:(σ.aL b val tid buf k).run=some y) :
  ∃ax,aY σ (σ.bX b { val,tid,buf,ro:=false,lk:=false,ax })∧(k ax (σ.bX b { val,tid,buf,ro:=false,lk:=false,ax })).run=some y:=by
 unfold St.aL at h
 split at h
 ·rename_i bx hb
  cases hl:bx.lk with
  | true=>rw[hl] at h;cases h
  | false =>
    rw[hl] at h
    exact⟨bx.ax+1,iT (fun cK h0=>by rw[hb] at h0;obtain rfl:=Option.some.inj h0;exact hl),h⟩
 ·rename_i hb
  exact⟨0,iT (fun cK h0=>by rw[hb] at h0;cases h0),h⟩
theorem Cv{σ σ':St}{b:Nat}(h:freeze σ b=some σ'):aY σ σ':=by
 unfold freeze at h
 split at h
 ·rename_i bx hb
  cases hro:bx.ro with
  | true=>simp only[hro,cond_true,Option.some.injEq] at h;rw[←h];exact aY.refl _
  | false =>
    cases hlk:bx.lk with
    | true=>simp[hro,hlk] at h
    | false =>
      simp only[hro,hlk,cond_false,Option.some.injEq] at h
      rw[←h]
      exact iT fun cK h0=>by rw[hb] at h0;obtain rfl:=Option.some.inj h0;exact hlk
 ·cases h
theorem IK:∀{v:aQ} {σ σ':St},fu σ v=some σ'→aY σ σ':=by
 intro v
 induction v with
 | mix p q Mn Ka =>
   intro σ σ' h
   obtain⟨σ1,h1,h2⟩:=sH h
   exact(Mn h1).trans (Ka h2)
 | whole b ax=>intro σ σ' h;exact Cv h
 | part b ax lo n=>intro σ σ' h;exact Cv h
 | _=>intro σ σ' h;obtain rfl:=Option.some.inj h;exact aY.refl _
theorem mD{t:Ty}{x:t.den}{v:aQ}{σ σ':St}(h:vZ σ t v=some (x,σ')):aY σ σ':=by
 unfold vZ at h
 split at h
 ·split at h
  ·obtain⟨_,rfl⟩:=Prod.mk.inj (Option.some.inj h);exact aY.refl _
  ·cases h
 ·split at h
  ·rename_i y σ1 hl hf
   obtain⟨_,rfl⟩:=Prod.mk.inj (Option.some.inj h)
   exact IK hf
  ·cases h
theorem nw:∀{A:Ty} {x:A.den} {vs:List aQ} {σ σ':St},iZ σ A vs=some (x,σ')→aY σ σ':=by
 intro A
 induction A with
 | pair t r D3 ihr =>
   intro x vs σ σ' hl
   cases vs with
   | nil=>cases hl
   | cons v vs =>
     simp only[iZ] at hl
     split at hl
     ·rename_i p σ1 hp
      split at hl
      ·rename_i q σ2 hq
       obtain⟨_,rfl⟩:=Prod.mk.inj (Option.some.inj hl)
       exact(mD hp).trans (ihr hq)
      ·cases hl
     ·cases hl
 | unit =>
   intro x vs σ σ' hl
   cases vs with
   | nil=>obtain⟨_,rfl⟩:=Prod.mk.inj (Option.some.inj hl);exact aY.refl _
   | cons v vs=>cases hl
 | _=>intro x vs σ σ' hl;cases vs<;>cases hl
theorem Dr{t:Ty}:∀{parts:List (Nat×Operand)} {x x':t.den} {σ σ':St},eY σ t x parts=some (x',σ')→aY σ σ':=by
 intro parts
 induction parts with
 | nil=>intro x x' σ σ' h;obtain⟨_,rfl⟩:=Prod.mk.inj (Option.some.inj h);exact aY.refl _
 | cons p r ih =>
   obtain⟨k,o⟩:=p
   intro x x' σ σ' h
   simp only[eY] at h
   split at h
   ·split at h
    ·rename_i hg
     split at h
     ·exact(mD hg).trans (ih h)
     ·cases h
    ·cases h
   ·cases h
theorem wG{e:Ty}:∀{parts:List (Nat×Operand)} {l l':List e.den} {σ σ':St},eT σ e l parts=some (l',σ')→aY σ σ':=by
 intro parts
 induction parts with
 | nil=>intro x x' σ σ' h;obtain⟨_,rfl⟩:=Prod.mk.inj (Option.some.inj h);exact aY.refl _
 | cons p r ih =>
   obtain⟨k,o⟩:=p
   intro l l' σ σ' h
   simp only[eT] at h
   split at h
   ·rename_i hg
    cases hlt:Nat.blt k l.length with
    | false=>rw[hlt] at h;cases h
    | true=>rw[hlt] at h;exact(mD hg).trans (ih h)
   ·cases h
theorem An{b ax:Nat}{p:List Ci}{fit:aQ→Bool}{u:aQ}{σ σ':St}(hr:(storeAt b ax p fit u σ).run=some σ'):aY σ σ':=by
 unfold storeAt at hr
 split at hr
 case h_2=>exact absurd hr (by intro k;cases k)
 rename_i bx hb
 obtain⟨hc,hr2⟩:=aA hr
 simp only[Bool.and_eq_true,Bool.not_eq_true'] at hc
 obtain⟨old,hn,iR⟩:=bind_some hr2
 obtain⟨hfit,qM⟩:=aA iR
 obtain⟨c,hs,Mq⟩:=bind_some qM
 obtain rfl:=Option.some.inj Mq
 exact iT fun cK h0=>by rw[hb] at h0;obtain rfl:=Option.some.inj h0;exact hc.1.2
theorem EB{cx:Ctx}{ty:TypeId}{x y:aQ}{σ σ':St}(hr:(jz cx ty x y σ).run=some σ'):aY σ σ':=by
 unfold jz at hr
 split at hr
 case h_2=>exact absurd hr (by intro k;cases k)
 split at hr
 case h_2=>exact absurd hr (by intro k;cases k)
 obtain⟨aZ,hr2⟩:=aA hr
 obtain⟨old,hn,iR⟩:=bind_some hr2
 split at iR
 ·obtain⟨hT,qM⟩:=aA iR
  split at qM
  ·rename_i hg;exact(mD hg).trans (An qM)
  ·exact absurd qM (by intro k;cases k)
 ·obtain⟨hT,qM⟩:=aA iR
  exact An qM
theorem vB{cx:Ctx}{nb:Nat}{d:Option Nat}{ty:TypeId}{s x:aQ}{σ σ':St}(hr:(fP cx nb d ty s x σ).run=some σ'):aY σ σ':=by
 unfold fP at hr
 split at hr
 case h_2=>exact absurd hr (by intro k;cases k)
 split at hr
 case h_2=>exact absurd hr (by intro k;cases k)
 split at hr
 ·obtain⟨hf,hr2⟩:=b9 hr
  obtain⟨ax,k1,k2⟩:=j8 hr2
  obtain rfl:=Option.some.inj k2
  exact k1.trans (aY.put _ _ _)
 ·split at hr
  case h_2=>exact absurd hr (by intro k;cases k)
  rename_i bx l hb hl
  obtain⟨hlk,jl⟩:=uR hr
  have hlk:=(Bool.or_eq_false_iff.1 hlk).1
  obtain⟨hf,hr2⟩:=b9 jl
  obtain rfl:=Option.some.inj hr2
  exact(iT fun cK h0=>by rw[hb] at h0;obtain rfl:=Option.some.inj h0;exact hlk).trans (aY.put _ _ _)
 ·exact absurd hr (by intro k;cases k)
theorem tj{e:Ty}{m:List e.den}{b ax:Nat}{q:List Ci}{Qr:Nat→Ty→Bool}{lo:Int}{σ σ':St}(hr:(iw e m b ax q Qr lo σ).run=some σ'):aY σ σ':=by
 unfold iw at hr
 split at hr
 case h_2=>exact absurd hr (by intro k;cases k)
 rename_i bx hb
 obtain⟨hc,hr2⟩:=aA hr
 simp only[Bool.and_eq_true,Bool.not_eq_true'] at hc
 have fin:∀{fJ:bL},aY σ (σ.bX b fJ):=fun {fJ}=>iT fun cK h0=>by rw[hb] at h0;obtain rfl:=Option.some.inj h0;exact hc.1.2
 split at hr2
 ·split at hr2
  ·split at hr2
   ·obtain rfl:=Option.some.inj hr2;exact fin
   ·exact absurd hr2 (by intro k;cases k)
  ·exact absurd hr2 (by intro k;cases k)
 ·obtain⟨old,_,iR⟩:=bind_some hr2
  split at iR
  ·obtain⟨_,qM⟩:=aA iR
   split at qM
   ·obtain⟨c,_,Mq⟩:=bind_some qM
    obtain rfl:=Option.some.inj Mq;exact fin
   ·exact absurd qM (by intro k;cases k)
  ·exact absurd iR (by intro k;cases k)
theorem Cw{e:Ty}{mf:Int→List e.den}{t:aQ}{σ:St}{r:Int×St}(hr:(Bs e mf t σ).run=some r):aY σ r.2:=by
 unfold Bs at hr
 split at hr
 ·obtain⟨σ1,h1,h2⟩:=bind_some hr
  obtain rfl:=Option.some.inj h2;exact tj h1
 ·split at hr
  ·obtain⟨σ1,h1,h2⟩:=bind_some hr
   obtain rfl:=Option.some.inj h2;exact tj h1
  ·exact absurd hr (by intro k;cases k)
 ·obtain⟨σ1,h1,h2⟩:=bind_some hr
  obtain rfl:=Option.some.inj h2;exact tj h1
 ·exact absurd hr (by intro k;cases k)
theorem MA{σ:St}:∀{ps:List Bool} {A U:Ty} {vs:List aQ} {x:A.den} {u:U.den} {ns:List Nat},oU σ ps A U vs=some (x,u,ns)→∀b∈ns,∀bx,σ.mem b=some bx→bx.lk=false:=by
 intro ps
 induction ps with
 | nil =>
   intro A U vs x u ns h
   cases A<;>first|(cases h;done)|skip
   cases U<;>first|(cases h;done)|skip
   cases vs with
   | cons v r=>cases h
   | nil =>
     obtain⟨_,q⟩:=Prod.mk.inj (Option.some.inj h)
     obtain⟨_,rfl⟩:=Prod.mk.inj q
     intro b hb;cases hb
 | cons p ps ih =>
   intro A U vs x u ns h
   cases p with
   | false =>
     cases A<;>first|(cases h;done)|skip
     cases vs with
     | nil=>cases h
     | cons v r =>
       simp only[oU] at h
       split at h
       ·rename_i h2
        obtain⟨_,q⟩:=Prod.mk.inj (Option.some.inj h)
        obtain⟨_,rfl⟩:=Prod.mk.inj q
        exact ih h2
       ·cases h
   | true =>
     cases U<;>first|(cases h;done)|skip
     cases vs with
     | nil=>cases h
     | cons v0 r =>
     cases v0<;>first|(cases h;done)|skip
     rename_i b ax XJ
     cases XJ with
     | cons _ _=>cases h
     | nil =>
     simp only[oU] at h
     split at h
     case h_2=>cases h
     rename_i bx hb
     cases hcd:(Nat.beq bx.ax ax&&!bx.buf&&!bx.lk&&!bx.ro&&Nat.beq bx.tid 0) with
     | false=>rw[hcd] at h;cases h
     | true =>
       rw[hcd] at h
       simp only[Bool.and_eq_true,Bool.not_eq_true'] at hcd
       simp only[cond_true] at h
       split at h
       case h_2=>cases h
       rename_i x1 y1 u1 VJ h1 h2
       cases hmn:cT VJ b with
       | true=>rw[hmn] at h;cases h
       | false =>
         rw[hmn] at h
         obtain⟨_,q⟩:=Prod.mk.inj (Option.some.inj h)
         obtain⟨_,rfl⟩:=Prod.mk.inj q
         intro c hc cx XS
         rcases List.mem_cons.1 hc with rfl|hc
         ·rw[hb] at XS;obtain rfl:=Option.some.inj XS;exact hcd.1.1.2
         ·exact ih h2 c hc cx XS
theorem MB:∀{U:Ty} {u:U.den} {ns:List Nat} {c:Nat} {v:aQ},mV U u ns c=some v→c∈ns:=by
 intro U
 induction U with
 | pair t U D3 Mt =>
   intro u ns c v h
   cases ns with
   | nil=>cases h
   | cons b r =>
     simp only[mV] at h
     cases hb:Nat.beq c b with
     | true=>obtain rfl:=Nat.eq_of_beq_eq_true hb;exact List.mem_cons_self ..
     | false=>rw[hb] at h;exact List.mem_cons_of_mem _ (Mt h)
 | _=>intro u ns c v h;cases h
theorem IL{ps:List Bool}{A U:Ty}{vs:List aQ}{x:A.den}{u y:U.den}{ns:List Nat}{σ:St}(h:oU σ ps A U vs=some (x,u,ns)):aY σ (qJ U y ns σ):=fun b bx hb hl=>by
 rw[pS]
 cases hv:mV U y ns b with
 | none=>exact hb
 | some v =>
   have:=MA h b (MB hv) bx hb
   rw[hl] at this;cases this
theorem IM{s:OM}{d:Option Nat}{vals:List aQ}{σ σ':St}(hr:(xH s d vals σ).run=some σ'):aY σ σ':=by
 unfold xH at hr
 split at hr
 ·split at hr
  case h_2=>cases hr
  split at hr
  case h_2=>cases hr
  obtain⟨_,hr2⟩:=aA hr
  obtain rfl:=Option.some.inj hr2
  exact aY.aR _ _ _
 ·split at hr
  case h_2=>cases hr
  split at hr
  case h_2=>cases hr
  obtain⟨_,hr2⟩:=aA hr
  split at hr2
  case h_2=>cases hr2
  rename_i hx VL
  obtain⟨hcd,iR⟩:=aA hr2
  simp only[Bool.and_eq_true,Bool.not_eq_true'] at hcd
  split at iR
  case h_2=>cases iR
  obtain rfl:=Option.some.inj iR
  exact(iT fun cK h0=>by rw[VL] at h0;obtain rfl:=Option.some.inj h0;exact hcd.1.1.2).trans (aY.aR _ _ _)
 ·cases hr
theorem MC{b ax:Nat}:∀{fs:List kK} {j:Nat} {σ:St} {r:aQ×St},(mkObj b ax fs j σ).run=some r→aY σ r.2:=by
 intro fs
 induction fs with
 | nil=>intro j σ r hr;obtain rfl:=Option.some.inj hr;exact aY.refl _
 | cons f q ih =>
   intro j σ r hr
   cases f with
   | buf e eB =>
     obtain⟨_,jl⟩:=aA hr
     obtain⟨ax,k1,k2⟩:=j8 jl
     obtain⟨y,h1,h2⟩:=bind_some k2
     obtain rfl:=Option.some.inj h2
     have:=ih h1
     exact k1.trans this
   | _ =>
     obtain⟨y,h1,h2⟩:=bind_some hr
     obtain rfl:=Option.some.inj h2
     have:=ih h1
     exact this
theorem IP{b:Nat}:∀{fs:List kK} {j:Nat} {v:aQ} {σ:St} {r:aQ×St},(kL b fs j v σ).run=some r→aY σ r.2:=by
 intro fs
 induction fs with
 | nil =>
   intro j v σ r hr
   obtain rfl:=Ct hr
   exact aY.refl _
 | cons f q ih =>
   intro j v σ r hr
   rcases Ae hr with ⟨x,u,y,rfl,h1,rfl⟩|⟨e,eB,u,rfl,he,jl⟩
   ·have:=ih h1;exact this
   ·obtain⟨ax,k1,k2⟩:=j8 jl
    obtain⟨y,h1,h2⟩:=bind_some k2
    obtain rfl:=Option.some.inj h2
    have:=ih h1
    exact k1.trans this
theorem Kl{cx:Ctx}{inl:Nat→List aQ→St→Tree (aQ×St)}(jK:∀f vals σ v σ',(inl f vals σ).run=some (v,σ')→aY σ σ'){d:Option Nat}{f:Nat}{vals:List aQ}{σ σ':St}
  (hr:(s9 cx inl d f vals σ).run=some σ'):aY σ σ':=by
 unfold s9 at hr
 split at hr
 ·split at hr
  ·split at hr
   ·obtain⟨y,hy,hr2⟩:=bR hr
    obtain rfl:=Option.some.inj hr2
    exact aY.aR _ _ _
   ·exact absurd hr (by intro k;cases k)
  ·split at hr
   ·rename_i hx
    obtain⟨y,hy,hr2⟩:=bR hr
    obtain rfl:=Option.some.inj hr2
    exact(nw hx).trans (aY.aR _ _ _)
   ·exact absurd hr (by intro k;cases k)
 ·have Aj:((inl f vals σ).bind fun r=>.ret (r.2.aR d r.1):Tree St).run=some σ'→aY σ σ':=by
   intro hr
   obtain⟨r,jl,hr2⟩:=bind_some hr
   obtain rfl:=Option.some.inj hr2
   exact(jK _ _ _ _ _ jl).trans (aY.aR _ _ _)
  split at hr
  ·exact IM hr
  split at hr
  ·rename_i c YO
   split at hr
   ·rename_i x u ns hx
    obtain⟨y,hy,hr2⟩:=bR hr
    obtain rfl:=Option.some.inj hr2
    exact(IL hx).trans (aY.aR _ _ _)
   ·exact Aj hr
  ·exact Aj hr
theorem EC{nb:Nat}{e:Ty}{d:Option Nat}{vals:List aQ}{σ σ':St}(hr:(jC nb e d vals σ).run=some σ'):aY σ σ':=by
 unfold jC at hr
 split at hr
 case h_2=>cases hr
 split at hr
 case h_2=>cases hr
 rename_i hg
 obtain⟨_,hr⟩:=aA hr
 obtain⟨_,hr⟩:=b9 hr
 obtain⟨ax,k1,k2⟩:=j8 hr
 obtain rfl:=Option.some.inj k2
 exact((mD hg).trans k1).trans (aY.aR _ (some _) _)
theorem IQ{e A:Ty}{res:Bool}{spec:List e.den→A.den→Option (List e.den)}{d:Option Nat}{vals:List aQ}{σ σ':St}(hr:(oV e A res spec d vals σ).run=some σ'):aY σ σ':=by
 unfold oV at hr
 split at hr
 case h_2=>cases hr
 split at hr
 case h_2=>cases hr
 rename_i hg
 split at hr
 case h_2=>cases hr
 rename_i b ax bx l Ue
 obtain⟨l',_,hr⟩:=bR hr
 obtain⟨hb,aZ,bF,hlk,hro,gk,_⟩:=pT Ue
 have key:∀fJ,aY _ (St.bX _ b fJ):=fun fJ=>iT fun cK h0=>by rw[hb] at h0;obtain rfl:=Option.some.inj h0;exact hlk
 cases res with
 | true =>
   cases d with
   | none=>cases hr
   | some k=>obtain rfl:=Option.some.inj hr;exact((nw hg).trans (key _)).trans (aY.aR _ (some _) _)
 | false =>
   cases d with
   | none=>obtain⟨_,hr⟩:=aA hr;obtain rfl:=Option.some.inj hr;exact((nw hg).trans (key _)).trans (aY.aR _ none _)
   | some k=>obtain⟨_,hr⟩:=aA hr;obtain rfl:=Option.some.inj hr;exact((nw hg).trans (key _)).trans (aY.aR _ (some _) _)
theorem IU{cx:Ctx}{nb:Nat}{bf:List Nat}{inl:Nat→List aQ→St→Tree (aQ×St)}(jK:∀f vals σ v σ',(inl f vals σ).run=some (v,σ')→aY σ σ'){d:Option Nat}{f:Nat}{vals:List aQ}{σ σ':St}
  (hr:(qK cx nb bf inl d f vals σ).run=some σ'):aY σ σ':=by
 unfold qK at hr
 split at hr
 ·exact EC hr
 ·exact IQ hr
 ·exact Kl jK hr
end Go.Ge
