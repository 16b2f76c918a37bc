/- A ghost interpreter of the model's code, and that it tells the truth: part 5. It says of a function of plain data what a call of it comes to. -/
import Derived.Test.YtpipdmfkbnbchaaGreatDoorGeD
import Derived.Laws.Build
namespace Go.Ge
set_option linter.unusedVariables false
set_option linter.unusedSimpArgs false
open RowKit
def uV(P:Program)(G:iZ)(inl:Nat→List aS→St→Tree (aS×St)):Prop :=
 ∀(B:qz) (γ:Gh) (σ σ':St) (w:World) (f:Nat) (vals:List aS) (xs:Array Value) (v:aS),B.G=G→bE B γ σ.mem w→lK γ σ.mem w vals xs.toList→(inl f vals σ).run=some (v,σ') →
  (∃fn code,P.funcs[f]?=some fn∧(fn.name == "runtime.NumGoroutine")=false∧fn.body=some code)∧σ'.slots=σ.slots ∧
  Calls P f xs w fun e w'=>∃val γ',e=.returned val∧bE B γ' σ'.mem w'∧Ext B γ σ.mem w γ' σ'.mem w'∧cw γ' σ'.mem w' v .val [val]
section
variable {P:Program} {B:qz} {N:Nat} {γ:Gh} {σ σ':St} {a:Act} {w w':World} {d:Option Nat} {cx:Ctx} {nb:Nat} {bf:List Nat} {inl:Nat→List aS→St→Tree (aS×St)}
def Dm(B:qz)(N:Nat)(γ:Gh)(σ:St)(a:Act)(w:World)(d:Option Nat)(σ':St)(K:Act→World→Prop):Prop :=
 ∀γ' v w',cX B N γ' σ' (a.put d v) w'→Ext B γ σ.mem w γ' σ'.mem w'→K (a.put d v) w'
theorem MK{f:Nat}{fn:Func}{code:Code}(h1:P.funcs[f]?=some fn)(h2:(fn.name == "runtime.NumGoroutine")=false)(h3:fn.body=some code)(args:Array Value)(w:World) :
  (callFunc f args).run P w=.ok (.enter f args) w:=by
 have h2':¬fn.name = "runtime.NumGoroutine":=by simpa using h2
 simp[callFunc,h1,h2',h3]
theorem bR{o:Oper}{s:Sem Value}{K:Act→World→Prop}{Q:Exit→Act→World→Prop}(hs:execOp a.eval o=(do pure (.value (←s))))(h:oJ P B N γ σ a w o.dst s σ')(hK:Dm B N γ σ a w o.dst σ' K):o.wp P a w K Q:=by
 obtain⟨v,w',γ',h1,h2,h3⟩:=h
 unfold Oper.wp
 rw[hs]
 simp only[Sem.run_bind,h1,Result.andThen_ok,Sem.run_pure]
 exact hK γ' _ w' h2 h3
theorem Lw{ops:List Operand}(h:cX B N γ σ a w):lK γ σ.mem w (ops.map (cJ σ)) (ops.map a.eval):=by
 refine⟨by simp,fun i v x h1 h2=>?_⟩
 rw[List.getElem?_map] at h1 h2
 cases ho:ops[i]? with
 | none=>rw[ho] at h1;cases h1
 | some o =>
   rw[ho] at h1 h2
   obtain rfl:=Option.some.inj h1
   obtain rfl:=Option.some.inj h2
   exact h.cJ o
theorem lK.append{mem:Nat→Option bU}{vs us:List aS}{xs ys:List Value}(h:lK γ mem w vs xs)(k:lK γ mem w us ys):lK γ mem w (vs++us) (xs++ys):=by
 refine⟨by simp[h.1,k.1],fun i v x h1 h2=>?_⟩
 rw[List.getElem?_append] at h1 h2
 rw[h.1] at h2
 split at h1
 ·rename_i hi
  rw[if_pos hi] at h2
  exact h.2 i v x h1 h2
 ·rename_i hi
  rw[if_neg hi] at h2
  exact k.2 _ v x h1 h2
theorem bE.drop{mem:Nat→Option bU}{w':World}(h:bE B γ mem w){b:Nat}{dh bx:bU}(hb:mem b=some dh)(bt:dh.aC<bx.aC)(hw:tZ B w w')
  (hold:∀k,k<w.heap.size→(∀c,γ.loc b≠some (k,c))→w'.heap[k]?=w.heap[k]?) (hcell:∀k o,k<w.heap.size→w'.cell? ⟨k,o,none⟩=w.cell? ⟨k,o,none⟩)
  (jj:cP (bI γ b none) (cE mem b bx) w' b bx):bE B (bI γ b none) (cE mem b bx) w'∧Ext B γ mem w (bI γ b none) (cE mem b bx) w':=by
 have hx:Ext B γ mem w (bI γ b none) (cE mem b bx) w' :=
  { below:=hw
    I:=fun _ _ x=>x
    pO:=fun _ _ x=>.inl x
    cells:=fun blk o x=>hcell blk o (h.sU blk o x)
    boxes:=fun c cx hc=>by
     by_cases e:c=b
     ·subst e
      obtain rfl:dh=cx:=Option.some.inj (hb.symm.trans hc)
      exact⟨bx,bA _ _,Nat.le_of_lt bt,fun e=>absurd e (by omega)⟩
     ·exact⟨cx,by rw[aP _ e];exact hc,Nat.le_refl _,fun _=>⟨by simp[bI,e],rfl,rfl⟩⟩ }
 refine⟨?_,hx⟩
 exact
  { bg:=h.C8 hx
    base:=Nat.le_trans h.base hw.size
    boxes:=fun c cx hc=>by
     by_cases e:c=b
     ·subst e
      rw[bA] at hc
      obtain rfl:=Option.some.inj hc
      exact jj
     ·rw[aP _ e] at hc
      refine(h.boxes c cx hc).keep hx (by simp[bI,e]) fun blk k hl=>hold blk (h.fresh c blk k (by rw[hc];simp) hl).2 fun k' hl'=>e ?_
      exact h.inj c b blk k k' (by rw[hc];simp) (by rw[hb];simp) hl hl'
    inj:=fun c d blk k k' hc hd h1 h2=>by
     by_cases e:c=b
     ·simp only[bI,if_pos e] at h1;cases h1
     ·by_cases e2:d=b
      ·simp only[bI,if_pos e2] at h2;cases h2
      ·simp only[bI,if_neg e] at h1
       simp only[bI,if_neg e2] at h2
       rw[aP _ e] at hc
       rw[aP _ e2] at hd
       exact h.inj c d blk k k' hc hd h1 h2
    fresh:=fun c blk k hc h1=>by
     by_cases e:c=b
     ·simp only[bI,if_pos e] at h1;cases h1
     ·simp only[bI,if_neg e] at h1
      rw[aP _ e] at hc
      have:=h.fresh c blk k hc h1
      exact⟨this.1,Nat.lt_of_lt_of_le this.2 hw.size⟩
    sU:=fun blk off hi=>Nat.lt_of_lt_of_le (h.sU blk off hi) hw.size
    sep:=fun c cx blk k off hc h1 hi=>by
     by_cases e:c=b
     ·simp only[bI,if_pos e] at h1;cases h1
     ·simp only[bI,if_neg e] at h1
      rw[aP _ e] at hc
      exact h.sep c cx blk k off hc h1 hi }
theorem OH{mem:Nat→Option bU}{b:Nat}{bx:bU}(h:mem b=some bx):cE mem b bx=mem:=by
 funext i
 by_cases e:i=b
 ·subst e;rw[bA,h]
 ·rw[aP _ e]
theorem Ki{f:Nat}{s:Vz}{vals:List aS}{xs:Array Value}(hs:jH P f s)(h:cX B N γ σ a w)(hd:∀k,d=some k→k<N)(hv:lK γ σ.mem w vals xs.toList)
  (hr:(Av s d vals σ).run=some σ') {K:Act→World→Prop} (hK:Dm B N γ σ a w d σ' K) :
  (∃fn code,P.funcs[f]?=some fn∧(fn.name == "runtime.NumGoroutine")=false∧fn.body=some code)∧Calls P f xs w fun e w'=>∃v,e=.returned v∧K (a.put d v) w':=by
 unfold Av at hr
 split at hr
 ·rename_i T b aC
  split at hr
  case h_2=>cases hr
  rename_i bx hb
  split at hr
  case h_2=>cases hr
  rename_i b' v' u un hval
  obtain⟨hcd,hr2⟩:=aD hr
  obtain rfl:=Option.some.inj hr2
  simp only[Bool.and_eq_true,Bool.not_eq_true'] at hcd
  obtain⟨⟨⟨⟨⟨⟨⟨⟨c1,c2⟩,c3⟩,c4⟩,c5⟩,c6⟩,c7⟩,c8⟩,c9⟩:=hcd
  have c1:=Nat.eq_of_beq_eq_true c1
  have c5:=Nat.eq_of_beq_eq_true c5
  have c7:=Nat.eq_of_beq_eq_true c7
  have c8:=Nat.eq_of_beq_eq_true c8
  have c6:0<T:=by simpa using c6
  subst c7;subst c8
  obtain⟨val,rest,hxs,g1,g2⟩:=hv.cons
  have oS:rest=[]:=by have:=g2.1;simpa using this
  subst oS
  obtain⟨blk,cap,hl,g3⟩:=bq hb c1 g1.2
  have g3:=List.head_eq_of_cons_eq g3
  simp only[cQ] at g3
  obtain rfl:xs=#[.pointer (some ⟨blk,0,none⟩)]:=by apply Array.toList_inj.1;rw[hxs,g3]
  have jj:=h.ok.boxes b' bx hb
  unfold cP at jj
  rw[c2] at jj
  obtain⟨dF,cap',cur,tid,fr,a1,a2,a3,a4,a5⟩:=jj
  rw[hl] at a1
  obtain⟨rfl,rfl⟩:=Prod.mk.inj (Option.some.inj a1)
  have iq:tid=T:=by
   rcases a4 with a4|a4
   ·rw[c5] at a4;exact absurd a4 (Nat.ne_of_gt c6)
   ·rw[a4,c5]
  subst iq
  rw[hval] at a5
  obtain⟨Q7,Tk,e1,e2,e3⟩:=a5
  obtain⟨cs3,cs4,e4,e5,e6⟩:=e3
  obtain⟨⟨p,rfl,hp1⟩,hp2⟩:=e2
  obtain⟨q,hq⟩:∃q,cs3=[q]:=by
   cases u<;>first|(cases c9;done)|skip
   obtain⟨⟨q,hq,_⟩,_⟩:=e5
   exact⟨q,hq⟩
  subst hq
  obtain rfl:cs4=[]:=e6
  have GV:cur=#[p,q]:=by apply Array.toList_inj.1;rw[e1,e4];rfl
  subst GV
  obtain⟨afE,cap2,j1,j2⟩:=bq hb c1 hp2
  rw[hl] at j1
  obtain⟨rfl,rfl⟩:=Prod.mk.inj (Option.some.inj j1)
  have j2:p=.pointer none∨p=.pointer (some ⟨blk,0,none⟩):=j2.imp List.head_eq_of_cons_eq List.head_eq_of_cons_eq
  refine⟨hs.1,(hs.2 w blk p q fr a2 (a3 0 (by simp)) j2).mono fun e w' hw=>?_⟩
  obtain⟨rfl,hw⟩:=hw
  refine⟨_,rfl,?_⟩
  have hres:∀{γ':Gh} {mem':Nat→Option bU} {w':World},cw γ' mem' w' (.Ca .nl) .val [.tuple #[]]:=fun {_ _ _}=>⟨#[],rfl,rfl⟩
  rcases hw with rfl|rfl
  ·refine hK γ _ _ (h.ua hd hres) ?_
   cases d<;>exact Ext.refl _ _ _ _
  ·have pT:({ bx with val:=bx.val }:bU)=bx:=by cases bx;rfl
   obtain⟨m1,m2⟩:=h.ok.write hb c4 hl a2 (cur':=#[.pointer (some ⟨blk,0,none⟩),q]) (v:=bx.val) (by simp) (by rw[pT])
    (fun w' mem' hx hg=>by
     rw[pT]
     unfold cP
     rw[c2]
     refine⟨blk,cap,_,tid,fr,hl,hg,fun o ho=>a3 o (by simpa using ho),a4,?_⟩
     rw[hval]
     refine⟨[.pointer (some ⟨blk,0,none⟩)],[q],rfl,?_,[q],[],rfl,e5.ext hx,rfl⟩
     have hp3:lQ mem' b' v' fun _=>∃blk cap,γ.loc b'=some (blk,cap):=by
      obtain⟨dh,k1,k2,k3⟩:=hp2
      obtain⟨gu,q1,q2,q3⟩:=hx.boxes b' dh k1
      exact⟨gu,q1,Nat.le_trans k2 q2,fun _=>⟨blk,cap,hl⟩⟩
     obtain⟨gu,q1,q2,q3⟩:=hp3
     exact⟨⟨_,rfl,rfl⟩,gu,q1,q2,fun _=>⟨blk,cap,hl,.inr rfl⟩⟩)
   rw[pT,OH hb] at m1 m2
   refine hK γ _ _ (h.aU m2 m1 hd hres) ?_
   cases d<;>exact m2
 ·rename_i T E b aC
  split at hr
  case h_2=>cases hr
  rename_i bx hb
  split at hr
  case h_2=>cases hr
  rename_i b' v' hh hv' un hval
  obtain⟨hcd,hr2⟩:=aD hr
  simp only[Bool.and_eq_true,Bool.not_eq_true'] at hcd
  obtain⟨⟨⟨⟨c1,c2⟩,c5⟩,c6⟩,c7⟩:=hcd
  have c1:=Nat.eq_of_beq_eq_true c1
  have c5:=Nat.eq_of_beq_eq_true c5
  have c6:0<T:=by simpa using c6
  split at hr2
  case h_2=>cases hr2
  rename_i hx hhx
  obtain⟨hcd,jG⟩:=aD hr2
  simp only[Bool.and_eq_true,Bool.not_eq_true'] at hcd
  obtain⟨⟨⟨⟨d1,d2⟩,d3⟩,d4⟩,d5⟩:=hcd
  have d1:=Nat.eq_of_beq_eq_true d1
  have d4:=Nat.eq_of_beq_eq_true d4
  have d5:0<E:=by simpa using d5
  split at jG
  case h_2=>cases jG
  rename_i l hhv
  change List Int at l
  obtain rfl:=Option.some.inj jG
  obtain⟨val,rest,hxs,g1,g2⟩:=hv.cons
  have oS:rest=[]:=by have:=g2.1;simpa using this
  subst oS
  obtain⟨blk,cap,hl,g3⟩:=bq hb c1 g1.2
  have g3:=List.head_eq_of_cons_eq g3
  simp only[cQ] at g3
  obtain rfl:xs=#[.pointer (some ⟨blk,0,none⟩)]:=by apply Array.toList_inj.1;rw[hxs,g3]
  have jj:=h.ok.boxes b bx hb
  unfold cP at jj
  rw[c2] at jj
  obtain⟨dF,cap',cur,tid,fr,a1,a2,a3,a4,a5⟩:=jj
  rw[hl] at a1
  obtain⟨rfl,rfl⟩:=Prod.mk.inj (Option.some.inj a1)
  have iq:tid=T:=by
   rcases a4 with a4|a4
   ·rw[c5] at a4;exact absurd a4 (Nat.ne_of_gt c6)
   ·rw[a4,c5]
  subst iq
  rw[hval] at a5
  obtain⟨Q7,Tk,e1,e2,e3⟩:=a5
  obtain⟨cs3,cs4,e4,e5,e6⟩:=e3
  obtain⟨⟨p,rfl,hp1⟩,hp2⟩:=e2
  obtain⟨⟨q,rfl,hq1⟩,Z7⟩:=e5
  obtain rfl:cs4=[]:=e6
  have GV:cur=#[p,q]:=by apply Array.toList_inj.1;rw[e1,e4];rfl
  subst GV
  obtain⟨e',n',k1,k2,k3⟩:=bq hhx d1 Z7
  rw[bU.dH d2 hhv] at k2
  obtain⟨rfl,rfl⟩:=Prod.mk.inj (Option.some.inj k2)
  have Z8:=h.ok.boxes hh hx hhx
  unfold cP at Z8
  rw[d2] at Z8
  obtain⟨e3,l3,q1,q2,q3⟩:=Z8
  rw[hhv] at q1
  cases q1
  have hlen:(bz l).length=l.length:=by simp[bz]
  let hx':bU:={ hx with val:=.data (.slice (.int .u8)) ([]:List Int),aC:=hx.aC+1 }
  have key:∃og:Option Nat,(∀k,og=some k→∃c,γ.loc hh=some (k,c))∧l.length≤maxLen ∧
    ((og=none∧q=.slice none 0 0∧bz l=[])∨∃(g cap:Nat) (cur:Array Value) (fr':Nat×Nat),og=some g∧q=.slice (some ⟨g,0,none⟩) (bz l).length cap∧w.heap[g]?=some (.cells cur E fr')∧(bz l).length≤cap∧cap≤maxLen∧cur.size=cap∧∀(j:Nat) (x:UInt8),(bz l)[j]?=some x→cur[j]?=some (Value.int .u8 x.toNat)):=by
   rcases k3 with ⟨k3,k4⟩|⟨g,Z9,k3,k4⟩
   ·rcases q3 with ⟨_,q3⟩|⟨_,_,_,_,_,q3,_⟩
    ·subst q3
     exact⟨none,(fun k hk=>by cases hk),Nat.zero_le _,.inl ⟨rfl,List.head_eq_of_cons_eq k4,rfl⟩⟩
    ·rw[k3] at q3;cases q3
   ·rcases q3 with ⟨q3,_⟩|⟨g',aeV,aaa,adK,frg,q3,q4,q5,q6,q7,q8,q9,q10⟩
    ·rw[k3] at q3;cases q3
    ·rw[k3] at q3
     obtain⟨rfl,rfl⟩:=Prod.mk.inj (Option.some.inj q3)
     have htg:adK=E:=by
      rcases q6 with q6|q6
      ·rw[d4] at q6;exact absurd q6 (Nat.ne_of_gt d5)
      ·rw[q6,d4]
     subst htg
     have abK:(Ty.int IntKind.u8).size=1:=rfl
     have q7':l.length≤Z9:=q7
     refine⟨some g,fun k hk=>⟨Z9,by rw[k3,Option.some.inj hk]⟩,Nat.le_trans q7' q8,.inr ⟨g,Z9,aaa,frg,rfl,?_,q4,by omega,q8,by rw[q9,abK,Nat.mul_one],fun j x hj=>?_⟩⟩
     ·rw[hlen];exact List.head_eq_of_cons_eq k4
     ·simp only[bz,List.getElem?_map,Option.map_eq_some_iff] at hj
      obtain⟨y,hy,rfl⟩:=hj
      obtain⟨r1,r2,r3⟩:=q10 j y hy
      rw[abK,Nat.mul_one] at r1
      have hmin:(IntKind.u8).min=0:=by decide
      have hmax:(IntKind.u8).max=255:=by decide
      have r2':0≤y:=by have:=r2;rw[hmin] at this;exact this
      have r3':y≤255:=by have:=r3;rw[hmax] at this;exact this
      have hcell:aaa.toList[j]?=some (.int .u8 y):=by
       have:((aaa.toList.drop j).take 1)[0]?=some (.int .u8 y):=by rw[r1];rfl
       simpa [List.getElem?_take,List.getElem?_drop] using this
      have hy2:((UInt8.ofNat y.toNat).toNat:Int)=y:=by
       rw[UInt8.toNat_ofNat']
       have:y.toNat<256:=by omega
       rw[Nat.mod_eq_of_lt (by simpa using this)]
       omega
      rw[hy2]
      simpa using hcell
  obtain⟨og,hog,hlm,hk⟩:=key
  refine⟨hs.1,(hs.2 w blk p q fr (bz l) og a2 hk).mono fun e w' hw=>?_⟩
  obtain⟨rfl,hw⟩:=hw
  refine⟨_,rfl,?_⟩
  have adL:tZ B w w':=⟨hw.os,hw.tape,hw.output,hw.size,fun k hk=>by
   rcases Nat.lt_or_ge k w.heap.size with hlt|hge
   ·refine hw.block k hlt fun e=>hk ?_
    obtain⟨c,hc⟩:=hog k e
    exact(h.ok.fresh hh k c (by rw[hhx];simp) hc).1
   ·exact absurd (.inl (Nat.le_trans h.ok.base hge)) hk⟩
  have adM:cP (bI γ hh none) (cE σ.mem hh hx') w' hh hx':=by
   unfold cP
   rw[show hx'.buf=true from d2]
   exact⟨.int .u8,[],rfl,q2,.inl ⟨by simp[bI],rfl⟩⟩
  obtain⟨m1,m2⟩:=h.ok.drop (bx:=hx') hhx (Nat.lt_succ_self _) adL (fun k hk hn=>hw.block k hk fun e=>by obtain⟨c,hc⟩:=hog k e;exact hn c hc) hw.cell adM
  refine hK (bI γ hh none) _ w' (h.aU m2 m1 hd (v:=.data .str (bz l)) (val:=.string ⟨(bz l).toArray⟩) ?_) ?_
  ·exact⟨[.string ⟨(bz l).toArray⟩],⟨rfl,by rw[hlen];exact hlm⟩,rfl⟩
  ·cases d<;>exact m2
 ·cases hr
theorem ML(eg:oR P B.G cx)(lf:uV P B.G inl){f:Nat}{vals:List aS}{xs:Array Value}(h:cX B N γ σ a w)(hd:∀k,d=some k→k<N)(hv:lK γ σ.mem w vals xs.toList)
  (hr:(vA cx inl d f vals σ).run=some σ') {K:Act→World→Prop} (hK:Dm B N γ σ a w d σ' K) :
  (∃fn code,P.funcs[f]?=some fn∧(fn.name == "runtime.NumGoroutine")=false∧fn.body=some code)∧Calls P f xs w fun e w'=>∃v,e=.returned v∧K (a.put d v) w':=by
 unfold vA at hr
 split at hr
 ·rename_i c ZE
  have hh:=eg.cW f c ZE
  refine⟨hh.body,?_⟩
  split at hr
  ·rename_i abM
   split at hr
   ·rename_i x hx
    obtain⟨y,hy,hr2⟩:=b5 hr
    obtain rfl:=Option.some.inj hr2
    have hargs:=Kg (I':=fun b o=>b<w.heap.size) h.ok (fun b o hi=>h.ok.sU b o hi) (fun b o _ hb=>hb) hv hx
    refine(hh.calls (fun b o=>b<w.heap.size) w xs x y (fun b o hb=>hb) h.ok.Mw hargs hy).mono fun e w' hw=>?_
    obtain⟨v,I',h1,h2,h3,h4,h5,h6⟩:=hw
    refine⟨v,h1,?_⟩
    obtain⟨m1,m2⟩:=h.ok.far (I':=γ.I) h2 (fun _ _ hi=>hi) (fun b o hi=>Nat.lt_of_lt_of_le (h.ok.sU b o hi) h2.size) (fun b o hi hn=>absurd hi hn)
    refine hK γ _ w' (h.aU m2 m1 hd (h6.flat abM)) ?_
    cases d<;>exact m2
   ·exact absurd hr (by intro k;cases k)
  ·split at hr
   ·rename_i x σ1 hx
    obtain⟨y,hy,hr2⟩:=b5 hr
    obtain rfl:=Option.some.inj hr2
    obtain⟨jb,s1,s2,s3⟩:=qV h hv hx
    refine(hh.calls jb.I w xs x y (fun b o hi=>s1.ok.sU b o hi) s1.ok.Mw s3 hy).mono fun e w' hw=>?_
    obtain⟨v,I',h1,h2,h3,h4,h5,h6⟩:=hw
    refine⟨v,h1,?_⟩
    obtain⟨m1,m2⟩:=s1.ok.far (I':=I') h2 h3 h4 h5
    refine hK ⟨I',jb.loc⟩ _ w' (s1.aU m2 m1 hd (h6.rep (fun _ _ hi=>hi))) ?_
    cases d<;>exact s2.trans m2
   ·exact absurd hr (by intro k;cases k)
 ·rename_i ZE
  have Dn:((inl f vals σ).bind fun r=>.ret (r.2.aU d r.1):Tree St).run=some σ'→(∃fn code,P.funcs[f]?=some fn∧(fn.name == "runtime.NumGoroutine")=false∧fn.body=some code)∧Calls P f xs w fun e w'=>∃v,e=.returned v∧K (a.put d v) w':=by
   intro hr
   obtain⟨r,kD,hr2⟩:=bind_some hr
   obtain rfl:=Option.some.inj hr2
   obtain⟨v0,ji⟩:=r
   obtain⟨hb,VB,Ij⟩:=lf B γ σ ji w f vals xs v0 rfl h.ok hv kD
   refine⟨hb,Ij.mono fun e w' hw=>?_⟩
   obtain⟨v,γ',h1,h2,h3,h4⟩:=hw
   refine⟨v,h1,?_⟩
   have hs0:ji={ slots:=σ.slots,mem:=ji.mem }:=by cases ji;simp only at VB;subst VB;rfl
   rw[hs0] at hK
   refine hK γ' _ w' (h.aU h3 h2 hd h4) ?_
   cases d<;>exact h3
  split at hr
  ·rename_i s hcs
   exact Ki (eg.QX f s hcs) h hd hv hr hK
  split at hr
  ·rename_i c hcr
   split at hr
   ·rename_i x u ns hx
    obtain⟨y,hy,hr2⟩:=b5 hr
    obtain rfl:=Option.some.inj hr2
    have hh:=eg.bw f c hcr
    obtain⟨bs,g1,g2,g3⟩:=Kh h.ok hv hx
    have hfree:∀blk∈bs,∀o,¬γ.I blk o:=fun blk hb o hi=>by
     obtain⟨b,bx,k,j1,j2,j3,j4⟩:=g2.Ii blk hb
     have:=(h.ok.sep b bx blk k o j2 j4 hi).1
     rw[j3] at this;cases this
    refine⟨hh.body,(hh.calls γ.I w xs bs x u y (fun b o hi=>h.ok.sU b o hi) h.ok.Mw (fun b Q g hb=>by
     obtain⟨n,bx,k,j1,j2,j3,j4⟩:=g2.Ii b hb
     exact(h.ok.bg b Q g).1 (h.ok.fresh n b k (by rw[j2];simp) j4).1) g1 g3 (g2.nodup h.ok) hfree hy).mono fun e w' hw=>?_⟩
    obtain⟨v,I',h1,h2,h3,h4,h5,h6,h7⟩:=hw
    refine⟨v,h1,?_⟩
    obtain⟨m1,m2⟩:=h.ok.refs g2 h2 h3 h4 h5 h7
    have hs:sZ c.U y.2 ns σ={ slots:=σ.slots,mem:=(sZ c.U y.2 ns σ).mem }:=rfl
    refine hK ⟨I',γ.loc⟩ _ w' (by rw[hs];exact h.aU m2 m1 hd (h6.rep (fun _ _ hi=>hi))) ?_
    cases d<;>exact m2
   ·exact Dn hr
  ·exact Dn hr
theorem bE.Rk{mem:Nat→Option bU}{w':World}(h:bE B γ mem w){b:Nat}{gu:bU}{e:Ty}{l':List e.den}{L:Option (Nat×Nat)}{X:Nat→Prop}{I':Nat→Nat→Prop}{v:Value}
  (hX:∀k,X k→∃dh c,mem b=some dh∧dh.ro=false∧γ.loc b=some (k,c)) (hw:jT w γ.I X w' I') (hown:uU w' I' e l' L v) (hLX:∀blk c,L=some (blk,c)→X blk∨w.heap.size≤blk)
  (bt:∀dh,mem b=some dh→dh.aC<gu.aC∨(dh.aC=gu.aC∧L=γ.loc b∧gu.buf=dh.buf∧gu.row=dh.row)) (hval:gu.val=.data (.slice e) l') (bK:gu.buf=true) (iq:gu.tid=0) (he:0<e.size) :
  let γ':Gh:=⟨I',fun i=>if i=b then L else γ.loc i⟩
  bE B γ' (cE mem b gu) w'∧Ext B γ mem w γ' (cE mem b gu) w':=by
 intro γ'
 have hsame:∀k,k<w.heap.size→¬X k→w'.heap[k]?=w.heap[k]?:=fun k hk hb=>hw.below.block k fun q=>by
  rcases q with q|q
  ·have:w.heap.size≤k:=q;omega
  ·exact hb q
 have hfree:∀k,X k→∀o,¬γ.I k o:=fun k hk o hi=>by
  obtain⟨dh,c,h1,h2,h3⟩:=hX k hk
  have:=(h.sep b dh k c o h1 h3 hi).1
  rw[h2] at this;cases this
 have Z5:∀k,¬B.has k→k<w.heap.size:=fun k hk=>Nat.lt_of_not_le fun q=>hk (.inl (Nat.le_trans h.base q))
 have ZF:∀k,X k→B.has k∧k<w.heap.size:=fun k hk=>by
  obtain⟨dh,c,h1,h2,h3⟩:=hX k hk
  exact h.fresh b k c (by rw[h1];simp) h3
 have hx:Ext B γ mem w γ' (cE mem b gu) w' :=
  { below:=⟨hw.below.os,hw.below.tape,hw.below.output,hw.below.size,fun k hk=>hsame k (Z5 k hk) fun hb=>hk (ZF k hb).1⟩
    I:=hw.held
    pO:=fun b o x=>by
     by_cases hi:γ.I b o
     ·exact .inl hi
     ·exact .inr (.inl (Nat.le_trans h.base (hw.pO b o x hi)))
    cells:=fun b o hi=>cR (hsame b (h.sU b o hi) fun hb=>hfree b hb o hi)
    boxes:=fun c cx hc=>by
     by_cases e1:c=b
     ·subst e1
      refine⟨gu,bA _ _,?_,fun e2=>?_⟩
      ·rcases bt cx hc with q|q
       ·exact Nat.le_of_lt q
       ·exact Nat.le_of_eq q.1
      ·rcases bt cx hc with q|q
       ·omega
       ·exact⟨by simp[γ',q.2.1],q.2.2⟩
     ·exact⟨cx,by rw[aP _ e1];exact hc,Nat.le_refl _,fun _=>⟨by simp[γ',e1],rfl,rfl⟩⟩ }
 have abN:∀blk c,L=some (blk,c)→blk<w'.heap.size∧∀o,¬I' blk o:=fun blk c hl=>by
  rcases hown with ⟨q,_⟩|⟨dF,cap,cur,tid,fr,q1,q2,q3,q4,q5,q6,q7,q8,q9⟩
  ·rw[q] at hl;cases hl
  ·rw[q1] at hl
   obtain⟨rfl,rfl⟩:=Prod.mk.inj (Option.some.inj hl)
   exact⟨(Array.getElem?_eq_some_iff.1 q3).1,q8⟩
 have hne:∀{c d:Nat},c≠b→cE mem b gu c≠none→mem c≠none:=fun hc hm=>by rwa [aP _ hc] at hm
 have vB:∀{d blk k c:Nat},d≠b→mem d≠none→L=some (blk,k)→γ.loc d=some (blk,c)→False:=fun {d blk k c} hd hm hl h2=>by
  rcases hLX blk k hl with hx1|hx1
  ·obtain⟨dh,c0,j1,j2,j3⟩:=hX blk hx1
   exact hd (h.inj d b blk c c0 hm (by rw[j1];simp) h2 j3)
  ·have:=(h.fresh d blk c hm h2).2;omega
 refine⟨?_,hx⟩
 exact
  { bg:=h.C8 hx
    base:=Nat.le_trans h.base hw.below.size
    boxes:=fun c cx hc=>by
     by_cases e1:c=b
     ·subst e1
      rw[bA] at hc
      obtain rfl:=Option.some.inj hc
      unfold cP
      rw[bK]
      refine⟨e,l',hval,he,?_⟩
      rcases hown with ⟨q1,q2,q3⟩|⟨dF,cap,cur,tid,fr,q1,q2,q3,q4,q5,q6,q7,q8,q9⟩
      ·exact .inl ⟨by simp[γ',q1],q2⟩
      ·exact .inr ⟨dF,cap,cur,tid,fr,by simp[γ',q1],q3,q4,.inl iq,q5,q6,q7,q9⟩
     ·rw[aP _ e1] at hc
      refine(h.boxes c cx hc).keep hx (by simp[γ',e1]) fun blk k hl=>hsame blk (h.fresh c blk k (by rw[hc];simp) hl).2 fun hx1=>?_
      obtain⟨dh,c0,j1,j2,j3⟩:=hX blk hx1
      exact e1 (h.inj c b blk k c0 (by rw[hc];simp) (by rw[j1];simp) hl j3)
    inj:=fun c d blk k k' hc hd h1 h2=>by
     by_cases e1:c=b
     ·by_cases e2:d=b
      ·rw[e1,e2]
      ·exfalso
       simp only[γ',if_pos e1] at h1
       simp only[γ',if_neg e2] at h2
       exact vB e2 (hne (d:=0) e2 hd) h1 h2
     ·by_cases e2:d=b
      ·exfalso
       simp only[γ',if_neg e1] at h1
       simp only[γ',if_pos e2] at h2
       exact vB e1 (hne (d:=0) e1 hc) h2 h1
      ·simp only[γ',if_neg e1] at h1
       simp only[γ',if_neg e2] at h2
       exact h.inj c d blk k k' (hne (d:=0) e1 hc) (hne (d:=0) e2 hd) h1 h2
    fresh:=fun c blk k hc h1=>by
     by_cases e1:c=b
     ·simp only[γ',if_pos e1] at h1
      refine⟨?_,(abN blk k h1).1⟩
      rcases hLX blk k h1 with q|q
      ·exact(ZF blk q).1
      ·exact .inl (Nat.le_trans h.base q)
     ·simp only[γ',if_neg e1] at h1
      have:=h.fresh c blk k (hne (d:=0) e1 hc) h1
      exact⟨this.1,Nat.lt_of_lt_of_le this.2 hw.below.size⟩
    sU:=hw.sU
    sep:=fun c cx blk k off hc h1 hi=>by
     by_cases e1:c=b
     ·simp only[γ',if_pos e1] at h1
      exact absurd hi ((abN blk k h1).2 off)
     ·simp only[γ',if_neg e1] at h1
      rw[aP _ e1] at hc
      by_cases X3:γ.I blk off
      ·exact h.sep c cx blk k off hc h1 X3
      ·have h3:=hw.pO blk off hi X3
       have h2:=(h.fresh c blk k (by rw[hc];simp) h1).2
       omega }
theorem uU.rep{I:Nat→Nat→Prop}{loc:Nat→Option (Nat×Nat)}{mem:Nat→Option bU}{w:World}{e:Ty}{l:List e.den}{L:Option (Nat×Nat)}{v:Value}{b aC:Nat}{bx:bU}(h:uU w I e l L v)
  (Rl:loc b=L) (hb:mem b=some bx) (bt:bx.aC=aC) (bK:bx.buf=true) (hval:bx.val=.data (.slice e) l):cw ⟨I,loc⟩ mem w (.whole b aC) .val [v]:=by
 rcases h with ⟨q1,q2,q3⟩|⟨dF,cap,cur,tid,fr,q1,q2,q3,q4,q5,q6,q7,q8,q9⟩
 ·exact⟨⟨v,rfl,by rw[q3];rfl⟩,gz hb bt ⟨e,l.length,bK,bU.dH bK hval,.inl ⟨by rw[←q1];exact Rl,by rw[q3]⟩⟩⟩
 ·exact⟨⟨v,rfl,by rw[q2];rfl⟩,gz hb bt ⟨e,l.length,bK,bU.dH bK hval,.inr ⟨dF,cap,by rw[←q1];exact Rl,by rw[q2]⟩⟩⟩
theorem V0{mem:Nat→Option bU}(h:bE B γ mem w){b aC:Nat}{bx:bU}{e:Ty}{l:List e.den}{v:Value}(hb:mem b=some bx)(bt:bx.aC=aC)(bK:bx.buf=true)(hro:bx.ro=false)(hval:bx.val=.data (.slice e) l)
  (hv:cw γ mem w (.whole b aC) .val [v]):uU w γ.I e l (γ.loc b) v∧0<e.size:=by
 obtain⟨e',n,k1,k2,k3⟩:=bq hb bt hv.2
 rw[bU.dH bK hval] at k2
 obtain⟨rfl,rfl⟩:=Prod.mk.inj (Option.some.inj k2)
 have jj:=h.boxes b bx hb
 unfold cP at jj
 rw[bK] at jj
 obtain⟨e3,l3,q1,q2,q3⟩:=jj
 rw[hval] at q1
 cases q1
 refine⟨?_,q2⟩
 rcases q3 with ⟨q3,q4⟩|⟨blk,cap,cur,tid,fr,q3,q4,q5,q6,q7,q8,q9,q10⟩
 ·rcases k3 with ⟨k3,k4⟩|⟨dF,cap',k3,k4⟩
  ·exact .inl ⟨k3,q4,List.head_eq_of_cons_eq k4⟩
  ·rw[q3] at k3;cases k3
 ·rcases k3 with ⟨k3,k4⟩|⟨dF,cap',k3,k4⟩
  ·rw[q3] at k3;cases k3
  ·rw[q3] at k3
   obtain⟨rfl,rfl⟩:=Prod.mk.inj (Option.some.inj k3)
   refine .inr ⟨blk,cap,cur,tid,fr,q3,List.head_eq_of_cons_eq k4,q4,q5,q7,q8,q9,fun o hi=>?_,q10⟩
   have:=(h.sep b bx blk cap o hb q3 hi).1
   rw[hro] at this;cases this
theorem rU{e:Ty}{v:aS}{b aC:Nat}{bx:bU}{l:List e.den}(h:xB e σ v=some (b,aC,bx,l)):σ.mem b=some bx∧bx.aC=aC∧bx.buf=true∧bx.lk=false∧bx.ro=false∧bx.tid=0 ∧
  ∃l0:List e.den,bx.val=.data (.slice e) l0∧((v=.whole b aC∧l=l0)∨∃n,v=.part b aC 0 n∧l=sub l0 0 n):=by
 unfold xB at h
 split at h
 ·rename_i b0 Yt
  split at h
  ·rename_i dh hb
   cases hc:(Nat.beq dh.aC Yt&&dh.buf&&!dh.lk&&!dh.ro&&Nat.beq dh.tid 0) with
   | false=>rw[hc] at h;cases h
   | true =>
     rw[hc] at h
     simp only[Bool.and_eq_true,Bool.not_eq_true'] at hc
     simp only[cond_true] at h
     split at h
     ·rename_i u l0 hval
      split at h
      ·rename_i l1 hl
       obtain⟨q,hq⟩:=ku hl
       subst q;subst hq
       cases h
       exact⟨hb,Nat.eq_of_beq_eq_true hc.1.1.1.1,hc.1.1.1.2,hc.1.1.2,hc.1.2,Nat.eq_of_beq_eq_true hc.2,_,hval,.inl ⟨rfl,rfl⟩⟩
      ·cases h
     ·cases h
  ·cases h
 ·rename_i b0 Yt lo n
  split at h
  ·rename_i dh hb
   cases hc:(Nat.beq dh.aC Yt&&dh.buf&&!dh.lk&&!dh.ro&&Nat.beq dh.tid 0&&decide (lo=0)) with
   | false=>rw[hc] at h;cases h
   | true =>
     rw[hc] at h
     simp only[Bool.and_eq_true,Bool.not_eq_true',decide_eq_true_eq] at hc
     simp only[cond_true] at h
     split at h
     ·rename_i u l0 hval
      split at h
      ·rename_i l1 hl
       obtain⟨q,hq⟩:=ku hl
       subst q;subst hq
       cases h
       have h0:=hc.2
       subst h0
       exact⟨hb,Nat.eq_of_beq_eq_true hc.1.1.1.1.1,hc.1.1.1.1.2,hc.1.1.1.2,hc.1.1.2,Nat.eq_of_beq_eq_true hc.1.2,_,hval,.inr ⟨n,rfl,rfl⟩⟩
      ·cases h
     ·cases h
  ·cases h
 ·cases h
theorem Rm{mem:Nat→Option bU}(h:bE B γ mem w){b aC:Nat}{bx:bU}{e:Ty}{l:List e.den}{n:Int}{v:Value}(hb:mem b=some bx)(bt:bx.aC=aC)(bK:bx.buf=true)(hro:bx.ro=false)(hval:bx.val=.data (.slice e) l)
  (hv:cw γ mem w (.part b aC 0 n) .val [v]):uU w γ.I e (sub l 0 n) (γ.loc b) v∧0<e.size:=by
 obtain⟨e',k,k2,k3,k4,k5,base,cap',k6,k7,k8,kF,k9⟩:=bq hb bt hv.2
 rw[bU.dH bK hval] at k2
 obtain⟨rfl,rfl⟩:=Prod.mk.inj (Option.some.inj k2)
 have jj:=h.boxes b bx hb
 unfold cP at jj
 rw[bK] at jj
 obtain⟨e3,l3,q1,q2,q3⟩:=jj
 rw[hval] at q1
 cases q1
 refine⟨?_,q2⟩
 obtain k6:=List.head_eq_of_cons_eq k6
 have hlen:(sub l 0 n).length=n.toNat:=by
  have:n.toNat≤l.length:=by omega
  simp only[sub,List.length_take,List.length_drop];omega
 rcases kF.2 rfl bK with ⟨z1,rfl,rfl⟩|⟨blk,z1,rfl⟩
 ·rcases q3 with ⟨q3,q4⟩|⟨blk,cap,cur,tid,fr,q3,_⟩
  ·subst q4
   have:n.toNat=0:=by omega
   exact .inl ⟨z1,by simp[sub],by rw[k6,this]⟩
  ·rw[z1] at q3;cases q3
 ·rcases q3 with ⟨q3,q4⟩|⟨dF,cap,cur,tid,fr,q3,q4,q5,q6,q7,q8,q9,q10⟩
  ·rw[z1] at q3;cases q3
  ·rw[z1] at q3
   obtain⟨rfl,rfl⟩:=Prod.mk.inj (Option.some.inj q3)
   refine .inr ⟨blk,cap',cur,tid,fr,z1,by rw[hlen];exact k6,q4,q5,by rw[hlen];omega,q8,q9,fun o hi=>?_,fun i x hx=>q10 i x ?_⟩
   ·have:=(h.sep b bx blk cap' o hb z1 hi).1
    rw[hro] at this;cases this
   ·have hx':((l.drop (0:Int).toNat).take n.toNat)[i]?=some x:=hx
    rw[List.getElem?_take] at hx'
    split at hx'
    ·simpa using hx'
    ·cases hx'
theorem Lx{e:Ty}{v:aS}{b aC:Nat}{bx:bU}{l:List e.den}{val:Value}(hm:bE B γ σ.mem w)(h:xB e σ v=some (b,aC,bx,l))(hv:cw γ σ.mem w v .val [val]):uU w γ.I e l (γ.loc b) val∧0<e.size:=by
 obtain⟨hb,bt,bK,hlk,hro,iq,l0,hval,V1⟩:=rU h
 rcases V1 with ⟨rfl,rfl⟩|⟨n,rfl,rfl⟩
 ·exact V0 hm hb bt bK hro hval hv
 ·exact Rm hm hb bt bK hro hval hv
theorem uW{f:Nat}{s:Vz}(h:vz cx bf d f=some s):find cx.QX f=some s:=by
 unfold vz at h
 split at h
 ·rename_i e he
  split at h
  ·obtain rfl:=Option.some.inj h;exact he
  ·cases h
 ·rename_i he
  obtain rfl:=Option.some.inj h;exact he
 ·cases h
theorem GW{f:Nat}{e:Ty}{vals:List aS}{xs:Array Value}(hs:jH P f (.clone e))(h:cX B N γ σ a w)(hd:∀k,d=some k→k<N)(hv:lK γ σ.mem w vals xs.toList)
  (hr:(kR nb e d vals σ).run=some σ') {K:Act→World→Prop} (hK:Dm B N γ σ a w d σ' K) :
  (∃fn code,P.funcs[f]?=some fn∧(fn.name == "runtime.NumGoroutine")=false∧fn.body=some code)∧Calls P f xs w fun e w'=>∃v,e=.returned v∧K (a.put d v) w':=by
 unfold kR at hr
 split at hr
 case h_2=>cases hr
 rename_i k x
 split at hr
 case h_2=>cases hr
 rename_i l σ1 hg
 change List e.den at l
 obtain⟨he,hr⟩:=aD hr
 have he:0<e.size:=by simpa using he
 obtain⟨hfit,hr⟩:=cD hr
 obtain⟨aC,bt,hr2⟩:=dX hr
 obtain rfl:=Option.some.inj hr2
 obtain⟨val,rest,hxs,g1,g2⟩:=hv.cons
 have oS:rest=[]:=by have:=g2.1;simpa using this
 subst oS
 obtain⟨jb,s1,s2,cs,c1,c2⟩:=lS h g1 hg
 have c2:=List.head_eq_of_cons_eq c2
 refine⟨hs.1,(hs.2 jb.I w xs l (fun b o hi=>s1.ok.sU b o hi) ⟨cs,[],by rw[hxs,c2],c1,rfl⟩ hfit).mono fun q w' hw=>?_⟩
 obtain⟨v,I',L,rfl,h1,h2,h3⟩:=hw
 refine⟨v,rfl,?_⟩
 obtain⟨m1,m2⟩:=s1.ok.Rk (b:=nb+k) (gu:={ val:=.data (.slice e) l,tid:=0,buf:=true,ro:=false,lk:=false,aC }) (fun _ hf=>hf.elim) h1 h2 (fun blk c hl=>.inr (h3 blk c hl))
  (fun dh h0=>.inl (bt dh h0)) rfl rfl rfl he
 exact hK _ _ w' (s1.step m2 m1 (hd k rfl) (h2.rep (by simp) (bA _ _) rfl rfl rfl)) (s2.trans m2)
theorem Kj{f:Nat}{e A:Ty}{res:Bool}{spec:List e.den→A.den→Option (List e.den)}{vals:List aS}{xs:Array Value}(hs:jH P f (.own e A res spec))(h:cX B N γ σ a w)(hd:∀k,d=some k→k<N)(hv:lK γ σ.mem w vals xs.toList)
  (hr:(qR e A res spec d vals σ).run=some σ') {K:Act→World→Prop} (hK:Dm B N γ σ a w d σ' K) :
  (∃fn code,P.funcs[f]?=some fn∧(fn.name == "runtime.NumGoroutine")=false∧fn.body=some code)∧Calls P f xs w fun e w'=>∃v,e=.returned v∧K (a.put d v) w':=by
 unfold qR at hr
 split at hr
 case h_2=>cases hr
 rename_i v0 vs
 split at hr
 case h_2=>cases hr
 rename_i x σ1 hg
 split at hr
 case h_2=>cases hr
 rename_i b aC bx l X7
 obtain⟨l',hspec,hr⟩:=b5 hr
 obtain⟨hb,bt,bK,hlk,hro,iq,l0,hval,V1⟩:=rU X7
 obtain⟨val,rest,hxs,g1,g2⟩:=hv.cons
 obtain⟨jb,s1,s2,hargs⟩:=qV h g2 hg
 obtain⟨hown,he⟩:=Lx s1.ok X7 (g1.ext s2)
 refine⟨hs.1,(hs.2 jb.I w xs val rest l l' (jb.loc b) x (fun b o hi=>s1.ok.sU b o hi) hxs hown hargs hspec).mono fun q w' hw=>?_⟩
 obtain⟨I',h1,h2⟩:=hw
 have hX:∀k,(∃c,jb.loc b=some (k,c))→∃dh c,σ1.mem b=some dh∧dh.ro=false∧jb.loc b=some (k,c):=fun k ⟨c,hc⟩=>⟨bx,c,hb,hro,hc⟩
 cases res with
 | true =>
   cases d with
   | none=>cases hr
   | some k =>
     obtain rfl:=Option.some.inj hr
     obtain⟨v',L',rfl,h3,h4⟩:=h2
     refine⟨v',rfl,?_⟩
     obtain⟨m1,m2⟩:=s1.ok.Rk (b:=b) (gu:={ bx with val:=.data (.slice e) l',aC:=aC+1 }) hX h1 h3 h4 (fun dh h0=>by
      rw[hb] at h0
      obtain rfl:=Option.some.inj h0
      exact .inl (by simp[bt])) rfl bK iq he
     exact hK _ _ w' (s1.step m2 m1 (hd k rfl) (h3.rep (by simp) (bA _ _) rfl bK rfl)) (s2.trans m2)
 | false =>
   have hr':Hr v0=true∧σ'=(σ1.cr b { bx with val:=.data (.slice e) l' }).aU d (.Ca .nl):=by
    cases d with
    | none=>obtain⟨q1,q2⟩:=aD hr;exact⟨q1,(Option.some.inj q2).symm⟩
    | some k=>obtain⟨q1,q2⟩:=aD hr;exact⟨q1,(Option.some.inj q2).symm⟩
   obtain⟨hwh,rfl⟩:=hr'
   obtain rfl:l=l0:=by
    rcases V1 with ⟨_,q⟩|⟨n,rfl,_⟩
    ·exact q
    ·cases hwh
   obtain⟨rfl,hlen,h3⟩:=h2
   refine⟨_,rfl,?_⟩
   obtain⟨m1,m2⟩:=s1.ok.Rk (b:=b) (gu:={ bx with val:=.data (.slice e) l' }) hX h1 h3 (fun blk c hl=>.inl ⟨c,hl⟩) (fun dh h0=>by
    rw[hb] at h0
    obtain rfl:=Option.some.inj h0
    exact .inr ⟨rfl,rfl,rfl,by rw[bU.dH bK hval,bU.dH (bx:={ bx with val:=.data (.slice e) l' }) bK rfl,hlen]⟩) rfl bK iq he
   refine hK _ _ w' (s1.aU m2 m1 hd (v:=.Ca .nl) (val:=.tuple #[]) ⟨#[],rfl,rfl⟩) ?_
   cases d<;>exact s2.trans m2
theorem Kk(eg:oR P B.G cx)(lf:uV P B.G inl){f:Nat}{vals:List aS}{xs:Array Value}(h:cX B N γ σ a w)(hd:∀k,d=some k→k<N)(hv:lK γ σ.mem w vals xs.toList)
  (hr:(s7 cx nb bf inl d f vals σ).run=some σ') {K:Act→World→Prop} (hK:Dm B N γ σ a w d σ' K) :
  (∃fn code,P.funcs[f]?=some fn∧(fn.name == "runtime.NumGoroutine")=false∧fn.body=some code)∧Calls P f xs w fun e w'=>∃v,e=.returned v∧K (a.put d v) w':=by
 unfold s7 at hr
 split at hr
 ·rename_i e he
  exact GW (eg.QX f _ (uW he)) h hd hv hr hK
 ·rename_i e A r s he
  exact Kj (eg.QX f _ (uW he)) h hd hv hr hK
 ·exact ML eg lf h hd hv hr hK
theorem Ik{o:Oper}{f:Nat}{xs:Array Value}{K:Act→World→Prop}{Q:Exit→Act→World→Prop}(hs:(execOp a.eval o).run P w=(callFunc f xs).run P w)
  (h:(∃fn code,P.funcs[f]?=some fn∧(fn.name == "runtime.NumGoroutine")=false∧fn.body=some code)∧Calls P f xs w fun e w'=>∃v,e=.returned v∧K (a.put o.dst v) w'):o.wp P a w K Q:=by
 obtain⟨⟨fn,code,h1,h2,h3⟩,hc⟩:=h
 unfold Oper.wp
 rw[hs,MK h1 h2 h3]
 refine hc.mono fun e w' hw=>?_
 obtain⟨v,rfl,hk⟩:=hw
 exact hk
theorem OI(hc:fC P cx){t ty:TypeId}{v:aS}{x:Value}{n:Int}(hm:bE B γ σ.mem w)(hv:cw γ σ.mem w v .val [x])(ht:Th (find cx.T t) v=true)(hl:lenOf σ v=some n) :
  (Builtin.len_ #[t] ty #[x]).run P w=.ok (goInt n) w∧IntKind.i64.min≤n∧n≤IntKind.i64.max:=by
 have hmax:(maxLen:Int)≤IntKind.i64.max:=by decide
 have hmin:IntKind.i64.min≤0:=by decide
 have slv:∀{base:Option Addr} {m c:Nat},(∃e,find cx.T t=some (.slice e))→x=.slice base m c→n=m→m≤maxLen→(Builtin.len_ #[t] ty #[x]).run P w=.ok (goInt n) w∧IntKind.i64.min≤n∧n≤IntKind.i64.max:=by
  intro base m c he hx hn hm
  obtain⟨e,he⟩:=he
  obtain⟨eZ,f1,_⟩:=(hc.T _ _ he).slice
  subst hx;subst hn
  refine⟨?_,by omega,by omega⟩
  simp[Builtin.len_,run_underlying f1]
 have VB:∀{o:Option Ty},(match o with|some (.slice _)=>true|_=>false)=true→∃e,o=some (.slice e):=by
  intro o h
  split at h
  ·exact⟨_,rfl⟩
  ·cases h
 cases v with
 | data u y =>
   cases u with
   | str =>
     obtain⟨rfl,h2⟩:=vC hv
     obtain rfl:=Option.some.inj hl
     have hT:=(hc.T _ _ (iu ht)).str
     have e1:(⟨List.toArray (α:=UInt8) y⟩:ByteArray).size=List.length (α:=UInt8) y:=by
      show(List.toArray (α:=UInt8) y).size=_
      exact List.size_toArray
     refine⟨?_,?_,?_⟩
     ·simp only[Builtin.len_]
      simp[run_underlying hT,e1,len]
     ·simp only[len];omega
     ·simp only[len];omega
   | slice e =>
     obtain rfl:=Option.some.inj hl
     obtain⟨cs,h1,h2⟩:=dP.1 hv
     rcases h1 with ⟨⟨_,h1⟩,h3⟩|⟨blk,off,cap,h1,h3,h4,_⟩
     ·rw[h1] at h2
      exact slv ⟨e,iu ht⟩ (show x=.slice _ 0 0 from h2) (by rw[h3];rfl) (Nat.zero_le _)
     ·rw[h1] at h2
      exact slv ⟨e,iu ht⟩ (show x=.slice _ _ _ from h2) rfl (Nat.le_trans h3 h4)
   | arr m e =>
     obtain⟨eZ,f1,_⟩:=(hc.T _ _ (iu ht)).arr
     simp only[lenOf] at hl
     cases hb:Nat.ble m 4294967296 with
     | false=>rw[hb] at hl;cases hl
     | true =>
       rw[hb] at hl
       obtain rfl:=Option.some.inj hl
       have:=Nat.le_of_ble_eq_true hb
       have h9:(4294967296:Int)≤IntKind.i64.max:=by decide
       refine⟨by simp[Builtin.len_,run_underlying f1],by omega,by omega⟩
   | _=>cases hl
 | nH =>
   obtain rfl:=Option.some.inj hl
   obtain rfl:x=_:=by simpa [cw] using hv
   exact slv (VB ht) rfl rfl (Nat.zero_le _)
 | whole b aC =>
   simp only[lenOf] at hl
   split at hl
   ·rename_i bx hb
    cases Yx:(Nat.beq bx.aC aC&&bx.buf) with
    | false=>rw[Yx] at hl;cases hl
    | true =>
      rw[Yx] at hl
      simp only[Bool.and_eq_true] at Yx
      simp only[cond_true] at hl
      split at hl
      ·rename_i u l mH
       obtain rfl:=Option.some.inj hl
       obtain⟨e',k,g1,g2,g3⟩:=bq hb (Nat.eq_of_beq_eq_true Yx.1) hv.2
       rw[bU.dH g1 mH] at g2
       obtain⟨rfl,rfl⟩:=Prod.mk.inj (Option.some.inj g2)
       rcases g3 with ⟨g3,g4⟩|⟨blk,cap,g3,g4⟩
       ·have jj:=hm.boxes b bx hb
        rw[cP,g1] at jj
        obtain⟨e3,l3,q1,q2,q3⟩:=jj
        rw[mH] at q1
        cases q1
        rcases q3 with ⟨_,q3⟩|⟨blk,cap,cur,tid,fr,q3,_⟩
        ·exact slv (VB ht) (List.head_eq_of_cons_eq g4) (by rw[q3];rfl) (Nat.zero_le _)
        ·rw[g3] at q3;cases q3
       ·obtain⟨cur,tid,fr,q1,q2,q3,q4,_⟩:=((hm.boxes b bx hb).row g3).1 _ l g1 mH
        exact slv (VB ht) (List.head_eq_of_cons_eq g4) rfl (Nat.le_trans q3 q4)
      ·cases hl
   ·cases hl
 | part b aC lo n' =>
   simp only[lenOf] at hl
   cases hlv:live σ b aC with
   | false=>rw[hlv] at hl;cases hl
   | true =>
     rw[hlv] at hl
     obtain rfl:=Option.some.inj hl
     obtain⟨bx,hb,bt⟩:=kS hlv
     obtain⟨e',k,g2,g3,g4,g5,base,cap,g6,g7,g8,gF,g9⟩:=bq hb bt hv.2
     exact slv (VB ht) (List.head_eq_of_cons_eq g6) (Int.toNat_of_nonneg g4).symm (Nat.le_trans g7 g8)
 | _=>cases hl
theorem eG.take{w:World}{I:Nat→Nat→Prop}{e:Ty}{l:List e.den}{cs:List Value}(h:eG w I e l cs)(k:Nat):eG w I e (l.take k) (cs.take (k*e.size)):=by
 intro i x hx
 rw[List.getElem?_take] at hx
 split at hx
 ·rename_i hi
  have hm:(i+1)*e.size≤k*e.size:=Nat.mul_le_mul_right _ hi
  rw[Nat.succ_mul] at hm
  rw[List.drop_take,List.take_take,Nat.min_eq_left (by omega)]
  exact h i x hx
 ·cases hx
theorem eG.drop{w:World}{I:Nat→Nat→Prop}{e:Ty}{l:List e.den}{cs:List Value}(h:eG w I e l cs)(k:Nat):eG w I e (l.drop k) (cs.drop (k*e.size)):=by
 intro i x hx
 rw[List.getElem?_drop] at hx
 rw[List.drop_drop,←Nat.add_mul]
 exact h _ x hx
theorem zl{α:Type}{l m:List α}{lo:Int}(h0:0≤lo)(h:lo+m.length≤l.length):(over l lo m).length=l.length:=by
 simp only[over,List.length_append,List.length_take,List.length_drop];omega
theorem eG.over{w:World}{I:Nat→Nat→Prop}{e:Ty}{l m:List e.den}{cs news:List Value}{lo:Int}(h:eG w I e l cs)(hm:eG w I e m news)(hn:news.length=m.length*e.size)(h0:0≤lo)
  (hl:lo+m.length≤l.length) (hc:l.length*e.size≤cs.length):eG w I e (over l lo m) (splice cs (lo.toNat*e.size) news):=by
 have h1:(lo.toNat+m.length)*e.size≤l.length*e.size:=Nat.mul_le_mul_right _ (by omega)
 rw[Nat.add_mul] at h1
 have a1:=(h.take lo.toNat).append (rest:=[]) hm (by rw[List.length_take,List.length_take,Nat.min_eq_left (by omega),Nat.min_eq_left (by omega)]) hn
 rw[List.append_nil] at a1
 have a2:=a1.append (rest:=[]) (h.drop (lo.toNat+m.length)) (by rw[List.length_append,List.length_append,Nat.add_mul,hn,List.length_take,List.length_take,Nat.min_eq_left (by omega),Nat.min_eq_left (by omega)])
 have e1:splice cs (lo.toNat*e.size) news=cs.take (lo.toNat*e.size)++news++cs.drop ((lo.toNat+m.length)*e.size):=by
  simp only[splice,hn,Nat.add_mul]
 rw[e1]
 intro i x hx
 have hi:i<l.length:=by have:=(List.getElem?_eq_some_iff.1 hx).1;rw[zl h0 hl] at this;exact this
 have hm1:(i+1)*e.size≤l.length*e.size:=Nat.mul_le_mul_right _ hi
 by_cases abO:(lo.toNat+m.length)*e.size+(l.length-(lo.toNat+m.length))*e.size=l.length*e.size
 ·have a3:eG w I e (Go.Ge.over l lo m) (cs.take (lo.toNat*e.size)++news++(cs.drop ((lo.toNat+m.length)*e.size))):=by
   intro i x hx
   by_cases hil:i<lo.toNat+m.length
   ·have hx':(l.take lo.toNat++m)[i]?=some x:=by
     simp only[Go.Ge.over] at hx
     rw[List.getElem?_append_left (by rw[List.length_append,List.length_take];omega)] at hx
     exact hx
    have hm2:(i+1)*e.size≤(lo.toNat+m.length)*e.size:=Nat.mul_le_mul_right _ hil
    rw[mL (by rw[List.length_append,List.length_take,hn,Nat.min_eq_left (by omega),←Nat.add_mul];exact hm2)]
    exact a1 i x hx'
   ·have hx':(l.drop (lo.toNat+m.length))[i-(lo.toNat+m.length)]?=some x:=by
     simp only[Go.Ge.over] at hx
     rw[List.getElem?_append_right (by rw[List.length_append,List.length_take];omega)] at hx
     rw[←hx];congr 1
     rw[List.length_append,List.length_take];omega
    have:=h.drop (lo.toNat+m.length) _ x hx'
    have e2:i*e.size=(cs.take (lo.toNat*e.size)++news).length+(i-(lo.toNat+m.length))*e.size:=by
     rw[List.length_append,List.length_take,hn,Nat.min_eq_left (by omega),←Nat.add_mul,←Nat.add_mul];congr 1;omega
    rw[e2,←List.drop_drop,List.drop_left]
    exact this
  exact a3 i x hx
 ·exact absurd (by rw[←Nat.add_mul];congr 1;omega) abO
theorem ue(h:cX B N γ σ a w){e:Ty}{m:List e.den}{b aC:Nat}{q:List FK}{VH:Nat→Ty→Bool}{lo:Int}{base:Option Addr}{news:List Value}
  (hr:(jh e m b aC q VH lo σ).run=some σ') (hE:eG w γ.I e m news) (hn:news.length=m.length*e.size) (hone:∀u∈news,u.oneCell'=true) (h0:0≤lo)
  (bK:∀bx (l:List e.den),σ.mem b=some bx→bx.aC=aC→bx.buf=true→bx.val=.data (.slice e) l→q=[]→lo+m.length≤l.length)
  (adN:∀bx k (l:List e.den),σ.mem b=some bx→bx.aC=aC→bx.buf=false→(VA q bx.val).run=some (.data (.arr k e) l)→VH k e=true→lo+m.length≤k)
  (hbase:m=[]∨∃blk c,γ.loc b=some (blk,c)∧base=some ⟨blk,cQ q+lo.toNat*e.size,none⟩) :
  ∃w',(match base with|some ad=>storeCells ad news|none=>pure ()).run P w=.ok () w'∧cX B N γ σ' a w'∧Ext B γ σ.mem w γ σ'.mem w':=by
 unfold jh at hr
 split at hr
 case h_2=>cases hr
 rename_i bx hb
 obtain⟨hcd,hr2⟩:=aD hr
 simp only[Bool.and_eq_true,Bool.not_eq_true'] at hcd
 obtain⟨⟨bt,hlk⟩,hro⟩:=hcd
 have bt:=Nat.eq_of_beq_eq_true bt
 have jj:=h.ok.boxes b bx hb
 have hnil:m=[]→news=[]:=fun hm=>by subst hm;simpa using hn
 have abP:m=[]→(match base with|some ad=>storeCells ad news|none=>pure ()).run P w=.ok () w:=fun hm=>by
  rw[hnil hm];cases base<;>rfl
 have V2:∀(blk c:Nat) (cur:Array Value) (tid:TypeId) (fr:Nat×Nat),γ.loc b=some (blk,c)→w.heap[blk]?=some (.cells cur tid fr)→ld cur fr→cQ q+lo.toNat*e.size+news.length≤cur.size →
   (match base with|some ad=>storeCells ad news|none=>pure ()).run P w=.ok () (w.setRow blk (splice cur.toList (cQ q+lo.toNat*e.size) news).toArray):=by
  intro blk c cur tid fr hl hg HW hle
  rcases hbase with hm|⟨dF,c',hl',rfl⟩
  ·rw[abP hm,hnil hm]
   simp only[splice,List.append_nil,List.length_nil,Nat.add_zero,List.take_append_drop,Array.toArray_toList]
   rw[setRow_self w blk cur tid fr hg]
  ·rw[hl] at hl'
   obtain⟨rfl,rfl⟩:=Prod.mk.inj (Option.some.inj hl')
   have:=dn (P:=P) blk (cQ q+lo.toNat*e.size) tid fr news 0 cur w hg HW (by omega) hone
   rw[Nat.add_zero] at this
   exact this
 split at hr2
 ·rename_i Dp
  split at hr2
  case h_2=>cases hr2
  rename_i u l mH
  split at hr2
  case h_2=>cases hr2
  rename_i m' hm'
  obtain rfl:=Option.some.inj hr2
  obtain⟨hq,Z7⟩:=ku hm'
  subst hq
  obtain rfl:m'=m:=Z7
  have hle:=bK bx l hb bt Dp mH rfl
  have hlen:=zl h0 hle
  unfold cP at jj
  rw[Dp] at jj
  obtain⟨e2,l2,j1,j2,j3⟩:=jj
  rw[mH] at j1
  cases j1
  have hrw:({ bx with val:=.data (.slice e) (over l lo m') }:bU).row=bx.row:=by
   rw[bU.dH Dp mH]
   exact(bU.dH (bx:=⟨.data (.slice e) (over (α:=e.den) l lo m'),bx.tid,bx.buf,bx.ro,bx.lk,bx.aC⟩) (l:=over (α:=e.den) l lo m') Dp rfl).trans (by rw[hlen])
  rcases j3 with ⟨k1,k2⟩|⟨blk,cap,cur,tid,fr,k1,k2,k3,iq,k4,k5,k6,k7⟩
  ·subst k2
   have hm0:m'=[]:=by
    cases m' with
    | nil=>rfl
    | cons x r=>simp at hle;omega
   subst hm0
   have e1:σ.cr b { bx with val:=.data (.slice e) (over ([]:List e.den) lo []) }=σ:=by
    have:({ bx with val:=.data (.slice e) (over ([]:List e.den) lo []) }:bU)=bx:=by
     cases bx;simp only at mH;subst mH;simp[over]
    rw[this]
    cases σ
    simp only[St.cr]
    congr 1
    funext i
    by_cases hi:i=b
    ·subst hi;simp only[Nat.beq_refl,cond_true];exact hb.symm
    ·simp[gK hi]
   rw[e1]
   exact⟨w,abP rfl,h,Ext.refl _ _ _ _⟩
  ·have hoff:cQ ([]:List FK)+lo.toNat*e.size+news.length≤cur.size:=by
    have:(lo.toNat+m'.length)*e.size≤cap*e.size:=Nat.mul_le_mul_right _ (by omega)
    rw[Nat.add_mul] at this
    simp only[cQ];omega
   have hst:=V2 blk cap cur tid fr k1 k2 k3.th hoff
   have hle2:lo.toNat*e.size+news.length≤cur.toList.length:=by simp only[cQ] at hoff;show _≤cur.size;omega
   have hsz:(splice cur.toList (lo.toNat*e.size) news).toArray.size=cur.size:=by have:=bO hle2;simpa using this
   obtain⟨m1,m2⟩:=h.ok.write hb hro k1 k2 (cur':=(splice cur.toList (lo.toNat*e.size) news).toArray) (v:=.data (.slice e) (over l lo m')) hsz hrw
    (fun w' mem' hx hg=>by
     show cP γ mem' w' b { bx with val:=.data (.slice e) (over l lo m') }
     unfold cP
     simp only[Dp]
     refine⟨e,_,rfl,j2,.inr ⟨blk,cap,_,tid,fr,k1,hg,k3.same hsz,iq,by rw[hlen];exact k4,k5,by rw[hsz];exact k6,?_⟩⟩
     intro i x hx'
     have:=eG.over (l:=l) (cs:=cur.toList) k7 hE hn h0 hle (by show _≤cur.size;rw[k6];exact Nat.mul_le_mul_right _ k4) i x hx'
     simpa using bG.mono hx.I hx.cells this)
   simp only[cQ,Nat.zero_add] at hst
   exact⟨_,hst,h.go m2 m1,m2⟩
 ·rename_i Dp
  obtain⟨old,V3,jG⟩:=bind_some hr2
  split at jG
  case h_2=>cases jG
  rename_i k u l
  obtain⟨hck,td⟩:=aD jG
  split at td
  case h_2=>cases td
  rename_i m' hm'
  obtain⟨c,hs,Rf⟩:=bind_some td
  obtain rfl:=Option.some.inj Rf
  obtain⟨hq,Z7⟩:=ku hm'
  subst hq
  obtain rfl:m'=m:=Z7
  have hle:=adN bx k l hb bt Dp V3 hck
  unfold cP at jj
  rw[Dp] at jj
  obtain⟨blk,cap,cur,tid,fr,k1,k2,k3,iq,k4⟩:=jj
  obtain⟨p1,p2⟩:=xG k4 V3
  have hvs:eN (.data (.arr k e) l)=k*e.size:=rfl
  rw[hvs] at p1 p2
  obtain⟨r1,r2,r3⟩:=p2
  have hll:lo+m'.length≤(List.length (α:=e.den) l:Int):=by rw[r1];exact hle
  have hlen:List.length (α:=e.den) (over (α:=e.den) l lo m')=List.length (α:=e.den) l:=zl (l:=l) h0 hll
  have adP:(lo.toNat+m'.length)*e.size≤k*e.size:=Nat.mul_le_mul_right _ (by omega)
  rw[Nat.add_mul] at adP
  have hoff:cQ q+lo.toNat*e.size+news.length≤cur.size:=by have p1':cQ q+k*e.size≤cur.size:=p1;omega
  have hst:=V2 blk cap cur tid fr k1 k2 k3 hoff
  have Yy:((cur.toList.drop (cQ q)).take (k*e.size)).length=k*e.size:=r2
  have ZG:lo.toNat*e.size+news.length≤((cur.toList.drop (cQ q)).take (k*e.size)).length:=by rw[Yy];omega
  have hnew:bG w γ.I (.arr k e) (over l lo m') (splice ((cur.toList.drop (cQ q)).take (k*e.size)) (lo.toNat*e.size) news):=by
   refine⟨hlen.trans r1,by rw[bO ZG,Yy],?_⟩
   exact eG.over (l:=l) r3 hE hn h0 hll (by rw[Yy];exact Nat.le_of_eq (by rw[r1]))
  have adQ:=qU cur.toList (cQ q) (lo.toNat*e.size) (k*e.size) news (by omega) p1
  have hrw:({ bx with val:=c }:bU).row=bx.row:=FT (bx:=bx) (p:=q) (v:=.data (.arr k e) (over l lo m')) (by rw[Dp];exact hs) fun hp _=>by
   subst hp
   have mH:bx.val=.data (.arr k e) l:=Option.some.inj V3
   rw[bU.pR Dp mH]
   exact bU.pR (bx:=⟨_,bx.tid,bx.buf,bx.ro,bx.lk,bx.aC⟩) Dp rfl
  have hle2:cQ q+lo.toNat*e.size+news.length≤cur.toList.length:=hoff
  have hsz:(splice cur.toList (cQ q+lo.toNat*e.size) news).toArray.size=cur.size:=by have:=bO hle2;simpa using this
  obtain⟨m1,m2⟩:=h.ok.write hb hro k1 k2 (cur':=(splice cur.toList (cQ q+lo.toNat*e.size) news).toArray) (v:=c) hsz hrw
   (fun w' mem' hx hg=>by
    show cP γ mem' w' b { bx with val:=c }
    unfold cP
    simp only[Dp]
    refine⟨blk,cap,_,tid,fr,k1,hg,k3.same hsz,iq,?_⟩
    have:=Ce (k4.ext hx) V3 hs (show cw γ mem' w' (.data (.arr k e) (over l lo m')) .cells _ from bG.mono hx.I hx.cells hnew) (by rw[bO ZG,Yy];rfl)
    rw[adQ] at this
    simpa using this)
  exact⟨_,hst,h.go m2 m1,m2⟩
theorem Dq{e:Ty}{mf:Int→List e.den}{t:aS}{tv:Value}{r:Int×St}(h:cX B N γ σ a w)(hv:cw γ σ.mem w t .val [tv])(hr:(EM e mf t σ).run=some r) :
  ∃base cap,tv=.slice base r.1.toNat cap∧0≤r.1∧∀news,eG w γ.I e (mf r.1) news→news.length=(mf r.1).length*e.size→(∀u∈news,u.oneCell'=true)→(mf r.1).length≤r.1.toNat →
   ∃w',(match base with|some ad=>storeCells ad news|none=>pure ()).run P w=.ok () w'∧cX B N γ r.2 a w'∧Ext B γ σ.mem w γ r.2.mem w':=by
 unfold EM at hr
 split at hr
 ·rename_i b aC lo n
  obtain⟨σ1,kD,hr2⟩:=bind_some hr
  obtain rfl:=Option.some.inj hr2
  have OJ:∃bx,σ.mem b=some bx∧bx.aC=aC:=by
   unfold jh at kD
   split at kD
   ·rename_i bx hb
    obtain⟨hcd,_⟩:=aD kD
    simp only[Bool.and_eq_true] at hcd
    exact⟨bx,hb,Nat.eq_of_beq_eq_true hcd.1.1⟩
   ·cases kD
  obtain⟨bx,hb,bt⟩:=OJ
  obtain⟨e',k,g2,g3,g4,g5,base,cap,g6,g7,g8,gF,g9⟩:=bq hb bt hv.2
  refine⟨base,cap,by simpa using g6,g4,fun news hE hn hone hle=>?_⟩
  dsimp only at hE hn hle
  refine ue h kD hE hn hone g3 (fun gu l hb' _ Dp mH _=>?_) (fun gu k' l hb' _ Dp V3 _=>?_) ?_
  ·obtain rfl:=Option.some.inj (hb.symm.trans hb')
   rw[bU.dH Dp mH] at g2
   obtain⟨_,rfl⟩:=Prod.mk.inj (Option.some.inj g2)
   omega
  ·obtain rfl:=Option.some.inj (hb.symm.trans hb')
   have mH:bx.val=.data (.arr k' e) l:=Option.some.inj V3
   rw[bU.pR Dp mH] at g2
   obtain⟨_,rfl⟩:=Prod.mk.inj (Option.some.inj g2)
   omega
  ·rcases g9 with g9|⟨blk,c,g9,g10⟩
   ·left
    exact List.eq_nil_of_length_eq_zero (by rw[g9,show(0:Int).toNat=0 from rfl] at hle;rw[g9];omega)
   ·by_cases hm:mf n=[]
    ·exact .inl hm
    ·right
     have he:e'=e:=by
      unfold jh at kD
      rw[hb] at kD
      obtain⟨_,jG⟩:=aD kD
      split at jG
      ·rename_i Dp
       split at jG
       case h_2=>cases jG
       rename_i u l mH
       split at jG
       case h_2=>cases jG
       rename_i m' hm'
       obtain⟨hq,_⟩:=ku hm'
       rw[bU.dH Dp mH] at g2
       obtain⟨rfl,_⟩:=Prod.mk.inj (Option.some.inj g2)
       exact hq.symm
      ·rename_i Dp
       obtain⟨old,V3,td⟩:=bind_some jG
       split at td
       case h_2=>cases td
       rename_i k' u l
       obtain⟨_,Rf⟩:=aD td
       split at Rf
       case h_2=>cases Rf
       rename_i m' hm'
       obtain⟨hq,_⟩:=ku hm'
       have mH:bx.val=.data (.arr k' u) l:=Option.some.inj V3
       rw[bU.pR Dp mH] at g2
       obtain⟨rfl,_⟩:=Prod.mk.inj (Option.some.inj g2)
       exact hq.symm
     subst he
     exact⟨blk,c,g9,by rw[g10];simp[cQ]⟩
 ·rename_i b aC
  split at hr
  case h_2=>cases hr
  rename_i n hlen
  obtain⟨σ1,kD,hr2⟩:=bind_some hr
  obtain rfl:=Option.some.inj hr2
  have OJ:∃bx,σ.mem b=some bx∧bx.aC=aC:=by
   unfold jh at kD
   split at kD
   ·rename_i bx hb
    obtain⟨hcd,_⟩:=aD kD
    simp only[Bool.and_eq_true] at hcd
    exact⟨bx,hb,Nat.eq_of_beq_eq_true hcd.1.1⟩
   ·cases kD
  obtain⟨bx,hb,bt⟩:=OJ
  obtain⟨e',k,g1,g2,g3⟩:=bq hb bt hv.2
  have rS:=h.ok.boxes b bx hb
  have hl:∃l:List e.den,bx.val=.data (.slice e) l∧n=l.length:=by
   unfold jh at kD
   rw[hb] at kD
   obtain⟨_,jG⟩:=aD kD
   split at jG
   ·split at jG
    case h_2=>cases jG
    rename_i u l hq0 mH
    split at jG
    case h_2=>cases jG
    rename_i m' hm'
    obtain⟨hq,_⟩:=ku hm'
    subst hq
    refine⟨l,mH,?_⟩
    simp only[lenOf,hb,bt,g1,Nat.beq_refl,Bool.and_self,cond_true,mH] at hlen
    exact(Option.some.inj hlen).symm
   ·rename_i Dp
    rw[g1] at Dp;cases Dp
  obtain⟨l,mH,rfl⟩:=hl
  rw[bU.dH g1 mH] at g2
  obtain⟨rfl,rfl⟩:=Prod.mk.inj (Option.some.inj g2)
  have fin:∀{base:Option Addr} {cap:Nat},tv=.slice base l.length cap→(l.length=0∨∃blk c,γ.loc b=some (blk,c)∧base=some ⟨blk,0,none⟩) →
    ∃base cap,tv=.slice base (l.length:Int).toNat cap∧(0:Int)≤l.length∧∀news,eG w γ.I e (mf l.length) news→news.length=(mf l.length).length*e.size→(∀u∈news,u.oneCell'=true)→(mf l.length).length≤(l.length:Int).toNat →
     ∃w',(match base with|some ad=>storeCells ad news|none=>pure ()).run P w=.ok () w'∧cX B N γ σ1 a w'∧Ext B γ σ.mem w γ σ1.mem w':=by
   intro base cap htv hb0
   refine⟨base,cap,by simpa using htv,by omega,fun news hE hn hone hle=>?_⟩
   refine ue h kD hE hn hone (by omega) (fun gu l' hb' _ Dp abQ _=>?_) (fun gu k' l' hb' _ Dp V3 _=>?_) ?_
   ·obtain rfl:=Option.some.inj (hb.symm.trans hb')
    rw[mH] at abQ
    cases abQ
    omega
   ·obtain rfl:=Option.some.inj (hb.symm.trans hb')
    rw[g1] at Dp;cases Dp
   ·rcases hb0 with hb0|⟨blk,c,q1,q2⟩
    ·left;exact List.eq_nil_of_length_eq_zero (by omega)
    ·right;exact⟨blk,c,q1,by rw[q2];simp[cQ]⟩
  rcases g3 with ⟨g3,g4⟩|⟨blk,cap,g3,g4⟩
  ·obtain g4:tv=_:=by simpa using g4
   rw[cP,g1] at rS
   obtain⟨e2,l2,j1,j2,j3⟩:=rS
   rw[mH] at j1
   cases j1
   rcases j3 with ⟨_,j4⟩|⟨_,_,_,_,_,j3,_⟩
   ·exact fin (base:=none) (cap:=0) (by rw[g4,j4];rfl) (.inl (by rw[j4];rfl))
   ·rw[g3] at j3;cases j3
  ·exact fin (List.head_eq_of_cons_eq g4) (.inr ⟨blk,cap,g3,rfl⟩)
 ·rename_i b aC q u k lo n
  obtain⟨σ1,kD,hr2⟩:=bind_some hr
  obtain rfl:=Option.some.inj hr2
  have OJ:∃bx,σ.mem b=some bx∧bx.aC=aC:=by
   unfold jh at kD
   split at kD
   ·rename_i bx hb
    obtain⟨hcd,_⟩:=aD kD
    simp only[Bool.and_eq_true] at hcd
    exact⟨bx,hb,Nat.eq_of_beq_eq_true hcd.1.1⟩
   ·cases kD
  obtain⟨bx,hb,bt⟩:=OJ
  obtain⟨hq,blk,c,g1,g3,g4,g5,base,cap,g6,g7,g9⟩:=bq hb bt hv.2
  refine⟨base,cap,by simpa using g6,g4,fun news hE hn hone hle=>?_⟩
  dsimp only at hE hn hle
  refine ue h kD hE hn hone g3 (fun gu l hb' _ Dp mH hq0=>absurd hq0 hq) (fun gu k' l hb' _ Dp V3 hck=>?_) ?_
  ·simp only[Bool.and_eq_true] at hck
   have:=Nat.eq_of_beq_eq_true hck.1
   omega
  ·rcases g9 with g9|g10
   ·left
    exact List.eq_nil_of_length_eq_zero (by rw[g9,show(0:Int).toNat=0 from rfl] at hle;rw[g9];omega)
   ·by_cases hm:mf n=[]
    ·exact .inl hm
    ·right
     have he:u=e:=by
      unfold jh at kD
      rw[hb] at kD
      obtain⟨_,jG⟩:=aD kD
      split at jG
      ·split at jG
       ·exact absurd rfl hq
       ·cases jG
      ·obtain⟨old,V3,td⟩:=bind_some jG
       split at td
       case h_2=>cases td
       obtain⟨hck,Rf⟩:=aD td
       split at Rf
       case h_2=>cases Rf
       rename_i m' hm'
       obtain⟨Yp,_⟩:=ku hm'
       simp only[Bool.and_eq_true] at hck
       exact(Ty.eq_of_beq hck.2).trans Yp.symm
     subst he
     exact⟨blk,c,g1,g10⟩
 ·cases hr
theorem Il{I:Nat→Nat→Prop}{e:Ty}{m:List e.den}{v:Value}(h:zh w I e m v)(n:Nat)(hn:n≤m.length) :
  ∃news,(Builtin.firstCells e.size n v).run P w=.ok news.toArray w∧news.length=n*e.size∧(∀u∈news,u.oneCell'=true)∧eG w I e (m.take n) news∧(Builtin.lenOf v).run P w=.ok m.length w:=by
 rcases h with ⟨rfl,base,cap,r1,r2,r3⟩|⟨blk,off,cap,r1,r2,r3,r4⟩
 ·obtain rfl:n=0:=by simpa using hn
  subst r1
  refine⟨[],?_,by simp,fun u hu=>absurd hu (by simp),fun i x hx=>absurd hx (by simp),rfl⟩
  cases base with
  | none=>rfl
  | some ad=>exact run_firstCells_some w e.size 0 ad 0 cap [] (by simp) (fun j v hj=>by cases hj)
 ·obtain⟨news,n1,n2,n3,n4⟩:=Ch (w:=w) (l:=m.take n) fun i x hx=>by
   rw[List.getElem?_take] at hx
   split at hx
   ·exact r4 i x hx
   ·cases hx
  rw[List.length_take,Nat.min_eq_left hn] at n1
  refine⟨news,?_,n1,n3,n4,by rw[r1];rfl⟩
  rw[r1]
  exact run_firstCells_some w e.size n _ m.length cap news n1 (fun j u hj=>by rw[addr_add];exact n2 j u hj)
theorem Im{I:Nat→Nat→Prop}{s:List UInt8}(n:Nat)(hn:n≤s.length) :
  ∃news,(Builtin.firstCells 1 n (.string ⟨s.toArray⟩)).run P w=.ok news.toArray w∧news.length=n∧(∀u∈news,u.oneCell'=true)∧eG w I (.int .u8) ((ax s).take n:List Int) news∧(Builtin.lenOf (.string ⟨s.toArray⟩)).run P w=.ok (ax s).length w:=by
 refine⟨(s.take n).map fun b=>Value.int .u8 b.toNat,?_,by simp[hn],fun u hu=>?_,fun i x hx=>?_,?_⟩
 ·simp only[Builtin.firstCells,Sem.run_pure]
  congr 1
  apply Array.ext'
  have e1:(⟨s.toArray⟩:ByteArray).extract 0 n=⟨(s.take n).toArray⟩:=by
   have:=Oy s (i:=0) (j:=n) (by omega) (by omega)
   simpa [sub,minus] using this
  rw[e1]
  simp
 ·obtain⟨_,_,rfl⟩:=List.mem_map.1 hu;rfl
 ·have hx':((ax s).take n)[i]?=some x:=hx
  rw[List.getElem?_take] at hx'
  split at hx'
  ·rename_i hi
   simp only[ax,List.getElem?_map] at hx'
   cases hb:s[i]? with
   | none=>rw[hb] at hx';cases hx'
   | some b =>
     rw[hb] at hx'
     obtain rfl:(b.toNat:Int)=x:=Option.some.inj hx'
     refine⟨?_,MH b⟩
     apply List.ext_getElem?
     intro j
     rw[List.getElem?_take]
     split
     ·rename_i hj
      obtain rfl:j=0:=by simp[Ty.size] at hj;exact hj
      rw[List.getElem?_drop]
      simp[Ty.size,hb,hi]
     ·rename_i hj
      obtain⟨k,rfl⟩:∃k,j=k+1:=⟨j-1,by simp[Ty.size] at hj;omega⟩
      simp
  ·cases hx'
 ·simp[Builtin.lenOf,ax,ByteArray.size]
theorem wH(s:List UInt8):(ax s).length=s.length:=List.length_map ..
theorem V4{s:List UInt8}{n:Nat}(h:n≤(ax s).length):n≤s.length:=by rw[wH] at h;exact h
theorem Rn(hm:bE B γ σ.mem w){e:Ty}{m:List e.den}{x:aS}{v:Value}(hv:cw γ σ.mem w x .val [v])(h:tV e σ x=some m)(n:Nat)(hn:n≤m.length) :
  ∃news,(Builtin.firstCells e.size n v).run P w=.ok news.toArray w∧news.length=n*e.size∧(∀u∈news,u.oneCell'=true)∧eG w γ.I e (m.take n) news∧(Builtin.lenOf v).run P w=.ok m.length w:=by
 unfold tV at h
 split at h
 ·rename_i t
  obtain⟨q,hq⟩:=ku h
  subst q;subst hq
  obtain⟨ev,_⟩:=vC hv
  rw[ev]
  have hn':n≤List.length (α:=UInt8) t:=V4 hn
  obtain⟨news,n1,n2,n3,n4,n5⟩:=Im (P:=P) (w:=w) (I:=γ.I) (s:=t) n hn'
  exact⟨news,n1,by rw[n2];simp[Ty.size],n3,n4,n5⟩
 ·exact Il (qF hm hv h) n hn
theorem Io(hc:fC P cx){tt tx ty:TypeId}{t x:Operand}(h:cX B N γ σ a w)(hd:∀k,d=some k→k<N)(hr:(wq cx d tt (cJ σ t) (cJ σ x) σ).run=some σ') :
  oJ P B N γ σ a w d (Builtin.copy_ #[tt,tx] ty #[a.eval t,a.eval x]) σ':=by
 unfold wq at hr
 split at hr
 case h_2=>cases hr
 rename_i e hT
 split at hr
 case h_1=>cases hr
 rename_i m hm
 obtain⟨r,kD,hr2⟩:=bind_some hr
 obtain rfl:=Option.some.inj hr2
 obtain⟨eZ,k1,k2,k3,k4⟩:=(hc.T _ _ hT).slice
 obtain⟨base,cap,c1,c2,c3⟩:=Dq (P:=P) h (h.cJ t) kD
 have hlen:(kz (α:=e.den) m r.1).length=Nat.min m.length r.1.toNat:=by
  simp only[kz,List.length_take];exact Nat.min_comm _ _
 obtain⟨news,n1,n2,n3,n4,n5⟩:=Rn (P:=P) h.ok (h.cJ x) hm (Nat.min m.length r.1.toNat) (Nat.min_le_left _ _)
 have abR:(m.take (Nat.min m.length r.1.toNat))=kz (α:=e.den) m r.1:=by
  simp only[kz]
  rcases Nat.le_total m.length r.1.toNat with hle|hle
  ·rw[show Nat.min m.length r.1.toNat=m.length from Nat.min_eq_left hle,List.take_of_length_le (Nat.le_refl _),List.take_of_length_le hle]
  ·rw[show Nat.min m.length r.1.toNat=r.1.toNat from Nat.min_eq_right hle]
 rw[abR] at n4
 obtain⟨w',s1,s2,s3⟩:=c3 news n4 (by rw[n2,hlen]) n3 (by rw[hlen];exact Nat.min_le_right _ _)
 have hmax:(kz (α:=e.den) m r.1).length≤maxLen:=by
  rcases Nat.eq_zero_or_pos (kz (α:=e.den) m r.1).length with h0|h0
  ·omega
  ·rw[hlen]
   refine Nat.le_trans (Nat.min_le_left _ _) ?_
   have hv:=h.cJ x
   unfold tV at hm
   split at hm
   ·rename_i s hs
    obtain⟨q,hq⟩:=ku hm
    subst q;subst hq
    rw[hs] at hv
    obtain⟨_,h2⟩:=vC hv
    exact Nat.le_trans (Nat.le_of_eq (wH s)) h2
   ·rcases qF h.ok hv hm with ⟨rfl,_⟩|⟨_,_,cap,_,h2,h3,_⟩
    ·exact Nat.zero_le _
    ·exact Nat.le_trans h2 h3
 refine⟨goInt (kz (α:=e.den) m r.1).length,w',γ,?_,?_,?_⟩
 ·have hsz:=k2.sizeOf w
  simp only[Builtin.copy_,c1]
  simp only[List.getElem?_toArray,List.getElem?_cons_zero,List.getElem?_cons_succ,Sem.run_bind,run_underlying k1,Result.andThen_ok,n5,hsz,n1,hlen]
  cases base with
  | none=>simp only[Sem.run_pure,Result.andThen_ok] at s1⊢;injection s1 with _ s1;subst s1;rfl
  | some ad=>simp only at s1⊢;simp only[Sem.run_bind,s1,Result.andThen_ok,Sem.run_pure]
 ·have h9:(maxLen:Int)≤IntKind.i64.max:=by decide
  have h8:IntKind.i64.min≤0:=by decide
  have:=s2.ua hd (v:=.data (.int .i64) (len (kz (α:=e.den) m r.1))) (val:=goInt (kz (α:=e.den) m r.1).length) (mkInt ⟨by simp only[len];omega,by simp only[len];omega⟩)
  exact this
 ·cases d<;>exact s3
theorem GX(hc:fC P cx){tt ty:TypeId}{t:Operand}(h:cX B N γ σ a w)(hr:(wu cx tt (cJ σ t) σ).run=some σ') :
  oJ P B N γ σ a w none (Builtin.clear_ #[tt] ty #[a.eval t]) σ':=by
 unfold wu at hr
 split at hr
 case h_2=>cases hr
 rename_i e hT
 obtain⟨r,kD,hr2⟩:=bind_some hr
 obtain rfl:=Option.some.inj hr2
 obtain⟨eZ,k1,k2,k3,k4⟩:=(hc.T _ _ hT).slice
 obtain⟨base,cap,c1,c2,c3⟩:=Dq (P:=P) h (h.cJ t) kD
 have hlen:(Ms r.1 e.zero).length=r.1.toNat:=by simp[Ms]
 obtain⟨z,z1,z2⟩:=k2.zero w
 have hz:=ud z2 k4 r.1.toNat
 have X4:=mK w γ.I (.arr r.1.toNat e)
 have hcells:(Builtin.zeroCells z.cells r.1.toNat).toList=eF (.arr r.1.toNat e):=by
  have hzl:z.cells.size=e.size:=by rw[←dM e,←z2];simp
  rw[←hz]
  simp only[Builtin.zeroCells,madeCells,hzl]
 obtain⟨w',s1,s2,s3⟩:=c3 (eF (.arr r.1.toNat e)) (fun i x hx=>X4.2.2 i x hx) (by rw[dM,hlen];rfl) (fun u hu=>X4.one u hu) (Nat.le_of_eq hlen)
 refine⟨.tuple #[],w',γ,?_,s2,s3⟩
 simp only[Builtin.clear_,c1]
 simp only[List.getElem?_toArray,List.getElem?_cons_zero,Sem.run_bind,run_underlying k1,Result.andThen_ok]
 cases base with
 | none=>simp only[Sem.run_pure,Result.andThen_ok] at s1⊢;injection s1 with _ s1;subst s1;rfl
 | some ad =>
   simp only at s1
   by_cases h0:r.1.toNat=0
   ·have:eF (.arr r.1.toNat e)=[]:=List.eq_nil_of_length_eq_zero (by rw[dM];simp[Ty.size,h0])
    rw[this] at s1
    injection s1 with _ s1
    subst s1
    rw[h0]
    simp only[Sem.run_pure,Result.andThen_ok]
   ·obtain⟨k,hk⟩:∃k,r.1.toNat=k+1:=⟨r.1.toNat-1,by omega⟩
    rw[hk] at s1 hcells⊢
    simp only[Sem.run_bind,z1,Result.andThen_ok,hcells,s1,Sem.run_pure]
theorem Dr{least:Bool}{p q r:aS}{u v:Value}(hu:cw γ σ.mem w p .val [u])(hv:cw γ σ.mem w q .val [v])(hr:(Mt least p q).run=some r) :
  ∃z,((if least then Builtin.min2 u v else Builtin.max2 u v)).run P w=.ok z w∧cw γ σ.mem w r .val [z]:=by
 unfold Mt at hr
 split at hr
 ·rename_i k n k' m
  obtain⟨hk,hr2⟩:=aD hr
  obtain rfl:=wo hk
  obtain rfl:=Option.some.inj hr2
  obtain⟨rfl,h1⟩:=sF hu
  obtain⟨rfl,h2⟩:=sF hv
  have cmp:∀n m:Int,k.min≤n∧n≤k.max→k.min≤m∧m≤k.max→cw γ σ.mem w (.data (.int k) (ZU n m)) .val [.int k (if m<n then m else n)]∧cw γ σ.mem w (.data (.int k) (imax n m)) .val [.int k (if m > n then m else n)]:=by
   intro n m h1 h2
   constructor
   ·unfold ZU
    by_cases hlt:m<n
    ·simp only[hlt,decide_true,cond_true,if_true];exact mkInt h2
    ·simp only[hlt,decide_false,cond_false,if_false];exact mkInt h1
   ·unfold imax
    by_cases hlt:n<m
    ·simp only[hlt,decide_true,cond_true,gt_iff_lt,if_true];exact mkInt h2
    ·simp only[hlt,decide_false,cond_false,gt_iff_lt,if_false];exact mkInt h1
  cases least with
  | true=>exact⟨_,rfl,(cmp n m h1 h2).1⟩
  | false=>exact⟨_,rfl,(cmp n m h1 h2).2⟩
 ·cases hr
end
end Go.Ge
namespace Go.Ge
set_option linter.unusedVariables false
set_option linter.unusedSimpArgs false
open RowKit
section
variable {P:Program} {B:qz} {N:Nat} {γ:Gh} {σ σ':St} {a:Act} {w w':World} {d:Option Nat} {cx:Ctx} {nb:Nat} {bf:List Nat} {inl:Nat→List aS→St→Tree (aS×St)}
theorem MM{f:Operand→aS}{l:List Operand}{x:aS}(h:l.map f=[x]):∃o,l=[o]∧f o=x:=by
 cases l with
 | nil=>cases h
 | cons o r=>cases r with
   | nil=>exact⟨o,rfl,by simpa using h⟩
   | cons p r=>simp at h
theorem HC{f:Operand→aS}{l:List Operand}{x y:aS}(h:l.map f=[x,y]):∃o p,l=[o,p]∧f o=x∧f p=y:=by
 cases l with
 | nil=>cases h
 | cons o r =>
   obtain⟨p,hp,hq⟩:=MM (l:=r) (f:=f) (x:=y) (by simp at h⊢;exact h.2)
   subst hp
   exact⟨o,p,rfl,by simp at h;exact h.1,hq⟩
theorem eY{α:Type}{a:Array α}{l:List α}(h:a.toList=l):a=l.toArray:=by rw[←h]
theorem Ug{α:Type}(k:Value→Array Value→Sem α)(x:Value)(xs:Array Value):(match(#[x]++xs)[0]? with|some recv=>k recv ((#[x]++xs).extract 1 (#[x]++xs).size)|x=>stuck "call: a method without a receiver")=k x xs.toList.toArray:=by
 have h0:(#[x]++xs)[0]?=some x:=by rw[←Array.getElem?_toList,Array.toList_append];rfl
 have h1:(#[x]++xs).extract 1 (#[x]++xs).size=xs.toList.toArray:=by
  apply Array.ext'
  rw[Array.toList_extract,Array.toList_append,Array.size_append]
  simp[List.extract]
  rw[←Array.length_toList,List.take_length]
 rw[h0,h1]
theorem Ro(hc:fC P cx)(eg:oR P B.G cx)(lf:uV P B.G inl){o:Oper}{c:Call}(ho:o.op=.call c)(h:cX B N γ σ a w)(hd:∀k,o.dst=some k→k<N)
  (hr:(tW cx nb bf inl o.dst o.type c σ).run=some σ') {K:Act→World→Prop} {Q:Exit→Act→World→Prop} (hK:Dm B N γ σ a w o.dst σ' K):o.wp P a w K Q:=by
 unfold tW at hr
 split at hr
 ·rename_i b Ip
  split at hr
  ·
   rename_i x t hx ht
   obtain⟨ox,VF,rfl⟩:=MM hx
   cases hlt:Th (find cx.T t) (cJ σ ox) with
   | false =>
     rw[hlt] at hr
     simp only[cond_false] at hr
     split at hr
     ·rename_i e b aC q u k lo n he hx
      obtain⟨hl,hr2⟩:=aD hr
      simp only[Bool.and_eq_true,decide_eq_true_eq] at hl
      obtain rfl:=Option.some.inj hr2
      obtain⟨bx,rS,bt⟩:=kS hl.1
      have hv:=h.cJ ox
      rw[hx] at hv
      obtain⟨_,blk,c',g1,g2,g3,g4,base,cap,g5,g6,g7⟩:=bq rS bt hv.2
      obtain g5:a.eval ox=_:=by simpa using g5
      refine bR (s:=Builtin.len_ c.argTypes o.type (c.args.map a.eval)) ?_ (bM h hd (x:=.int .i64 n) ?_ (mkInt ?_)) hK
      ·unfold execOp
       simp only[ho,resolve,Ip,invoke,builtin]
       rfl
      ·rw[eY VF,eY ht,show Array.map a.eval [ox].toArray=#[a.eval ox] from by simp,g5]
       simp[Builtin.len_,run_underlying (Cg hc he).1,Int.toNat_of_nonneg g3]
       rfl
      ·exact⟨Int.le_trans (by decide) g3,Int.le_trans hl.2 (by decide)⟩
     ·exact absurd hr (by intro k;cases k)
   | true =>
   have hr2:(match lenOf σ (cJ σ ox) with|some n=>Tree.ret (σ.aU o.dst (.data (.int .i64) n))|none=>.fail).run=some σ':=by rw[hlt] at hr;exact hr
   split at hr2
   ·rename_i n hn
    obtain rfl:=Option.some.inj hr2
    obtain⟨l1,l2⟩:=OI (ty:=o.type) hc h.ok (h.cJ ox) hlt hn
    refine bR (s:=Builtin.len_ c.argTypes o.type (c.args.map a.eval)) ?_ (bM h hd (x:=.int .i64 n) ?_ (mkInt l2)) hK
    ·unfold execOp
     simp only[ho,resolve,Ip,invoke,builtin]
     rfl
    ·rw[eY VF,eY ht,show Array.map a.eval [ox].toArray=#[a.eval ox] from by simp];exact l1
   ·exact absurd hr2 (by intro k;cases k)
  ·rename_i s x t u hx ht
   obtain⟨os,ox,VF,rfl,rfl⟩:=HC hx
   have key:(∃e,P.underlying u=some (.slice e))∨P.underlying u=some .string→(gJ cx nb o.dst t (cJ σ os) (cJ σ ox) σ).run=some σ'→o.wp P a w K Q:=by
    intro hk hr2
    refine bR (s:=Builtin.append_ c.argTypes o.type (c.args.map a.eval)) ?_ ?_ hK
    ·unfold execOp
     simp only[ho,resolve,Ip,invoke,builtin]
     rfl
    ·rw[eY VF,eY ht,show Array.map a.eval [os,ox].toArray=#[a.eval os,a.eval ox] from by simp]
     exact E2 hc h hd hk hr2
   split at hr
   ·rename_i hu;exact key (.inr (hc.T _ _ hu).str) hr
   ·rename_i e hu
    obtain⟨eZ,f1,_⟩:=(hc.T _ _ hu).slice
    exact key (.inl ⟨eZ,f1⟩) hr
   ·exact absurd hr (by intro k;cases k)
  ·rename_i t x tt tx hx ht
   obtain⟨ot,ox,VF,rfl,rfl⟩:=HC hx
   have key:(wq cx o.dst tt (cJ σ ot) (cJ σ ox) σ).run=some σ'→o.wp P a w K Q:=by
    intro hr2
    refine bR (s:=Builtin.copy_ c.argTypes o.type (c.args.map a.eval)) ?_ ?_ hK
    ·unfold execOp
     simp only[ho,resolve,Ip,invoke,builtin]
     rfl
    ·rw[eY VF,eY ht,show Array.map a.eval [ot,ox].toArray=#[a.eval ot,a.eval ox] from by simp]
     exact Io hc h hd hr2
   split at hr
   ·exact key hr
   ·exact key hr
   ·exact absurd hr (by intro k;cases k)
  ·rename_i t tt hx ht
   obtain⟨ot,VF,rfl⟩:=MM hx
   split at hr
   ·rename_i Rp
    refine bR (s:=Builtin.clear_ c.argTypes o.type (c.args.map a.eval)) ?_ ?_ hK
    ·unfold execOp
     simp only[ho,resolve,Ip,invoke,builtin]
     rfl
    ·rw[eY VF,eY ht,show Array.map a.eval [ot].toArray=#[a.eval ot] from by simp,Rp]
     exact GX hc h hr
   ·exact absurd hr (by intro k;cases k)
  ·rename_i x y hx
   obtain⟨ox,oy,VF,rfl,rfl⟩:=HC hx
   obtain⟨v,hb,hr2⟩:=bind_some hr
   obtain rfl:=Option.some.inj hr2
   obtain⟨z,z1,z2⟩:=Dr (P:=P) (h.cJ ox) (h.cJ oy) hb
   refine bR (s:=Builtin.min_ c.argTypes o.type (c.args.map a.eval)) ?_ (bM h hd (x:=z) ?_ z2) hK
   ·unfold execOp
    simp only[ho,resolve,Ip,invoke,builtin]
    rfl
   ·rw[eY VF,show Array.map a.eval [ox,oy].toArray=#[a.eval ox,a.eval oy] from by simp]
    simp only[if_true] at z1
    simp[Builtin.min_,z1]
  ·rename_i x y hx
   obtain⟨ox,oy,VF,rfl,rfl⟩:=HC hx
   obtain⟨v,hb,hr2⟩:=bind_some hr
   obtain rfl:=Option.some.inj hr2
   obtain⟨z,z1,z2⟩:=Dr (P:=P) (h.cJ ox) (h.cJ oy) hb
   refine bR (s:=Builtin.max_ c.argTypes o.type (c.args.map a.eval)) ?_ (bM h hd (x:=z) ?_ z2) hK
   ·unfold execOp
    simp only[ho,resolve,Ip,invoke,builtin]
    rfl
   ·rw[eY VF,show Array.map a.eval [ox,oy].toArray=#[a.eval ox,a.eval oy] from by simp]
    simp only[Bool.false_eq_true,if_false] at z1
    simp[Builtin.max_,z1]
  ·exact absurd hr (by intro k;cases k)
 ·rename_i f Ip
  split at hr
  ·rename_i fid caps hf
   obtain⟨abS,hr2⟩:=aD hr
   have hv:=h.cJ f
   rw[hf] at hv
   obtain⟨arr,v1,v2,v3⟩:=hv
   obtain v1:=List.head_eq_of_cons_eq v1
   have V5:lK γ σ.mem w (caps.map fun b=>.ptr b.1 b.2 []) arr.toList:=by
    refine⟨by simpa using v2,fun i v x h1 h2=>?_⟩
    rw[List.getElem?_map] at h1
    cases hi:caps[i]? with
    | none=>rw[hi] at h1;cases h1
    | some bv =>
      rw[hi] at h1
      obtain rfl:=Option.some.inj h1
      have hl:=List.all_eq_true.1 abS bv (List.mem_of_getElem? hi)
      obtain⟨bx,hb,bt⟩:=kS hl
      have hof:=v3 i bv.1 bv.2 (by rw[hi])
      obtain⟨blk,cap,g1,g2⟩:=bq hb bt hof
      have hx:x=.pointer (some ⟨blk,0,none⟩):=by
       have:arr[i]?=some x:=by simpa using h2
       rw[g2] at this
       exact(Option.some.inj this).symm
      subst hx
      exact⟨⟨_,rfl,rfl⟩,bx,hb,Nat.le_of_eq bt.symm,fun _=>⟨blk,cap,g1,rfl⟩⟩
   have hall:lK γ σ.mem w (c.args.toList.map (cJ σ)++caps.map fun b=>.ptr b.1 b.2 []) (c.args.map a.eval++arr).toList:=by
    rw[Array.toList_append,Array.toList_map]
    exact(Lw h).append V5
   refine Ik (f:=fid) (xs:=c.args.map a.eval++arr) ?_ (Kk eg lf h hd hall hr2 hK)
   unfold execOp
   simp only[ho,resolve,Ip,Deferred.ofValue,v1,Sem.run_bind,Sem.run_pure,Result.andThen_ok,invoke]
   simp
  ·exact absurd hr (by intro k;cases k)
 ·
  rename_i r name Ip
  unfold qD at hr
  split at hr
  ·rename_i cn hcn
   split at hr
   ·rename_i x σ1 hx
    obtain⟨y,hy,hr2⟩:=b5 hr
    obtain rfl:=Option.some.inj hr2
    have hall:lK γ σ.mem w (cJ σ r::c.args.toList.map (cJ σ)) (a.eval r::(c.args.map a.eval).toList):=by
     rw[Array.toList_map]
     exact Lw (ops:=r::c.args.toList) h
    obtain⟨jb,s1,s2,s3⟩:=qV h hall hx
    obtain⟨f,u,e1,e2,e3⟩:=eg.inv name cn hcn jb.I w (a.eval r) _ x y (fun b o hi=>s1.ok.sU b o hi) s1.ok.Mw s3 hy
    refine Ik (f:=f) (xs:=(u::(c.args.map a.eval).toList).toArray) ?_ ⟨e2,e3.mono fun e w' hw=>?_⟩
    ·rw[←e1]
     unfold execOp
     simp only[ho,resolve,Ip,Sem.run_bind,Sem.run_pure,Result.andThen_ok,invoke]
     exact congrArg (fun z:Sem Next=>z.run P w) (Ug (fun v=>callMethod v name) (a.eval r) (Array.map a.eval c.args))
    ·obtain⟨v,I',h1,h2,h3,h4,h5,h6⟩:=hw
     refine⟨v,h1,?_⟩
     obtain⟨m1,m2⟩:=s1.ok.far (I':=I') h2 h3 h4 h5
     refine hK ⟨I',jb.loc⟩ _ w' (s1.aU m2 m1 hd (h6.rep (fun _ _ hi=>hi))) ?_
     cases o.dst<;>exact s2.trans m2
   ·exact absurd hr (by intro k;cases k)
  ·exact absurd hr (by intro k;cases k)
theorem OK{I:Nat→Nat→Prop}{tid:TypeId}{u:Nat}:∀{t:Ty} {a:Ty} {f:a.den→t.den},Den P t tid→Oj t u=some ⟨a,f⟩ →
  P.concrete u=true∧∀(y:a.den) (cs:List Value),bG w I a y cs→bG w I t (f y) [.iface u (cA a cs)]:=by
 intro t
 induction t with
 | alt n a r jE ihr =>
   intro b f hd h
   unfold Oj at h
   obtain⟨h1,h2⟩:=hd.rest
   cases hn:Nat.beq n u with
   | true =>
     rw[hn] at h
     obtain rfl:=Nat.eq_of_beq_eq_true hn
     cases h
     exact⟨h2,fun y cs hy=>⟨h1.VL hd,cs,rfl,hy⟩⟩
   | false =>
     rw[hn] at h
     simp only[cond_false] at h
     split at h
     ·rename_i b' g hg
      cases h
      obtain⟨k1,k2⟩:=ihr h1 hg
      exact⟨k1,fun y cs hy=>k2 y cs hy⟩
     ·cases h
 | _=>intro b f hd h;cases h
theorem Yz{tid:TypeId}{u:Nat}{t:Ty}{a:Ty}{f:a.den→t.den}(hd:Den P t tid)(h:Oj t u=some ⟨a,f⟩):t.isAgg=false:=by
 cases t with
 | alt n b r=>simp only[Den,ff,Bool.and_eq_true] at hd;exact(Ty.HU hd.2).2
 | _=>cases h
theorem GY(hc:fC P cx){ty u:TypeId}{x:Operand}(h:cX B N γ σ a w)(hd:∀k,d=some k→k<N)(hr:(qC cx d ty u (cJ σ x) σ).run=some σ') :
  oJ P B N γ σ a w d (Instr.makeInterface u (a.eval x)) σ':=by
 unfold qC at hr
 split at hr
 ·rename_i t ht
  have Ds:=hc.T _ _ ht
  split at hr
  ·rename_i b f hf
   split at hr
   ·rename_i y σ1 hg
    obtain rfl:=Option.some.inj hr
    obtain⟨jb,s1,s2,cs,s3,s4⟩:=lS h (h.cJ x) hg
    obtain⟨k1,k2⟩:=OK (w:=w) (I:=jb.I) Ds hf
    have s4':a.eval x=cA b cs:=by simpa using s4
    have hag:=Yz Ds hf
    refine⟨.iface u (a.eval x),w,jb,run_makeInterface w u _ k1,s1.ua hd ⟨_,k2 y cs s3,?_⟩,?_⟩
    ·rw[s4']
     unfold cA
     rw[hag];rfl
    ·cases d<;>exact s2
   ·exact absurd hr (by intro k;cases k)
  ·exact absurd hr (by intro k;cases k)
 ·exact absurd hr (by intro k;cases k)
theorem OL{o:Oper}{s:Sem Unit}{K:Act→World→Prop}{Q:Exit→Act→World→Prop}(hs:execOp a.eval o=(do s;pure .skip))(Rp:o.dst=none)
  (h:∃w' γ',s.run P w=.ok () w'∧cX B N γ' σ' a w'∧Ext B γ σ.mem w γ' σ'.mem w') (hK:Dm B N γ σ a w o.dst σ' K):o.wp P a w K Q:=by
 obtain⟨w',γ',h1,h2,h3⟩:=h
 unfold Oper.wp
 rw[hs]
 simp only[Sem.run_bind,h1,Result.andThen_ok,Sem.run_pure,Oper.upon_skip]
 exact hK γ' _ w' (by rw[Rp];exact h2) h3
theorem Cm{d:Option Nat}{k:Nat}(h:Oi bf d=some k):d=some k∧dJ bf k=true:=by
 unfold Oi at h
 split at h
 ·rename_i d
  cases hb:dJ bf d with
  | false=>rw[hb] at h;cases h
  | true=>rw[hb] at h;obtain rfl:=Option.some.inj h;exact⟨rfl,hb⟩
 ·cases h
theorem Iq(hc:fC P cx)(eg:oR P B.G cx)(lf:uV P B.G inl){o:Oper}(h:cX B N γ σ a w)(hd:∀k,o.dst=some k→k<N)
  (hr:(pI cx nb bf inl o σ).run=some σ') {K:Act→World→Prop} {Q:Exit→Act→World→Prop} (hK:Dm B N γ σ a w o.dst σ' K):o.wp P a w K Q:=by
 unfold pI at hr
 split at hr
 case h_1 x ho=>exact bR (s:=pure (a.eval x)) (by simp only[execOp,ho];rfl) (wE hc h hd hr) hK
 case h_2 x ho=>exact bR (s:=pure (a.eval x)) (by simp only[execOp,ho];rfl) (wE hc h hd hr) hK
 case h_3 c x y ho=>exact bR (s:=do pure (if ←asBool (a.eval c) then a.eval x else a.eval y)) (by simp only[execOp,ho];simp[bind_assoc]) (H7 h hd hr) hK
 case h_4 elem ho =>
  split at hr
  ·rename_i k t hk hT
   rw[hk] at hd
   refine bR (s:=Instr.alloc elem true (.tuple #[])) (by simp only[execOp,ho]) ?_ hK
   rw[hk]
   exact GQ hc h (hd k rfl) hT hr
  ·rename_i k hk hT
   rw[hk] at hd
   refine bR (s:=Instr.alloc elem true (.tuple #[])) (by simp only[execOp,ho]) ?_ hK
   rw[hk]
   split at hr
   ·rename_i fs hO
    exact GP hc h (hd k rfl) hO hr
   ·obtain⟨h1,hr2⟩:=aD hr
    exact GO hc h (hd k rfl) h1 hr2
  ·exact absurd hr (by intro k;cases k)
 case h_5 elem x ho =>
  unfold CZ at hr
  split at hr
  ·exact absurd hr (by intro k;cases k)
  ·exact absurd hr (by intro k;cases k)
  ·rename_i k hk h1 h2
   rw[hk] at hd
   refine bR (s:=Instr.box elem (a.eval x)) (by simp only[execOp,ho]) ?_ hK
   rw[hk]
   split at hr
   ·exact Kc h (hd k rfl) h1 h2 hr
   ·exact Uc h (hd k rfl) h1 h2 hr
  ·exact absurd hr (by intro k;cases k)
 case h_6 t parts ho =>
  refine bR (s:=Instr.build t (parts.map fun(i,x)=>(i,a.eval x))) (by simp only[execOp,ho]) ?_ hK
  split at hr
  ·rename_i u v hT
   split at hr
   ·rename_i x σ1 hb
    obtain rfl:=Option.some.inj hr
    exact Ci hc h hd hT hb
   ·exact absurd hr (by intro k;cases k)
  ·rename_i n e hT
   split at hr
   ·rename_i l σ1 hb
    obtain rfl:=Option.some.inj hr
    exact Di hc h hd hT hb
   ·exact absurd hr (by intro k;cases k)
  ·split at hr
   ·rename_i fs hO
    split at hr
    ·rename_i z0 ZD
     split at hr
     ·rename_i p q hb
      obtain rfl:=Option.some.inj hr
      exact GS hc h hd hO ZD hb
     ·rename_i u hb
      obtain rfl:=Option.some.inj hr
      exact EY hc h hd hO ZD hb
     ·exact absurd hr (by intro k;cases k)
    ·exact absurd hr (by intro k;cases k)
   ·exact absurd hr (by intro k;cases k)
  ·exact absurd hr (by intro k;cases k)
 case h_7 t n parts ho =>
  refine bR (s:=Instr.buildSlice t n (parts.map fun(i,x)=>(i,a.eval x))) (by simp only[execOp,ho]) ?_ hK
  split at hr
  ·rename_i e hT
   split at hr
   ·rename_i k bK hparts
    obtain⟨hk,_⟩:=Cm bK
    have hp:parts=#[]:=by simpa using hparts
    rw[hk,hp]
    rw[hk] at hd
    rw[Array.map_empty]
    exact E0 hc h (hd k rfl) hT hr
   ·obtain⟨hn,hr2⟩:=aD hr
    split at hr2
    ·rename_i l σ1 hb
     obtain rfl:=Option.some.inj hr2
     exact EZ hc h hd hT hn hb
    ·exact absurd hr2 (by intro k;cases k)
  ·exact Ke hc h hd hr
  ·exact absurd hr (by intro k;cases k)
 case h_8 t x ho=>exact bR (s:=Instr.loadAt t (a.eval x)) (by simp only[execOp,ho]) (H9 hc h hd hr) hK
 case h_9 t x y ho =>
  split at hr
  ·rename_i hk
   exact OL (s:=Instr.storeAt t (a.eval x) (a.eval y)) (by simp only[execOp,ho]) hk (GN hc h hr) hK
  ·exact absurd hr (by intro k;cases k)
 case h_10 x ho =>
  have hv:=h.cJ x
  have fin:∀{v:aS} {y:Value},a.eval x=y→execOp a.eval o=(do pure (.value (←(pure y:Sem Value))))→cw γ σ.mem w v .val [y]→σ'=σ.aU o.dst v→o.wp P a w K Q:=by
   intro v y he hs hr0 hσ
   subst hσ
   exact bR (s:=pure y) hs (bM h hd rfl hr0) hK
  split at hr
  ·rename_i b aC p hx
   rw[hx] at hv
   obtain⟨hl,hr2⟩:=aD hr
   obtain⟨bx,hb,bt⟩:=kS hl
   obtain⟨blk,cap,g1,g2⟩:=bq hb bt hv.2
   have g2:=List.head_eq_of_cons_eq g2
   rw[g2] at hv
   exact fin g2 (by simp only[execOp,ho,g2];rfl) hv (Option.some.inj hr2).symm
  ·rename_i t y hx
   rw[hx] at hv
   obtain⟨blk,off,cs,g1,g2,g3⟩:=id hv
   have g1:=List.head_eq_of_cons_eq g1
   rw[g1] at hv
   exact fin g1 (by simp only[execOp,ho,g1];rfl) hv (Option.some.inj hr).symm
  ·rename_i f c hx
   rw[hx] at hv
   obtain⟨arr,g1,g2,g3⟩:=id hv
   have g1:=List.head_eq_of_cons_eq g1
   rw[g1] at hv
   exact fin g1 (by simp only[execOp,ho,g1];rfl) hv (Option.some.inj hr).symm
  ·exact absurd hr (by intro k;cases k)
 case h_11 op xt x y pos ho =>
  obtain⟨v,hb,hr2⟩:=bind_some hr
  obtain rfl:=Option.some.inj hr2
  obtain⟨z,z1,z2⟩:=Q8 (P:=P) (x:=x) (y:=y) hc (h.cJ x) (h.cJ y) hb
  refine bR (s:=gf op xt x y (a.eval x) (a.eval y)) (by simp only[execOp,ho,gf]) (bM h hd z1 z2) hK
 case h_12 op ty x ho =>
  obtain⟨v,hb,hr2⟩:=bind_some hr
  obtain rfl:=Option.some.inj hr2
  obtain⟨z,z1,z2⟩:=VP (P:=P) (h.cJ x) hb
  exact bR (s:=Op.unary op (a.eval x)) (by simp only[execOp,ho]) (bM h hd z1 z2) hK
 case h_13 src dst x ho=>exact bR (s:=convert src dst (a.eval x)) (by simp only[execOp,ho]) (Dk hc h hd hr) hK
 case h_14 f first caps ho =>
  split at hr
  ·rename_i cs aad hcs
   obtain rfl:=Option.some.inj hr
   refine bR (s:=Instr.makeFunc (.func f) #[] (caps.map a.eval)) ?_ (Ia h hd hcs) hK
   have:first=#[]:=by simpa using aad
   simp only[execOp,ho,this,show Array.map a.eval #[]=#[] from by simp]
  ·exact absurd hr (by intro k;cases k)
 case h_15 t x lo hi ho=>exact bR (s:=Instr.sliceAt t (a.eval x) (lo.map a.eval) (hi.map a.eval) none) (by simp only[execOp,ho];rfl) (GM hc h hd hr) hK
 case h_16 s x k ho=>exact bR (s:=Instr.fieldAt s (a.eval x) k) (by simp only[execOp,ho]) (AZ hc h hd hr) hK
 case h_17 xt x k ho =>
  have hv:=h.cJ x
  split at hr
  ·rename_i u y hx
   rw[hx] at hv
   obtain⟨hT,hr2⟩:=aD hr
   split at hr2
   ·rename_i off v hf
    obtain rfl:=Option.some.inj hr2
    obtain⟨z,z1,z2⟩:=Ow (P:=P) hc (iu hT) hv hf
    exact bR (s:=Instr.field xt (a.eval x) k) (by simp only[execOp,ho]) (bM h hd z1 z2) hK
   ·exact absurd hr2 (by intro k;cases k)
  ·exact absurd hr (by intro k;cases k)
 case h_18 t x i ho =>
  split at hr
  ·rename_i ki n hi
   have hv:=h.cJ i
   rw[hi] at hv
   obtain⟨ei,_⟩:=sF hv
   refine bR (s:=Instr.indexAt t (a.eval x) (a.eval i)) (by simp only[execOp,ho]) ?_ hK
   rw[ei]
   exact A2 hc h hd hr
  ·exact absurd hr (by intro k;cases k)
 case h_19 t x i ho =>
  split at hr
  ·rename_i ki n hi
   have hv:=h.cJ i
   rw[hi] at hv
   obtain⟨ei,_⟩:=sF hv
   refine bR (s:=Instr.index t (a.eval x) (a.eval i)) (by simp only[execOp,ho]) ?_ hK
   rw[ei]
   exact GL hc h hd hr
  ·exact absurd hr (by intro k;cases k)
 case h_20 t l c ho =>
  split at hr
  ·rename_i k e kl ln kc cn hk hT hl VC
   rw[hk] at hd
   obtain⟨hin,hr2⟩:=cD hr
   obtain⟨hf,jG⟩:=cD hr2
   refine bR (s:=Instr.makeSlice t (a.eval l) (a.eval c)) (by simp only[execOp,ho]) ?_ hK
   rw[hk]
   exact GU hc h (hd k rfl) hT hl VC hin hf jG
  ·exact absurd hr (by intro k;cases k)
 case h_21 t k ho =>
  split at hr
  ·rename_i vs hx
   split at hr
   ·rename_i v hn
    obtain rfl:=Option.some.inj hr
    exact bR (s:=Instr.extract (a.eval t) k) (by simp only[execOp,ho]) (Kd h hd hx hn) hK
   ·exact absurd hr (by intro k;cases k)
  ·exact absurd hr (by intro k;cases k)
 case h_22 c ho=>exact Ro hc eg lf ho h hd hr hK
 case h_23 u x ho=>exact bR (s:=Instr.makeInterface u (a.eval x)) (by simp only[execOp,ho]) (GY hc h hd hr) hK
 case h_24=>exact absurd hr (by intro k;cases k)
end
end Go.Ge
namespace Go.Ge
set_option linter.unusedVariables false
set_option linter.unusedSimpArgs false
open RowKit
def br(σ σ':St):Prop:=∀b bx,σ.mem b=some bx→bx.lk=true→σ'.mem b=some bx
theorem br.refl(σ:St):br σ σ:=fun _ _ h _=>h
theorem br.trans{σ σ' YA:St}(h:br σ σ')(k:br σ' YA):br σ YA:=fun b bx hb hl=>k b bx (h b bx hb hl) hl
theorem br.put(σ:St)(d:Nat)(v:aS):br σ (σ.put d v):=fun _ _ h _=>h
theorem br.aU(σ:St)(d:Option Nat)(v:aS):br σ (σ.aU d v):=by cases d<;>exact fun _ _ h _=>h
theorem br.V6{σ σ':St}(h:σ'.mem=σ.mem):br σ σ':=fun b bx hb _=>by rw[h];exact hb
theorem jI{σ:St}{b:Nat}{bx:bU}(h:∀dh,σ.mem b=some dh→dh.lk=false):br σ (σ.cr b bx):=fun c cx hc hl=>by
 by_cases e:c=b
 ·subst e;rw[h cx hc] at hl;cases hl
 ·rw[uc,aP _ e];exact hc
theorem lU{β:Type}{σ:St}{b:Nat}{val:aS}{tid:TypeId}{buf:Bool}{k:Nat→St→Tree β}{y:β}(h:(σ.aO b val tid buf k).run=some y) :
  ∃aC,br σ (σ.cr b { val,tid,buf,ro:=false,lk:=false,aC })∧(k aC (σ.cr b { val,tid,buf,ro:=false,lk:=false,aC })).run=some y:=by
 unfold St.aO at h
 split at h
 ·rename_i bx hb
  cases hl:bx.lk with
  | true=>rw[hl] at h;cases h
  | false =>
    rw[hl] at h
    exact⟨bx.aC+1,jI (fun dh h0=>by rw[hb] at h0;obtain rfl:=Option.some.inj h0;exact hl),h⟩
 ·rename_i hb
  exact⟨0,jI (fun dh h0=>by rw[hb] at h0;cases h0),h⟩
theorem FY{σ σ':St}{b:Nat}(h:freeze σ b=some σ'):br σ σ':=by
 unfold freeze at h
 split at h
 ·rename_i bx hb
  cases hro:bx.ro with
  | true=>simp only[hro,cond_true,Option.some.injEq] at h;rw[←h];exact br.refl _
  | false =>
    cases hlk:bx.lk with
    | true=>simp[hro,hlk] at h
    | false =>
      simp only[hro,hlk,cond_false,Option.some.injEq] at h
      rw[←h]
      exact jI fun dh h0=>by rw[hb] at h0;obtain rfl:=Option.some.inj h0;exact hlk
 ·cases h
theorem MN:∀{v:aS} {σ σ':St},gb σ v=some σ'→br σ σ':=by
 intro v
 induction v with
 | mix p q Rb OA =>
   intro σ σ' h
   obtain⟨σ1,h1,h2⟩:=uT h
   exact(Rb h1).trans (OA h2)
 | whole b aC=>intro σ σ' h;exact FY h
 | part b aC lo n=>intro σ σ' h;exact FY h
 | _=>intro σ σ' h;obtain rfl:=Option.some.inj h;exact br.refl _
theorem oT{t:Ty}{x:t.den}{v:aS}{σ σ':St}(h:yU σ t v=some (x,σ')):br σ σ':=by
 unfold yU at h
 split at h
 ·split at h
  ·obtain⟨_,rfl⟩:=Prod.mk.inj (Option.some.inj h);exact br.refl _
  ·cases h
 ·split at h
  ·rename_i y σ1 hl hf
   obtain⟨_,rfl⟩:=Prod.mk.inj (Option.some.inj h)
   exact MN hf
  ·cases h
theorem pU:∀{A:Ty} {x:A.den} {vs:List aS} {σ σ':St},jQ σ A vs=some (x,σ')→br σ σ':=by
 intro A
 induction A with
 | pair t r HN ihr =>
   intro x vs σ σ' hl
   cases vs with
   | nil=>cases hl
   | cons v vs =>
     simp only[jQ] at hl
     split at hl
     ·rename_i p σ1 hp
      split at hl
      ·rename_i q σ2 hq
       obtain⟨_,rfl⟩:=Prod.mk.inj (Option.some.inj hl)
       exact(oT hp).trans (ihr hq)
      ·cases hl
     ·cases hl
 | unit =>
   intro x vs σ σ' hl
   cases vs with
   | nil=>obtain⟨_,rfl⟩:=Prod.mk.inj (Option.some.inj hl);exact br.refl _
   | cons v vs=>cases hl
 | _=>intro x vs σ σ' hl;cases vs<;>cases hl
theorem GZ{t:Ty}:∀{parts:List (Nat×Operand)} {x x':t.den} {σ σ':St},fW σ t x parts=some (x',σ')→br σ σ':=by
 intro parts
 induction parts with
 | nil=>intro x x' σ σ' h;obtain⟨_,rfl⟩:=Prod.mk.inj (Option.some.inj h);exact br.refl _
 | cons p r ih =>
   obtain⟨k,o⟩:=p
   intro x x' σ σ' h
   simp only[fW] at h
   split at h
   ·split at h
    ·rename_i hg
     split at h
     ·exact(oT hg).trans (ih h)
     ·cases h
    ·cases h
   ·cases h
theorem zm{e:Ty}:∀{parts:List (Nat×Operand)} {l l':List e.den} {σ σ':St},fK σ e l parts=some (l',σ')→br σ σ':=by
 intro parts
 induction parts with
 | nil=>intro x x' σ σ' h;obtain⟨_,rfl⟩:=Prod.mk.inj (Option.some.inj h);exact br.refl _
 | cons p r ih =>
   obtain⟨k,o⟩:=p
   intro l l' σ σ' h
   simp only[fK] at h
   split at h
   ·rename_i hg
    cases hlt:Nat.blt k l.length with
    | false=>rw[hlt] at h;cases h
    | true=>rw[hlt] at h;exact(oT hg).trans (ih h)
   ·cases h
theorem Dt{b aC:Nat}{p:List FK}{fit:aS→Bool}{u:aS}{σ σ':St}(hr:(storeAt b aC p fit u σ).run=some σ'):br σ σ':=by
 unfold storeAt at hr
 split at hr
 case h_2=>exact absurd hr (by intro k;cases k)
 rename_i bx hb
 obtain⟨hc,hr2⟩:=aD hr
 simp only[Bool.and_eq_true,Bool.not_eq_true'] at hc
 obtain⟨old,hn,jG⟩:=bind_some hr2
 obtain⟨hfit,td⟩:=aD jG
 obtain⟨c,hs,Rf⟩:=bind_some td
 obtain rfl:=Option.some.inj Rf
 exact jI fun dh h0=>by rw[hb] at h0;obtain rfl:=Option.some.inj h0;exact hc.1.2
theorem Ir{cx:Ctx}{ty:TypeId}{x y:aS}{σ σ':St}(hr:(kO cx ty x y σ).run=some σ'):br σ σ':=by
 unfold kO at hr
 split at hr
 case h_2=>exact absurd hr (by intro k;cases k)
 split at hr
 case h_2=>exact absurd hr (by intro k;cases k)
 obtain⟨bt,hr2⟩:=aD hr
 obtain⟨old,hn,jG⟩:=bind_some hr2
 split at jG
 ·obtain⟨hT,td⟩:=aD jG
  split at td
  ·rename_i hg;exact(oT hg).trans (Dt td)
  ·exact absurd td (by intro k;cases k)
 ·obtain⟨hT,td⟩:=aD jG
  exact Dt td
theorem yE{cx:Ctx}{nb:Nat}{d:Option Nat}{ty:TypeId}{s x:aS}{σ σ':St}(hr:(gJ cx nb d ty s x σ).run=some σ'):br σ σ':=by
 unfold gJ at hr
 split at hr
 case h_2=>exact absurd hr (by intro k;cases k)
 split at hr
 case h_2=>exact absurd hr (by intro k;cases k)
 split at hr
 ·obtain⟨hf,hr2⟩:=cD hr
  obtain⟨aC,k1,k2⟩:=lU hr2
  obtain rfl:=Option.some.inj k2
  exact k1.trans (br.put _ _ _)
 ·split at hr
  case h_2=>exact absurd hr (by intro k;cases k)
  rename_i bx l hb hl
  obtain⟨hlk,kD⟩:=xJ hr
  have hlk:=(Bool.or_eq_false_iff.1 hlk).1
  obtain⟨hf,hr2⟩:=cD kD
  obtain rfl:=Option.some.inj hr2
  exact(jI fun dh h0=>by rw[hb] at h0;obtain rfl:=Option.some.inj h0;exact hlk).trans (br.put _ _ _)
 ·exact absurd hr (by intro k;cases k)
theorem vF{e:Ty}{m:List e.den}{b aC:Nat}{q:List FK}{VH:Nat→Ty→Bool}{lo:Int}{σ σ':St}(hr:(jh e m b aC q VH lo σ).run=some σ'):br σ σ':=by
 unfold jh at hr
 split at hr
 case h_2=>exact absurd hr (by intro k;cases k)
 rename_i bx hb
 obtain⟨hc,hr2⟩:=aD hr
 simp only[Bool.and_eq_true,Bool.not_eq_true'] at hc
 have fin:∀{gu:bU},br σ (σ.cr b gu):=fun {gu}=>jI fun dh h0=>by rw[hb] at h0;obtain rfl:=Option.some.inj h0;exact hc.1.2
 split at hr2
 ·split at hr2
  ·split at hr2
   ·obtain rfl:=Option.some.inj hr2;exact fin
   ·exact absurd hr2 (by intro k;cases k)
  ·exact absurd hr2 (by intro k;cases k)
 ·obtain⟨old,_,jG⟩:=bind_some hr2
  split at jG
  ·obtain⟨_,td⟩:=aD jG
   split at td
   ·obtain⟨c,_,Rf⟩:=bind_some td
    obtain rfl:=Option.some.inj Rf;exact fin
   ·exact absurd td (by intro k;cases k)
  ·exact absurd jG (by intro k;cases k)
theorem FZ{e:Ty}{mf:Int→List e.den}{t:aS}{σ:St}{r:Int×St}(hr:(EM e mf t σ).run=some r):br σ r.2:=by
 unfold EM at hr
 split at hr
 ·obtain⟨σ1,h1,h2⟩:=bind_some hr
  obtain rfl:=Option.some.inj h2;exact vF h1
 ·split at hr
  ·obtain⟨σ1,h1,h2⟩:=bind_some hr
   obtain rfl:=Option.some.inj h2;exact vF h1
  ·exact absurd hr (by intro k;cases k)
 ·obtain⟨σ1,h1,h2⟩:=bind_some hr
  obtain rfl:=Option.some.inj h2;exact vF h1
 ·exact absurd hr (by intro k;cases k)
theorem Rq{σ:St}:∀{ps:List Bool} {A U:Ty} {vs:List aS} {x:A.den} {u:U.den} {ns:List Nat},qQ σ ps A U vs=some (x,u,ns)→∀b∈ns,∀bx,σ.mem b=some bx→bx.lk=false:=by
 intro ps
 induction ps with
 | nil =>
   intro A U vs x u ns h
   cases A<;>first|(cases h;done)|skip
   cases U<;>first|(cases h;done)|skip
   cases vs with
   | cons v r=>cases h
   | nil =>
     obtain⟨_,q⟩:=Prod.mk.inj (Option.some.inj h)
     obtain⟨_,rfl⟩:=Prod.mk.inj q
     intro b hb;cases hb
 | cons p ps ih =>
   intro A U vs x u ns h
   cases p with
   | false =>
     cases A<;>first|(cases h;done)|skip
     cases vs with
     | nil=>cases h
     | cons v r =>
       simp only[qQ] at h
       split at h
       ·rename_i h2
        obtain⟨_,q⟩:=Prod.mk.inj (Option.some.inj h)
        obtain⟨_,rfl⟩:=Prod.mk.inj q
        exact ih h2
       ·cases h
   | true =>
     cases U<;>first|(cases h;done)|skip
     cases vs with
     | nil=>cases h
     | cons v0 r =>
     cases v0<;>first|(cases h;done)|skip
     rename_i b aC pth
     cases pth with
     | cons _ _=>cases h
     | nil =>
     simp only[qQ] at h
     split at h
     case h_2=>cases h
     rename_i bx hb
     cases hcd:(Nat.beq bx.aC aC&&!bx.buf&&!bx.lk&&!bx.ro&&Nat.beq bx.tid 0) with
     | false=>rw[hcd] at h;cases h
     | true =>
       rw[hcd] at h
       simp only[Bool.and_eq_true,Bool.not_eq_true'] at hcd
       simp only[cond_true] at h
       split at h
       case h_2=>cases h
       rename_i x1 y1 u1 ns1 h1 h2
       cases hmn:dJ ns1 b with
       | true=>rw[hmn] at h;cases h
       | false =>
         rw[hmn] at h
         obtain⟨_,q⟩:=Prod.mk.inj (Option.some.inj h)
         obtain⟨_,rfl⟩:=Prod.mk.inj q
         intro c hc cx hcx
         rcases List.mem_cons.1 hc with rfl|hc
         ·rw[hb] at hcx;obtain rfl:=Option.some.inj hcx;exact hcd.1.1.2
         ·exact ih h2 c hc cx hcx
theorem Rr:∀{U:Ty} {u:U.den} {ns:List Nat} {c:Nat} {v:aS},pH U u ns c=some v→c∈ns:=by
 intro U
 induction U with
 | pair t U HN Rj =>
   intro u ns c v h
   cases ns with
   | nil=>cases h
   | cons b r =>
     simp only[pH] at h
     cases hb:Nat.beq c b with
     | true=>obtain rfl:=Nat.eq_of_beq_eq_true hb;exact List.mem_cons_self ..
     | false=>rw[hb] at h;exact List.mem_cons_of_mem _ (Rj h)
 | _=>intro u ns c v h;cases h
theorem MO{ps:List Bool}{A U:Ty}{vs:List aS}{x:A.den}{u y:U.den}{ns:List Nat}{σ:St}(h:qQ σ ps A U vs=some (x,u,ns)):br σ (sZ U y ns σ):=fun b bx hb hl=>by
 rw[rT]
 cases hv:pH U y ns b with
 | none=>exact hb
 | some v =>
   have:=Rq h b (Rr hv) bx hb
   rw[hl] at this;cases this
theorem MP{s:Vz}{d:Option Nat}{vals:List aS}{σ σ':St}(hr:(Av s d vals σ).run=some σ'):br σ σ':=by
 unfold Av at hr
 split at hr
 ·split at hr
  case h_2=>cases hr
  split at hr
  case h_2=>cases hr
  obtain⟨_,hr2⟩:=aD hr
  obtain rfl:=Option.some.inj hr2
  exact br.aU _ _ _
 ·split at hr
  case h_2=>cases hr
  split at hr
  case h_2=>cases hr
  obtain⟨_,hr2⟩:=aD hr
  split at hr2
  case h_2=>cases hr2
  rename_i hx hhx
  obtain⟨hcd,jG⟩:=aD hr2
  simp only[Bool.and_eq_true,Bool.not_eq_true'] at hcd
  split at jG
  case h_2=>cases jG
  obtain rfl:=Option.some.inj jG
  exact(jI fun dh h0=>by rw[hhx] at h0;obtain rfl:=Option.some.inj h0;exact hcd.1.1.2).trans (br.aU _ _ _)
 ·cases hr
theorem Rs{b aC:Nat}:∀{fs:List nw} {j:Nat} {σ:St} {r:aS×St},(mkObj b aC fs j σ).run=some r→br σ r.2:=by
 intro fs
 induction fs with
 | nil=>intro j σ r hr;obtain rfl:=Option.some.inj hr;exact br.refl _
 | cons f q ih =>
   intro j σ r hr
   cases f with
   | buf e eZ =>
     obtain⟨_,kD⟩:=aD hr
     obtain⟨aC,k1,k2⟩:=lU kD
     obtain⟨y,h1,h2⟩:=bind_some k2
     obtain rfl:=Option.some.inj h2
     have:=ih h1
     exact k1.trans this
   | _ =>
     obtain⟨y,h1,h2⟩:=bind_some hr
     obtain rfl:=Option.some.inj h2
     have:=ih h1
     exact this
theorem MQ{b:Nat}:∀{fs:List nw} {j:Nat} {v:aS} {σ:St} {r:aS×St},(mI b fs j v σ).run=some r→br σ r.2:=by
 intro fs
 induction fs with
 | nil =>
   intro j v σ r hr
   obtain rfl:=FV hr
   exact br.refl _
 | cons f q ih =>
   intro j v σ r hr
   rcases Dh hr with ⟨x,u,y,rfl,h1,rfl⟩|⟨e,eZ,u,rfl,he,kD⟩
   ·have:=ih h1;exact this
   ·obtain⟨aC,k1,k2⟩:=lU kD
    obtain⟨y,h1,h2⟩:=bind_some k2
    obtain rfl:=Option.some.inj h2
    have:=ih h1
    exact k1.trans this
theorem OM{cx:Ctx}{inl:Nat→List aS→St→Tree (aS×St)}(lf:∀f vals σ v σ',(inl f vals σ).run=some (v,σ')→br σ σ'){d:Option Nat}{f:Nat}{vals:List aS}{σ σ':St}
  (hr:(vA cx inl d f vals σ).run=some σ'):br σ σ':=by
 unfold vA at hr
 split at hr
 ·split at hr
  ·split at hr
   ·obtain⟨y,hy,hr2⟩:=b5 hr
    obtain rfl:=Option.some.inj hr2
    exact br.aU _ _ _
   ·exact absurd hr (by intro k;cases k)
  ·split at hr
   ·rename_i hx
    obtain⟨y,hy,hr2⟩:=b5 hr
    obtain rfl:=Option.some.inj hr2
    exact(pU hx).trans (br.aU _ _ _)
   ·exact absurd hr (by intro k;cases k)
 ·have Dn:((inl f vals σ).bind fun r=>.ret (r.2.aU d r.1):Tree St).run=some σ'→br σ σ':=by
   intro hr
   obtain⟨r,kD,hr2⟩:=bind_some hr
   obtain rfl:=Option.some.inj hr2
   exact(lf _ _ _ _ _ kD).trans (br.aU _ _ _)
  split at hr
  ·exact MP hr
  split at hr
  ·rename_i c hcr
   split at hr
   ·rename_i x u ns hx
    obtain⟨y,hy,hr2⟩:=b5 hr
    obtain rfl:=Option.some.inj hr2
    exact(MO hx).trans (br.aU _ _ _)
   ·exact Dn hr
  ·exact Dn hr
theorem Is{nb:Nat}{e:Ty}{d:Option Nat}{vals:List aS}{σ σ':St}(hr:(kR nb e d vals σ).run=some σ'):br σ σ':=by
 unfold kR at hr
 split at hr
 case h_2=>cases hr
 split at hr
 case h_2=>cases hr
 rename_i hg
 obtain⟨_,hr⟩:=aD hr
 obtain⟨_,hr⟩:=cD hr
 obtain⟨aC,k1,k2⟩:=lU hr
 obtain rfl:=Option.some.inj k2
 exact((oT hg).trans k1).trans (br.aU _ (some _) _)
theorem MR{e A:Ty}{res:Bool}{spec:List e.den→A.den→Option (List e.den)}{d:Option Nat}{vals:List aS}{σ σ':St}(hr:(qR e A res spec d vals σ).run=some σ'):br σ σ':=by
 unfold qR at hr
 split at hr
 case h_2=>cases hr
 split at hr
 case h_2=>cases hr
 rename_i hg
 split at hr
 case h_2=>cases hr
 rename_i b aC bx l X7
 obtain⟨l',_,hr⟩:=b5 hr
 obtain⟨hb,bt,bK,hlk,hro,iq,_⟩:=rU X7
 have key:∀gu,br _ (St.cr _ b gu):=fun gu=>jI fun dh h0=>by rw[hb] at h0;obtain rfl:=Option.some.inj h0;exact hlk
 cases res with
 | true =>
   cases d with
   | none=>cases hr
   | some k=>obtain rfl:=Option.some.inj hr;exact((pU hg).trans (key _)).trans (br.aU _ (some _) _)
 | false =>
   cases d with
   | none=>obtain⟨_,hr⟩:=aD hr;obtain rfl:=Option.some.inj hr;exact((pU hg).trans (key _)).trans (br.aU _ none _)
   | some k=>obtain⟨_,hr⟩:=aD hr;obtain rfl:=Option.some.inj hr;exact((pU hg).trans (key _)).trans (br.aU _ (some _) _)
theorem MS{cx:Ctx}{nb:Nat}{bf:List Nat}{inl:Nat→List aS→St→Tree (aS×St)}(lf:∀f vals σ v σ',(inl f vals σ).run=some (v,σ')→br σ σ'){d:Option Nat}{f:Nat}{vals:List aS}{σ σ':St}
  (hr:(s7 cx nb bf inl d f vals σ).run=some σ'):br σ σ':=by
 unfold s7 at hr
 split at hr
 ·exact Is hr
 ·exact MR hr
 ·exact OM lf hr
end Go.Ge
