/- A ghost interpreter of the model's code, and that it tells the truth: part 6. It says of a function of plain data what a call of it comes to. -/
import Derived.Test.YtbaijbjhkmoidaaGreatDoorGeE
import Derived.Laws.Build
set_option linter.unusedVariables false
set_option linter.unusedSimpArgs false
set_option linter.unusedSectionVars false
namespace Go.Ge
open RowKit
def oE(P:Program)(G:eH)(inl:Nat→List ay→St→Tree (ay×St)):Prop :=
 ∀(B:ld) (γ:Gh) (σ σ':St) (w:World) (f:Nat) (vals:List ay) (xs:Array Value) (v:ay),B.G=G→aV B γ σ.mem w→ij γ σ.mem w vals xs.toList→(inl f vals σ).run=some (v,σ') →
  (∃fn code,P.funcs[f]?=some fn∧(fn.name == "runtime.NumGoroutine")=false∧fn.body=some code)∧σ'.slots=σ.slots ∧
  Calls P f xs w fun e w'=>∃val γ',e=.returned val∧aV B γ' σ'.mem w'∧Ext B γ σ.mem w γ' σ'.mem w'∧bH γ' σ'.mem w' v .val [val]
section
variable {P:Program} {B:ld} {N:Nat} {γ:Gh} {σ σ':St} {a:Act} {w w':World} {d:Option Nat} {cx:Ctx} {nb:Nat} {bf:List Nat} {inl:Nat→List ay→St→Tree (ay×St)}
def tI(B:ld)(N:Nat)(γ:Gh)(σ:St)(a:Act)(w:World)(d:Option Nat)(σ':St)(K:Act→World→Prop):Prop :=
 ∀γ' v w',bZ B N γ' σ' (a.put d v) w'→Ext B γ σ.mem w γ' σ'.mem w'→K (a.put d v) w'
theorem C8{f:Nat}{fn:Func}{code:Code}(h1:P.funcs[f]?=some fn)(h2:(fn.name == "runtime.NumGoroutine")=false)(h3:fn.body=some code)(args:Array Value)(w:World) :
  (callFunc f args).run P w=.ok (.enter f args) w:=by
 have Tj:¬fn.name = "runtime.NumGoroutine":=by simpa using h2
 simp[callFunc,h1,Tj,h3]
theorem bw{o:Oper}{s:Sem Value}{K:Act→World→Prop}{Q:Exit→Act→World→Prop}(hs:execOp a.eval o=(do pure (.value (←s))))(h:jn P B N γ σ a w o.dst s σ')(hK:tI B N γ σ a w o.dst σ' K):o.wp P a w K Q:=by
 obtain⟨v,w',γ',h1,h2,h3⟩:=h;unfold Oper.wp;rw[hs];simp only[Sem.run_bind,h1,Result.andThen_ok,Sem.run_pure];exact hK γ' _ w' h2 h3
theorem Ch{ops:List Operand}(h:bZ B N γ σ a w):ij γ σ.mem w (ops.map (bN σ)) (ops.map a.eval):=by
 refine⟨by simp,fun i v x h1 h2=>?_⟩;rw[zb] at h1 h2;cases ho:ops[i]? with
 | none=>rw[ho] at h1;cases h1
 | some o =>
   rw[ho] at h1 h2;obtain rfl:=ax h1;obtain rfl:=ax h2;exact h.bN o
theorem ij.append{mem:Nat→Option aY}{vs us:List ay}{xs ys:List Value}(h:ij γ mem w vs xs)(k:ij γ mem w us ys):ij γ mem w (vs++us) (xs++ys):=by
 refine⟨by simp[h.1,k.1],fun i v x h1 h2=>?_⟩;rw[KG] at h1 h2;rw[h.1] at h2;split at h1
 ·rename_i hi;rw[ek hi] at h2;exact h.2 i v x h1 h2
 ·rename_i hi;rw[cT hi] at h2;exact k.2 _ v x h1 h2
theorem aV.drop{mem:Nat→Option aY}{w':World}(h:aV B γ mem w){b:Nat}{cc bx:aY}(hb:mem b=some cc)(aI:cc.aj<bx.aj)(hw:nD B w w')
  (hold:∀k,k<w.heap.size→(∀c,γ.loc b≠some (k,c))→w'.heap[k]?=w.heap[k]?) (hcell:∀k o,k<w.heap.size→w'.cell? ⟨k,o,none⟩=w.cell? ⟨k,o,none⟩)
  (gi:bQ (bh γ b none) (bS mem b bx) w' b bx):aV B (bh γ b none) (bS mem b bx) w'∧Ext B γ mem w (bh γ b none) (bS mem b bx) w':=by
 have hx:Ext B γ mem w (bh γ b none) (bS mem b bx) w' :=
  { below:=hw
    I:=fun _ _ x=>x
    mX:=fun _ _ x=>.inl x
    cells:=fun blk o x=>hcell blk o (h.mW blk o x)
    boxes:=fun c cx hc=>by
     by_cases e:c=b
     ·subst e;obtain rfl:cc=cx:=ax (hb.symm.trans hc);exact⟨bx,aU _ _,KQ aI,fun e=>absurd e (by omega)⟩
     ·exact⟨cx,by rw[aB _ e];exact hc,kS _,fun _=>⟨by simp[bh,e],rfl,rfl⟩⟩ }
 refine⟨?_,hx⟩;exact
  { bG:=h.va hx
    base:=jq h.base hw.size
    boxes:=fun c cx hc=>by
     by_cases e:c=b
     ·subst e;rw[aU] at hc;obtain rfl:=ax hc;exact gi
     ·rw[aB _ e] at hc;refine(h.boxes c cx hc).keep hx (by simp[bh,e]) fun blk k hl=>hold blk (h.fresh c blk k (by rw[hc];simp) hl).2 fun k' hl'=>e ?_;exact h.inj c b blk k k' (by rw[hc];simp) (by rw[hb];simp) hl hl'
    inj:=fun c d blk k k' hc hd h1 h2=>by
     by_cases e:c=b
     ·simp only[bh,ek e] at h1;cases h1
     ·by_cases e2:d=b
      ·simp only[bh,ek e2] at h2;cases h2
      ·simp only[bh,cT e] at h1;simp only[bh,cT e2] at h2;rw[aB _ e] at hc;rw[aB _ e2] at hd;exact h.inj c d blk k k' hc hd h1 h2
    fresh:=fun c blk k hc h1=>by
     by_cases e:c=b
     ·simp only[bh,ek e] at h1;cases h1
     ·simp only[bh,cT e] at h1;rw[aB _ e] at hc;have:=h.fresh c blk k hc h1;exact⟨this.1,ud this.2 hw.size⟩
    mW:=fun blk off hi=>ud (h.mW blk off hi) hw.size
    sep:=fun c cx blk k off hc h1 hi=>by
     by_cases e:c=b
     ·simp only[bh,ek e] at h1;cases h1
     ·simp only[bh,cT e] at h1;rw[aB _ e] at hc;exact h.sep c cx blk k off hc h1 hi }
theorem EH{mem:Nat→Option aY}{b:Nat}{bx:aY}(h:mem b=some bx):bS mem b bx=mem:=by
 funext i;by_cases e:i=b
 ·subst e;rw[aU,h]
 ·rw[aB _ e]
theorem Bl{f:Nat}{s:Ka}{vals:List ay}{xs:Array Value}(hs:mP P f s)(h:bZ B N γ σ a w)(hd:∀k,d=some k→k<N)(hv:ij γ σ.mem w vals xs.toList)
  (hr:(sL s d vals σ).run=some σ') {K:Act→World→Prop} (hK:tI B N γ σ a w d σ' K) :
  (∃fn code,P.funcs[f]?=some fn∧(fn.name == "runtime.NumGoroutine")=false∧fn.body=some code)∧Calls P f xs w fun e w'=>∃v,e=.returned v∧K (a.put d v) w':=by
 unfold sL at hr;split at hr
 ·rename_i T b aj;split at hr
  case h_2=>cases hr
  rename_i bx hb;split at hr
  case h_2=>cases hr
  rename_i b' v' u un hval;obtain⟨hcd,hr2⟩:=aq hr;obtain rfl:=ax hr2;simp only[cP,iE] at hcd;obtain⟨⟨⟨⟨⟨⟨⟨⟨c1,c2⟩,c3⟩,c4⟩,c5⟩,c6⟩,c7⟩,c8⟩,c9⟩:=hcd;have c1:=dz c1;have c5:=dz c5;have c7:=dz c7;have c8:=dz c8;have c6:0<T:=by simpa using c6
  subst c7;subst c8;obtain⟨val,rest,hxs,g1,g2⟩:=hv.cons;have mQ:rest=[]:=by have:=g2.1;simpa using this
  subst mQ;obtain⟨blk,cap,hl,g3⟩:=aJ hb c1 g1.2;have g3:=mJ g3;simp only[bR] at g3;obtain rfl:xs=#[.pointer (some ⟨blk,0,none⟩)]:=by apply Array.toList_inj.1;rw[hxs,g3]
  have gi:=h.ok.boxes b' bx hb;unfold bQ at gi;rw[c2] at gi;obtain⟨cB,cap',cur,tid,fr,a1,a2,a3,a4,a5⟩:=gi;rw[hl] at a1;obtain⟨rfl,rfl⟩:=cr (ax a1);have ez:tid=T:=by
   rcases a4 with a4|a4
   ·rw[c5] at a4;exact absurd a4 (KR c6)
   ·rw[a4,c5]
  subst ez;rw[hval] at a5;obtain⟨I6,Kd,e1,e2,e3⟩:=a5;obtain⟨Ts,Sd,e4,e5,e6⟩:=e3;obtain⟨⟨p,rfl,Se⟩,QH⟩:=e2;obtain⟨q,hq⟩:∃q,Ts=[q]:=by
   cases u<;>first|(cases c9;done)|skip
   obtain⟨⟨q,hq,_⟩,_⟩:=e5;exact⟨q,hq⟩
  subst hq;obtain rfl:Sd=[]:=e6;have Pm:cur=#[p,q]:=by apply Array.toList_inj.1;rw[e1,e4];rfl
  subst Pm;obtain⟨Un,cap2,j1,j2⟩:=aJ hb c1 QH;rw[hl] at j1;obtain⟨rfl,rfl⟩:=cr (ax j1);have j2:p=.pointer none∨p=.pointer (some ⟨blk,0,none⟩):=j2.imp mJ mJ;refine⟨hs.1,(hs.2 w blk p q fr a2 (a3 0 (by simp)) j2).mono fun e w' hw=>?_⟩;obtain⟨rfl,hw⟩:=hw;refine⟨_,rfl,?_⟩;have hres:∀{γ':Gh} {mem':Nat→Option aY} {w':World},bH γ' mem' w' (.om .nl) .val [.tuple #[]]:=fun {_ _ _}=>⟨#[],rfl,rfl⟩;rcases hw with rfl|rfl
  ·refine hK γ _ _ (h.nR hd hres) ?_;cases d<;>exact Ext.refl _ _ _ _
  ·have vt:({ bx with val:=bx.val }:aY)=bx:=by cases bx;rfl
   obtain⟨m1,m2⟩:=h.ok.write hb c4 hl a2 (cur':=#[.pointer (some ⟨blk,0,none⟩),q]) (v:=bx.val) (by simp) (by rw[vt])
    (fun w' mem' hx hg=>by
     rw[vt];unfold bQ;rw[c2];refine⟨blk,cap,_,tid,fr,hl,hg,fun o ho=>a3 o (by simpa using ho),a4,?_⟩;rw[hval];refine⟨[.pointer (some ⟨blk,0,none⟩)],[q],rfl,?_,[q],[],rfl,e5.ext hx,rfl⟩;have Uo:iH mem' b' v' fun _=>∃blk cap,γ.loc b'=some (blk,cap):=by
      obtain⟨cc,k1,k2,k3⟩:=QH;obtain⟨fM,q1,q2,q3⟩:=hx.boxes b' cc k1;exact⟨fM,q1,jq k2 q2,fun _=>⟨blk,cap,hl⟩⟩
     obtain⟨fM,q1,q2,q3⟩:=Uo;exact⟨⟨_,rfl,rfl⟩,fM,q1,q2,fun _=>⟨blk,cap,hl,.inr rfl⟩⟩)
   rw[vt,EH hb] at m1 m2;refine hK γ _ _ (h.aD m2 m1 hd hres) ?_;cases d<;>exact m2
 ·rename_i T E b aj;split at hr
  case h_2=>cases hr
  rename_i bx hb;split at hr
  case h_2=>cases hr
  rename_i b' v' hh Rw un hval;obtain⟨hcd,hr2⟩:=aq hr;simp only[cP,iE] at hcd;obtain⟨⟨⟨⟨c1,c2⟩,c5⟩,c6⟩,c7⟩:=hcd;have c1:=dz c1;have c5:=dz c5;have c6:0<T:=by simpa using c6
  split at hr2
  case h_2=>cases hr2
  rename_i hx Qj;obtain⟨hcd,fQ⟩:=aq hr2;simp only[cP,iE] at hcd;obtain⟨⟨⟨⟨d1,d2⟩,d3⟩,d4⟩,d5⟩:=hcd;have d1:=dz d1;have d4:=dz d4;have d5:0<E:=by simpa using d5
  split at fQ
  case h_2=>cases fQ
  rename_i l Tt;change List Int at l;obtain rfl:=ax fQ;obtain⟨val,rest,hxs,g1,g2⟩:=hv.cons;have mQ:rest=[]:=by have:=g2.1;simpa using this
  subst mQ;obtain⟨blk,cap,hl,g3⟩:=aJ hb c1 g1.2;have g3:=mJ g3;simp only[bR] at g3;obtain rfl:xs=#[.pointer (some ⟨blk,0,none⟩)]:=by apply Array.toList_inj.1;rw[hxs,g3]
  have gi:=h.ok.boxes b bx hb;unfold bQ at gi;rw[c2] at gi;obtain⟨cB,cap',cur,tid,fr,a1,a2,a3,a4,a5⟩:=gi;rw[hl] at a1;obtain⟨rfl,rfl⟩:=cr (ax a1);have ez:tid=T:=by
   rcases a4 with a4|a4
   ·rw[c5] at a4;exact absurd a4 (KR c6)
   ·rw[a4,c5]
  subst ez;rw[hval] at a5;obtain⟨I6,Kd,e1,e2,e3⟩:=a5;obtain⟨Ts,Sd,e4,e5,e6⟩:=e3;obtain⟨⟨p,rfl,Se⟩,QH⟩:=e2;obtain⟨⟨q,rfl,hq1⟩,Pn⟩:=e5;obtain rfl:Sd=[]:=e6;have Pm:cur=#[p,q]:=by apply Array.toList_inj.1;rw[e1,e4];rfl
  subst Pm;obtain⟨e',n',k1,k2,k3⟩:=aJ Qj d1 Pn;rw[aY.b7 d2 Tt] at k2;obtain⟨rfl,rfl⟩:=cr (ax k2);have Po:=h.ok.boxes hh hx Qj;unfold bQ at Po;rw[d2] at Po;obtain⟨e3,l3,q1,q2,q3⟩:=Po;rw[Tt] at q1;cases q1;have hlen:(aG l).length=l.length:=by simp[aG]
  let hx':aY:={ hx with val:=.data (.slice (.int .u8)) ([]:List Int),aj:=hx.aj+1 }
  have key:∃og:Option Nat,(∀k,og=some k→∃c,γ.loc hh=some (k,c))∧l.length≤maxLen ∧
    ((og=none∧q=.slice none 0 0∧aG l=[])∨∃(g cap:Nat) (cur:Array Value) (fr':Nat×Nat),og=some g∧q=.slice (some ⟨g,0,none⟩) (aG l).length cap∧w.heap[g]?=some (.cells cur E fr')∧(aG l).length≤cap∧cap≤maxLen∧cur.size=cap∧∀(j:Nat) (x:UInt8),(aG l)[j]?=some x→cur[j]?=some (Value.int .u8 x.toNat)):=by
   rcases k3 with ⟨k3,k4⟩|⟨g,Pp,k3,k4⟩
   ·rcases q3 with ⟨_,q3⟩|⟨_,_,_,_,_,q3,_⟩
    ·subst q3;exact⟨none,(fun k hk=>by cases hk),oZ _,.inl ⟨rfl,mJ k4,rfl⟩⟩
    ·rw[k3] at q3;cases q3
   ·rcases q3 with ⟨q3,_⟩|⟨g',Tu,Pq,Sf,Up,q3,q4,q5,q6,q7,q8,q9,OO⟩
    ·rw[k3] at q3;cases q3
    ·rw[k3] at q3;obtain⟨rfl,rfl⟩:=cr (ax q3);have Uq:Sf=E:=by
      rcases q6 with q6|q6
      ·rw[d4] at q6;exact absurd q6 (KR d5)
      ·rw[q6,d4]
     subst Uq;have QI:(Ty.int IntKind.u8).size=1:=rfl;have Ur:l.length≤Pp:=q7;refine⟨some g,fun k hk=>⟨Pp,by rw[k3,ax hk]⟩,jq Ur q8,.inr ⟨g,Pp,Pq,Up,rfl,?_,q4,by omega,q8,by rw[q9,QI,F0],fun j x hj=>?_⟩⟩
     ·rw[hlen];exact mJ k4
     ·simp only[aG,zb,Option.map_eq_some_iff] at hj;obtain⟨y,hy,rfl⟩:=hj;obtain⟨r1,r2,r3⟩:=OO j y hy;rw[QI,F0] at r1;have hmin:(IntKind.u8).min=0:=by decide
      have hmax:(IntKind.u8).max=255:=by decide
      have VA:0≤y:=by have:=r2;rw[hmin] at this;exact this
      have VB:y≤255:=by have:=r3;rw[hmax] at this;exact this
      have hcell:Pq.toList[j]?=some (.int .u8 y):=by
       have:((Pq.toList.drop j).take 1)[0]?=some (.int .u8 y):=by rw[r1];rfl
       simpa [lU,rz] using this
      have A4:((UInt8.ofNat y.toNat).toNat:Int)=y:=by
       rw[UInt8.toNat_ofNat'];have:y.toNat<256:=by omega
       rw[Nat.mod_eq_of_lt (by simpa using this)];omega
      rw[A4];simpa using hcell
  obtain⟨og,Tv,Nr,hk⟩:=key;refine⟨hs.1,(hs.2 w blk p q fr (aG l) og a2 hk).mono fun e w' hw=>?_⟩;obtain⟨rfl,hw⟩:=hw;refine⟨_,rfl,?_⟩;have Sg:nD B w w':=⟨hw.os,hw.tape,hw.output,hw.size,fun k hk=>by
   rcases wC k w.heap.size with hlt|hge
   ·refine hw.block k hlt fun e=>hk ?_;obtain⟨c,hc⟩:=Tv k e;exact(h.ok.fresh hh k c (by rw[Qj];simp) hc).1
   ·exact absurd (.inl (jq h.ok.base hge)) hk⟩
  have Si:bQ (bh γ hh none) (bS σ.mem hh hx') w' hh hx':=by
   unfold bQ;rw[show hx'.buf=true from d2];exact⟨.int .u8,[],rfl,q2,.inl ⟨by simp[bh],rfl⟩⟩
  obtain⟨m1,m2⟩:=h.ok.drop (bx:=hx') Qj (HO _) Sg (fun k hk hn=>hw.block k hk fun e=>by obtain⟨c,hc⟩:=Tv k e;exact hn c hc) hw.cell Si;refine hK (bh γ hh none) _ w' (h.aD m2 m1 hd (v:=.data .str (aG l)) (val:=.string ⟨(aG l).toArray⟩) ?_) ?_
  ·exact⟨[.string ⟨(aG l).toArray⟩],⟨rfl,by rw[hlen];exact Nr⟩,rfl⟩
  ·cases d<;>exact m2
 ·cases hr
theorem C9(dc:jP P B.G cx)(iq:oE P B.G inl){f:Nat}{vals:List ay}{xs:Array Value}(h:bZ B N γ σ a w)(hd:∀k,d=some k→k<N)(hv:ij γ σ.mem w vals xs.toList)
  (hr:(o7 cx inl d f vals σ).run=some σ') {K:Act→World→Prop} (hK:tI B N γ σ a w d σ' K) :
  (∃fn code,P.funcs[f]?=some fn∧(fn.name == "runtime.NumGoroutine")=false∧fn.body=some code)∧Calls P f xs w fun e w'=>∃v,e=.returned v∧K (a.put d v) w':=by
 unfold o7 at hr;split at hr
 ·rename_i c Qk;have hh:=dc.fH f c Qk;refine⟨hh.body,?_⟩;split at hr
  ·rename_i QJ;split at hr
   ·rename_i x hx;obtain⟨y,hy,hr2⟩:=bE hr;obtain rfl:=ax hr2;have hargs:=Bj (I':=fun b o=>b<w.heap.size) h.ok (fun b o hi=>h.ok.mW b o hi) (fun b o _ hb=>hb) hv hx;refine(hh.calls (fun b o=>b<w.heap.size) w xs x y (fun b o hb=>hb) h.ok.CT hargs hy).mono fun e w' hw=>?_;obtain⟨v,I',h1,h2,h3,h4,h5,h6⟩:=hw;refine⟨v,h1,?_⟩;obtain⟨m1,m2⟩:=h.ok.Rz (I':=γ.I) h2 (fun _ _ hi=>hi) (fun b o hi=>ud (h.ok.mW b o hi) h2.size) (fun b o hi hn=>absurd hi hn);refine hK γ _ w' (h.aD m2 m1 hd (h6.flat QJ)) ?_;cases d<;>exact m2
   ·exact absurd hr (by intro k;cases k)
  ·split at hr
   ·rename_i x σ1 hx;obtain⟨y,hy,hr2⟩:=bE hr;obtain rfl:=ax hr2;obtain⟨ff,s1,s2,s3⟩:=lI h hv hx;refine(hh.calls ff.I w xs x y (fun b o hi=>s1.ok.mW b o hi) s1.ok.CT s3 hy).mono fun e w' hw=>?_;obtain⟨v,I',h1,h2,h3,h4,h5,h6⟩:=hw;refine⟨v,h1,?_⟩;obtain⟨m1,m2⟩:=s1.ok.Rz (I':=I') h2 h3 h4 h5;refine hK ⟨I',ff.loc⟩ _ w' (s1.aD m2 m1 hd (h6.rep (fun _ _ hi=>hi))) ?_;cases d<;>exact s2.trans m2
   ·exact absurd hr (by intro k;cases k)
 ·rename_i Qk;have vu:((inl f vals σ).bind fun r=>.ret (r.2.aD d r.1):Tree St).run=some σ'→(∃fn code,P.funcs[f]?=some fn∧(fn.name == "runtime.NumGoroutine")=false∧fn.body=some code)∧Calls P f xs w fun e w'=>∃v,e=.returned v∧K (a.put d v) w':=by
   intro hr;obtain⟨r,gE,hr2⟩:=bind_some hr;obtain rfl:=ax hr2;obtain⟨v0,gC⟩:=r;obtain⟨hb,Kc,zQ⟩:=iq B γ σ gC w f vals xs v0 rfl h.ok hv gE;refine⟨hb,zQ.mono fun e w' hw=>?_⟩;obtain⟨v,γ',h1,h2,h3,h4⟩:=hw;refine⟨v,h1,?_⟩;have hs0:gC={ slots:=σ.slots,mem:=gC.mem }:=by cases gC;simp only at Kc;subst Kc;rfl
   rw[hs0] at hK;refine hK γ' _ w' (h.aD h3 h2 hd h4) ?_;cases d<;>exact h3
  split at hr
  ·rename_i s hcs;exact Bl (dc.D2 f s hcs) h hd hv hr hK
  split at hr
  ·rename_i c Tw;split at hr
   ·rename_i x u N M hx;obtain⟨hdup,hr⟩:=aq hr;have hdup:=wU.1 hdup;obtain⟨y,hy,hr2⟩:=bE hr;obtain rfl:=ax hr2;have hh:=dc.bU f c Tw;obtain⟨V,en,g1,g2,g3⟩:=Bk hv hx;obtain⟨bs,k1,k2,k3⟩:=Ce h.ok g2 g3;have hlen:=wV g3;have hold:∀blk∈bL bs (M.map fun p=>γ.loc p.1),∃b k,(∃bx,σ.mem b=some bx)∧γ.loc b=some (blk,k):=fun blk hb=>Cg k1 k3 hb;refine⟨hh.body,(hh.calls γ.I w xs en bs _ x u y (fun b o hi=>h.ok.mW b o hi) h.ok.CT (fun b Q g hb=>by
     obtain⟨n,k,⟨bx,j1⟩,j2⟩:=hold b hb;exact(h.ok.bG b Q g).1 (h.ok.fresh n b k (by rw[j1];simp) j2).1) g1 k2 (xN h.ok k1 k3 hdup) hy).mono fun e w' hw=>?_⟩
    obtain⟨v,I',ls',h1,h2,h3,h4,h5,h6,h7,h8,h9⟩:=hw;refine⟨v,h1,?_⟩;obtain⟨m1,m2⟩:=h.ok.refs g3 hdup k1 k3 h2 h3 h4 h5 h7 h8 h9;have hs:gN c.U y.2 N M σ={ slots:=σ.slots,mem:=(gN c.U y.2 N M σ).mem }:=rfl;refine hK ⟨I',fo M ls' γ.loc⟩ _ w' (by rw[hs];exact h.aD m2 m1 hd (h6.rep (fun _ _ hi=>hi))) ?_;cases d<;>exact m2
   ·exact vu hr
  ·exact vu hr
theorem aV.Gr{mem:Nat→Option aY}{w':World}(h:aV B γ mem w){b:Nat}{fM:aY}{e:Ty}{l':List e.den}{L:Option (Nat×Nat)}{X:Nat→Prop}{I':Nat→Nat→Prop}{v:Value}
  (hX:∀k,X k→∃cc c,mem b=some cc∧cc.ro=false∧γ.loc b=some (k,c)) (hw:C6 w γ.I X w' I') (hown:rW w' I' e l' L v) (Tz:∀blk c,L=some (blk,c)→X blk∨w.heap.size≤blk)
  (aI:∀cc,mem b=some cc→cc.aj<fM.aj∨(cc.aj=fM.aj∧L=γ.loc b∧fM.buf=cc.buf∧fM.row=cc.row)) (hval:fM.val=.data (.slice e) l') (aW:fM.buf=true) (ez:fM.tid=0) (he:0<e.size) :
  let γ':Gh:=⟨I',fun i=>if i=b then L else γ.loc i⟩
  aV B γ' (bS mem b fM) w'∧Ext B γ mem w γ' (bS mem b fM) w':=by
 intro γ';have hsame:∀k,k<w.heap.size→¬X k→w'.heap[k]?=w.heap[k]?:=fun k hk hb=>hw.below.block k fun q=>by
  rcases q with q|q
  ·have:w.heap.size≤k:=q;omega
  ·exact hb q
 have hfree:∀k,X k→∀o,¬γ.I k o:=fun k hk o hi=>by
  obtain⟨cc,c,h1,h2,h3⟩:=hX k hk;have:=(h.sep b cc k c o h1 h3 hi).1;rw[h2] at this;cases this
 have Pk:∀k,¬B.has k→k<w.heap.size:=fun k hk=>HM fun q=>hk (.inl (jq h.base q));have OR:∀k,X k→B.has k∧k<w.heap.size:=fun k hk=>by
  obtain⟨cc,c,h1,h2,h3⟩:=hX k hk;exact h.fresh b k c (by rw[h1];simp) h3
 have hx:Ext B γ mem w γ' (bS mem b fM) w' :=
  { below:=⟨hw.below.os,hw.below.tape,hw.below.output,hw.below.size,fun k hk=>hsame k (Pk k hk) fun hb=>hk (OR k hb).1⟩
    I:=hw.held
    mX:=fun b o x=>by
     by_cases hi:γ.I b o
     ·exact .inl hi
     ·exact .inr (.inl (jq h.base (hw.mX b o x hi)))
    cells:=fun b o hi=>ep (hsame b (h.mW b o hi) fun hb=>hfree b hb o hi)
    boxes:=fun c cx hc=>by
     by_cases e1:c=b
     ·subst e1;refine⟨fM,aU _ _,?_,fun e2=>?_⟩
      ·rcases aI cx hc with q|q
       ·exact KQ q
       ·exact CJ q.1
      ·rcases aI cx hc with q|q
       ·omega
       ·exact⟨by simp[γ',q.2.1],q.2.2⟩
     ·exact⟨cx,by rw[aB _ e1];exact hc,kS _,fun _=>⟨by simp[γ',e1],rfl,rfl⟩⟩ }
 have QK:∀blk c,L=some (blk,c)→blk<w'.heap.size∧∀o,¬I' blk o:=fun blk c hl=>by
  rcases hown with ⟨q,_⟩|⟨cB,cap,cur,tid,fr,q1,q2,q3,q4,q5,q6,q7,q8,q9⟩
  ·rw[q] at hl;cases hl
  ·rw[q1] at hl;obtain⟨rfl,rfl⟩:=cr (ax hl);exact⟨(Array.getElem?_eq_some_iff.1 q3).1,q8⟩
 have hne:∀{c d:Nat},c≠b→bS mem b fM c≠none→mem c≠none:=fun hc hm=>by rwa [aB _ hc] at hm
 have o8:∀{d blk k c:Nat},d≠b→mem d≠none→L=some (blk,k)→γ.loc d=some (blk,c)→False:=fun {d blk k c} hd hm hl h2=>by
  rcases Tz blk k hl with hx1|hx1
  ·obtain⟨cc,c0,j1,j2,j3⟩:=hX blk hx1;exact hd (h.inj d b blk c c0 hm (by rw[j1];simp) h2 j3)
  ·have:=(h.fresh d blk c hm h2).2;omega
 refine⟨?_,hx⟩;exact
  { bG:=h.va hx
    base:=jq h.base hw.below.size
    boxes:=fun c cx hc=>by
     by_cases e1:c=b
     ·subst e1;rw[aU] at hc;obtain rfl:=ax hc;unfold bQ;rw[aW];refine⟨e,l',hval,he,?_⟩;rcases hown with ⟨q1,q2,q3⟩|⟨cB,cap,cur,tid,fr,q1,q2,q3,q4,q5,q6,q7,q8,q9⟩
      ·exact .inl ⟨by simp[γ',q1],q2⟩
      ·exact .inr ⟨cB,cap,cur,tid,fr,by simp[γ',q1],q3,q4,.inl ez,q5,q6,q7,q9⟩
     ·rw[aB _ e1] at hc;refine(h.boxes c cx hc).keep hx (by simp[γ',e1]) fun blk k hl=>hsame blk (h.fresh c blk k (by rw[hc];simp) hl).2 fun hx1=>?_;obtain⟨cc,c0,j1,j2,j3⟩:=hX blk hx1;exact e1 (h.inj c b blk k c0 (by rw[hc];simp) (by rw[j1];simp) hl j3)
    inj:=fun c d blk k k' hc hd h1 h2=>by
     by_cases e1:c=b
     ·by_cases e2:d=b
      ·rw[e1,e2]
      ·exfalso;simp only[γ',ek e1] at h1;simp only[γ',cT e2] at h2;exact o8 e2 (hne (d:=0) e2 hd) h1 h2
     ·by_cases e2:d=b
      ·exfalso;simp only[γ',cT e1] at h1;simp only[γ',ek e2] at h2;exact o8 e1 (hne (d:=0) e1 hc) h2 h1
      ·simp only[γ',cT e1] at h1;simp only[γ',cT e2] at h2;exact h.inj c d blk k k' (hne (d:=0) e1 hc) (hne (d:=0) e2 hd) h1 h2
    fresh:=fun c blk k hc h1=>by
     by_cases e1:c=b
     ·simp only[γ',ek e1] at h1;refine⟨?_,(QK blk k h1).1⟩;rcases Tz blk k h1 with q|q
      ·exact(OR blk q).1
      ·exact .inl (jq h.base q)
     ·simp only[γ',cT e1] at h1;have:=h.fresh c blk k (hne (d:=0) e1 hc) h1;exact⟨this.1,ud this.2 hw.below.size⟩
    mW:=hw.mW
    sep:=fun c cx blk k off hc h1 hi=>by
     by_cases e1:c=b
     ·simp only[γ',ek e1] at h1;exact absurd hi ((QK blk k h1).2 off)
     ·simp only[γ',cT e1] at h1;rw[aB _ e1] at hc;by_cases hi0:γ.I blk off
      ·exact h.sep c cx blk k off hc h1 hi0
      ·have h3:=hw.mX blk off hi hi0;have h2:=(h.fresh c blk k (by rw[hc];simp) h1).2;omega }
theorem rW.rep{I:Nat→Nat→Prop}{loc:Nat→Option (Nat×Nat)}{mem:Nat→Option aY}{w:World}{e:Ty}{l:List e.den}{L:Option (Nat×Nat)}{v:Value}{b aj:Nat}{bx:aY}(h:rW w I e l L v)
  (tq:loc b=L) (hb:mem b=some bx) (aI:bx.aj=aj) (aW:bx.buf=true) (hval:bx.val=.data (.slice e) l):bH ⟨I,loc⟩ mem w (.whole b aj) .val [v]:=by
 rcases h with ⟨q1,q2,q3⟩|⟨cB,cap,cur,tid,fr,q1,q2,q3,q4,q5,q6,q7,q8,q9⟩
 ·exact⟨⟨v,rfl,by rw[q3];rfl⟩,cZ hb aI ⟨e,l.length,aW,aY.b7 aW hval,.inl ⟨by rw[←q1];exact tq,by rw[q3]⟩⟩⟩
 ·exact⟨⟨v,rfl,by rw[q2];rfl⟩,cZ hb aI ⟨e,l.length,aW,aY.b7 aW hval,.inr ⟨cB,cap,by rw[←q1];exact tq,by rw[q2]⟩⟩⟩
theorem Ll{mem:Nat→Option aY}(h:aV B γ mem w){b aj:Nat}{bx:aY}{e:Ty}{l:List e.den}{v:Value}(hb:mem b=some bx)(aI:bx.aj=aj)(aW:bx.buf=true)(hro:bx.ro=false)(hval:bx.val=.data (.slice e) l)
  (hv:bH γ mem w (.whole b aj) .val [v]):rW w γ.I e l (γ.loc b) v∧0<e.size:=by
 obtain⟨e',n,k1,k2,k3⟩:=aJ hb aI hv.2;rw[aY.b7 aW hval] at k2;obtain⟨rfl,rfl⟩:=cr (ax k2);have gi:=h.boxes b bx hb;unfold bQ at gi;rw[aW] at gi;obtain⟨e3,l3,q1,q2,q3⟩:=gi;rw[hval] at q1;cases q1;refine⟨?_,q2⟩;rcases q3 with ⟨q3,q4⟩|⟨blk,cap,cur,tid,fr,q3,q4,q5,q6,q7,q8,q9,OO⟩
 ·rcases k3 with ⟨k3,k4⟩|⟨cB,cap',k3,k4⟩
  ·exact .inl ⟨k3,q4,mJ k4⟩
  ·rw[q3] at k3;cases k3
 ·rcases k3 with ⟨k3,k4⟩|⟨cB,cap',k3,k4⟩
  ·rw[q3] at k3;cases k3
  ·rw[q3] at k3;obtain⟨rfl,rfl⟩:=cr (ax k3);refine .inr ⟨blk,cap,cur,tid,fr,q3,mJ k4,q4,q5,q7,q8,q9,fun o hi=>?_,OO⟩;have:=(h.sep b bx blk cap o hb q3 hi).1;rw[hro] at this;cases this
theorem lZ{e:Ty}{v:ay}{b aj:Nat}{bx:aY}{l:List e.den}(h:qu e σ v=some (b,aj,bx,l)):σ.mem b=some bx∧bx.aj=aj∧bx.buf=true∧bx.lk=false∧bx.ro=false∧bx.tid=0 ∧
  ∃l0:List e.den,bx.val=.data (.slice e) l0∧((v=.whole b aj∧l=l0)∨∃n,v=.part b aj 0 n∧l=sub l0 0 n):=by
 unfold qu at h;split at h
 ·rename_i b0 Nu;split at h
  ·rename_i cc hb;cases hc:(Nat.beq cc.aj Nu&&cc.buf&&!cc.lk&&!cc.ro&&Nat.beq cc.tid 0) with
   | false=>rw[hc] at h;cases h
   | true =>
     rw[hc] at h;simp only[cP,iE] at hc;simp only[jk] at h;split at h
     ·rename_i u l0 hval;split at h
      ·rename_i l1 hl;obtain⟨q,hq⟩:=gA hl;subst q;subst hq;cases h;exact⟨hb,dz hc.1.1.1.1,hc.1.1.1.2,hc.1.1.2,hc.1.2,dz hc.2,_,hval,.inl ⟨rfl,rfl⟩⟩
      ·cases h
     ·cases h
  ·cases h
 ·rename_i b0 Nu lo n;split at h
  ·rename_i cc hb;cases hc:(Nat.beq cc.aj Nu&&cc.buf&&!cc.lk&&!cc.ro&&Nat.beq cc.tid 0&&decide (lo=0)) with
   | false=>rw[hc] at h;cases h
   | true =>
     rw[hc] at h;simp only[cP,iE,A8] at hc;simp only[jk] at h;split at h
     ·rename_i u l0 hval;split at h
      ·rename_i l1 hl;obtain⟨q,hq⟩:=gA hl;subst q;subst hq;cases h;have h0:=hc.2;subst h0;exact⟨hb,dz hc.1.1.1.1.1,hc.1.1.1.1.2,hc.1.1.1.2,hc.1.1.2,dz hc.1.2,_,hval,.inr ⟨n,rfl,rfl⟩⟩
      ·cases h
     ·cases h
  ·cases h
 ·cases h
theorem Gs{mem:Nat→Option aY}(h:aV B γ mem w){b aj:Nat}{bx:aY}{e:Ty}{l:List e.den}{n:Int}{v:Value}(hb:mem b=some bx)(aI:bx.aj=aj)(aW:bx.buf=true)(hro:bx.ro=false)(hval:bx.val=.data (.slice e) l)
  (hv:bH γ mem w (.part b aj 0 n) .val [v]):rW w γ.I e (sub l 0 n) (γ.loc b) v∧0<e.size:=by
 obtain⟨e',k,k2,k3,k4,k5,base,cap',k6,k7,k8,kF,k9⟩:=aJ hb aI hv.2;rw[aY.b7 aW hval] at k2;obtain⟨rfl,rfl⟩:=cr (ax k2);have gi:=h.boxes b bx hb;unfold bQ at gi;rw[aW] at gi;obtain⟨e3,l3,q1,q2,q3⟩:=gi;rw[hval] at q1;cases q1;refine⟨?_,q2⟩;obtain k6:=mJ k6;have hlen:(sub l 0 n).length=n.toNat:=by
  have:n.toNat≤l.length:=by omega
  simp only[sub,iA,ou];omega
 rcases kF.2 rfl aW with ⟨z1,rfl,rfl⟩|⟨blk,z1,rfl⟩
 ·rcases q3 with ⟨q3,q4⟩|⟨blk,cap,cur,tid,fr,q3,_⟩
  ·subst q4;have:n.toNat=0:=by omega
   exact .inl ⟨z1,by simp[sub],by rw[k6,this]⟩
  ·rw[z1] at q3;cases q3
 ·rcases q3 with ⟨q3,q4⟩|⟨cB,cap,cur,tid,fr,q3,q4,q5,q6,q7,q8,q9,OO⟩
  ·rw[z1] at q3;cases q3
  ·rw[z1] at q3;obtain⟨rfl,rfl⟩:=cr (ax q3);refine .inr ⟨blk,cap',cur,tid,fr,z1,by rw[hlen];exact k6,q4,q5,by rw[hlen];omega,q8,q9,fun o hi=>?_,fun i x hx=>OO i x ?_⟩
   ·have:=(h.sep b bx blk cap' o hb z1 hi).1;rw[hro] at this;cases this
   ·have hx':((l.drop (0:Int).toNat).take n.toNat)[i]?=some x:=hx;rw[lU] at hx';split at hx'
    ·simpa using hx'
    ·cases hx'
theorem Ci{e:Ty}{v:ay}{b aj:Nat}{bx:aY}{l:List e.den}{val:Value}(hm:aV B γ σ.mem w)(h:qu e σ v=some (b,aj,bx,l))(hv:bH γ σ.mem w v .val [val]):rW w γ.I e l (γ.loc b) val∧0<e.size:=by
 obtain⟨hb,aI,aW,hlk,hro,ez,l0,hval,Lm⟩:=lZ h;rcases Lm with ⟨rfl,rfl⟩|⟨n,rfl,rfl⟩
 ·exact Ll hm hb aI aW hro hval hv
 ·exact Gs hm hb aI aW hro hval hv
theorem jQ{f:Nat}{s:Ka}(h:nL cx bf d f=some s):find cx.D2 f=some s:=by
 unfold nL at h;split at h
 ·rename_i e he;split at h
  ·obtain rfl:=ax h;exact he
  ·cases h
 ·rename_i he;obtain rfl:=ax h;exact he
 ·rename_i he;obtain rfl:=ax h;exact he
 ·cases h
theorem yu{f:Nat}{e:Ty}{vals:List ay}{xs:Array Value}(hs:mP P f (.clone e))(h:bZ B N γ σ a w)(hd:∀k,d=some k→k<N)(hv:ij γ σ.mem w vals xs.toList)
  (hr:(hU nb e d vals σ).run=some σ') {K:Act→World→Prop} (hK:tI B N γ σ a w d σ' K) :
  (∃fn code,P.funcs[f]?=some fn∧(fn.name == "runtime.NumGoroutine")=false∧fn.body=some code)∧Calls P f xs w fun e w'=>∃v,e=.returned v∧K (a.put d v) w':=by
 unfold hU at hr;split at hr
 case h_2=>cases hr
 rename_i k x;split at hr
 case h_2=>cases hr
 rename_i l σ1 hg;change List e.den at l;obtain⟨he,hr⟩:=aq hr;have he:0<e.size:=by simpa using he
 obtain⟨hfit,hr⟩:=bK hr;obtain⟨aj,aI,hr2⟩:=cv hr;obtain rfl:=ax hr2;obtain⟨val,rest,hxs,g1,g2⟩:=hv.cons;have mQ:rest=[]:=by have:=g2.1;simpa using this
 subst mQ;obtain⟨ff,s1,s2,cs,c1,c2⟩:=iL h g1 hg;have c2:=mJ c2;refine⟨hs.1,(hs.2 ff.I w xs l (fun b o hi=>s1.ok.mW b o hi) ⟨cs,[],by rw[hxs,c2],c1,rfl⟩ hfit).mono fun q w' hw=>?_⟩;obtain⟨v,I',L,rfl,h1,h2,h3⟩:=hw;refine⟨v,rfl,?_⟩;obtain⟨m1,m2⟩:=s1.ok.Gr (b:=nb+k) (fM:={ val:=.data (.slice e) l,tid:=0,buf:=true,ro:=false,lk:=false,aj }) (fun _ hf=>hf.elim) h1 h2 (fun blk c hl=>.inr (h3 blk c hl))
  (fun cc h0=>.inl (aI cc h0)) rfl rfl rfl he
 exact hK _ _ w' (s1.step m2 m1 (hd k rfl) (h2.rep (by simp) (aU _ _) rfl rfl rfl)) (s2.trans m2)
theorem Bm{f:Nat}{e A:Ty}{res:Bool}{spec:List e.den→A.den→Option (List e.den)}{vals:List ay}{xs:Array Value}(hs:mP P f (.own e A res spec))(h:bZ B N γ σ a w)(hd:∀k,d=some k→k<N)(hv:ij γ σ.mem w vals xs.toList)
  (hr:(lD e A res spec d vals σ).run=some σ') {K:Act→World→Prop} (hK:tI B N γ σ a w d σ' K) :
  (∃fn code,P.funcs[f]?=some fn∧(fn.name == "runtime.NumGoroutine")=false∧fn.body=some code)∧Calls P f xs w fun e w'=>∃v,e=.returned v∧K (a.put d v) w':=by
 unfold lD at hr;split at hr
 case h_2=>cases hr
 rename_i v0 vs;split at hr
 case h_2=>cases hr
 rename_i x σ1 hg;split at hr
 case h_2=>cases hr
 rename_i b aj bx l OS;obtain⟨l',hspec,hr⟩:=bE hr;obtain⟨hb,aI,aW,hlk,hro,ez,l0,hval,Lm⟩:=lZ OS;obtain⟨val,rest,hxs,g1,g2⟩:=hv.cons;obtain⟨ff,s1,s2,hargs⟩:=lI h g2 hg;obtain⟨hown,he⟩:=Ci s1.ok OS (g1.ext s2);refine⟨hs.1,(hs.2 ff.I w xs val rest l l' (ff.loc b) x (fun b o hi=>s1.ok.mW b o hi) hxs hown hargs hspec).mono fun q w' hw=>?_⟩;obtain⟨I',h1,h2⟩:=hw;have hX:∀k,(∃c,ff.loc b=some (k,c))→∃cc c,σ1.mem b=some cc∧cc.ro=false∧ff.loc b=some (k,c):=fun k ⟨c,hc⟩=>⟨bx,c,hb,hro,hc⟩;cases res with
 | true =>
   cases d with
   | none=>cases hr
   | some k =>
     obtain rfl:=ax hr;obtain⟨v',L',rfl,h3,h4⟩:=h2;refine⟨v',rfl,?_⟩;obtain⟨m1,m2⟩:=s1.ok.Gr (b:=b) (fM:={ bx with val:=.data (.slice e) l',aj:=aj+1 }) hX h1 h3 h4 (fun cc h0=>by
      rw[hb] at h0;obtain rfl:=ax h0;exact .inl (by simp[aI])) rfl aW ez he
     exact hK _ _ w' (s1.step m2 m1 (hd k rfl) (h3.rep (by simp) (aU _ _) rfl aW rfl)) (s2.trans m2)
 | false =>
   have hr':yM v0=true∧σ'=(σ1.bJ b { bx with val:=.data (.slice e) l' }).aD d (.om .nl):=by
    cases d with
    | none=>obtain⟨q1,q2⟩:=aq hr;exact⟨q1,(ax q2).symm⟩
    | some k=>obtain⟨q1,q2⟩:=aq hr;exact⟨q1,(ax q2).symm⟩
   obtain⟨Us,rfl⟩:=hr';obtain rfl:l=l0:=by
    rcases Lm with ⟨_,q⟩|⟨n,rfl,_⟩
    ·exact q
    ·cases Us
   obtain⟨rfl,hlen,h3⟩:=h2;refine⟨_,rfl,?_⟩;obtain⟨m1,m2⟩:=s1.ok.Gr (b:=b) (fM:={ bx with val:=.data (.slice e) l' }) hX h1 h3 (fun blk c hl=>.inl ⟨c,hl⟩) (fun cc h0=>by
    rw[hb] at h0;obtain rfl:=ax h0;exact .inr ⟨rfl,rfl,rfl,by rw[aY.b7 aW hval,aY.b7 (bx:={ bx with val:=.data (.slice e) l' }) aW rfl,hlen]⟩) rfl aW ez he
   refine hK _ _ w' (s1.aD m2 m1 hd (v:=.om .nl) (val:=.tuple #[]) ⟨#[],rfl,rfl⟩) ?_;cases d<;>exact s2.trans m2
theorem yw{f g:Nat}{vals:List ay}{xs:Array Value}(hs:mP P f (.rG g))(h:bZ B N γ σ a w)(hd:∀k,d=some k→k<N)(hv:ij γ σ.mem w vals xs.toList)
  (hr:(hY nb g d vals σ).run=some σ') {K:Act→World→Prop} (hK:tI B N γ σ a w d σ' K) :
  (∃fn code,P.funcs[f]?=some fn∧(fn.name == "runtime.NumGoroutine")=false∧fn.body=some code)∧Calls P f xs w fun e w'=>∃v,e=.returned v∧K (a.put d v) w':=by
 unfold hY at hr;split at hr
 ·cases hr
 ·cases hr
 ·rename_i k v Ut hnt;obtain⟨aj,aI,hr2⟩:=cv hr;obtain rfl:=ax hr2;obtain⟨val,rest,hxs,g1,g2⟩:=hv.cons;have mQ:rest=[]:=by have:=g2.1;simpa using this
  subst mQ;obtain⟨hc,T,QL⟩:=hs;obtain⟨m1,m2⟩:=h.ok.newVar (b:=nb+k) (v:=v) (tid:=0) aI (cs:=val.cells) T (.inl rfl) (g1.gP (fun u e=>hnt u e) (fun e=>absurd e Ut));have Sj:xs=#[val]:=by apply Array.toList_inj.1;rw[hxs]
  rw[Sj];refine⟨hc,(QL w val).mono fun q w' hw=>?_⟩;obtain⟨rfl,rfl⟩:=hw;refine⟨_,rfl,hK _ _ _ (h.step m2 m1 (hd k rfl) ?_) m2⟩;refine⟨#[.pointer (some ⟨w.heap.size,0,none⟩)],rfl,rfl,fun i b Ew hi=>?_⟩;cases i with
  | zero =>
    obtain⟨rfl,rfl⟩:=cr (ax hi);exact cZ (bx:={ val:=v,tid:=0,buf:=false,ro:=false,lk:=false,aj:=aj }) (aU _ _) rfl ⟨w.heap.size,0,by simp[bh],rfl⟩
  | succ i=>cases hi
 ·cases hr
theorem Bn(dc:jP P B.G cx)(iq:oE P B.G inl){f:Nat}{vals:List ay}{xs:Array Value}(h:bZ B N γ σ a w)(hd:∀k,d=some k→k<N)(hv:ij γ σ.mem w vals xs.toList)
  (hr:(mV cx nb bf inl d f vals σ).run=some σ') {K:Act→World→Prop} (hK:tI B N γ σ a w d σ' K) :
  (∃fn code,P.funcs[f]?=some fn∧(fn.name == "runtime.NumGoroutine")=false∧fn.body=some code)∧Calls P f xs w fun e w'=>∃v,e=.returned v∧K (a.put d v) w':=by
 unfold mV at hr;split at hr
 ·rename_i e he;exact yu (dc.D2 f _ (jQ he)) h hd hv hr hK
 ·rename_i e A r s he;exact Bm (dc.D2 f _ (jQ he)) h hd hv hr hK
 ·rename_i g he;exact yw (dc.D2 f _ (jQ he)) h hd hv hr hK
 ·exact C9 dc iq h hd hv hr hK
theorem zR{o:Oper}{f:Nat}{xs:Array Value}{K:Act→World→Prop}{Q:Exit→Act→World→Prop}(hs:(execOp a.eval o).run P w=(callFunc f xs).run P w)
  (h:(∃fn code,P.funcs[f]?=some fn∧(fn.name == "runtime.NumGoroutine")=false∧fn.body=some code)∧Calls P f xs w fun e w'=>∃v,e=.returned v∧K (a.put o.dst v) w'):o.wp P a w K Q:=by
 obtain⟨⟨fn,code,h1,h2,h3⟩,hc⟩:=h;unfold Oper.wp;rw[hs,C8 h1 h2 h3];refine hc.mono fun e w' hw=>?_;obtain⟨v,rfl,hk⟩:=hw;exact hk
theorem EI(hc:eo P cx){t ty:TypeId}{v:ay}{x:Value}{n:Int}(hm:aV B γ σ.mem w)(hv:bH γ σ.mem w v .val [x])(ht:HV (find cx.T t) v=true)(hl:lenOf σ v=some n) :
  (Builtin.len_ #[t] ty #[x]).run P w=.ok (goInt n) w∧IntKind.i64.min≤n∧n≤IntKind.i64.max:=by
 have hmax:(maxLen:Int)≤IntKind.i64.max:=by decide
 have hmin:IntKind.i64.min≤0:=by decide
 have Ql:∀{base:Option Addr} {m c:Nat},(∃e,find cx.T t=some (.slice e))→x=.slice base m c→n=m→m≤maxLen→(Builtin.len_ #[t] ty #[x]).run P w=.ok (goInt n) w∧IntKind.i64.min≤n∧n≤IntKind.i64.max:=by
  intro base m c he hx hn hm;obtain⟨e,he⟩:=he;obtain⟨cq,f1,_⟩:=(hc.T _ _ he).slice;subst hx;subst hn;refine⟨?_,by omega,by omega⟩;simp[Builtin.len_,run_underlying f1]
 have Kc:∀{o:Option Ty},(match o with|some (.slice _)=>true|_=>false)=true→∃e,o=some (.slice e):=by
  intro o h;split at h
  ·exact⟨_,rfl⟩
  ·cases h
 cases v with
 | data u y =>
   cases u with
   | str =>
     obtain⟨rfl,h2⟩:=o9 hv;obtain rfl:=ax hl;have hT:=(hc.T _ _ (fN ht)).str;have e1:(⟨List.toArray (α:=UInt8) y⟩:ByteArray).size=List.length (α:=UInt8) y:=by
      show(List.toArray (α:=UInt8) y).size=_
      exact KJ
     refine⟨?_,?_,?_⟩
     ·simp only[Builtin.len_];simp[run_underlying hT,e1,len]
     ·simp only[len];omega
     ·simp only[len];omega
   | slice e =>
     obtain rfl:=ax hl;obtain⟨cs,h1,h2⟩:=cC.1 hv;rcases h1 with ⟨⟨_,h1⟩,h3⟩|⟨blk,off,cap,h1,h3,h4,_⟩
     ·rw[h1] at h2;exact Ql ⟨e,fN ht⟩ (show x=.slice _ 0 0 from h2) (by rw[h3];rfl) (oZ _)
     ·rw[h1] at h2;exact Ql ⟨e,fN ht⟩ (show x=.slice _ _ _ from h2) rfl (jq h3 h4)
   | arr m e =>
     obtain⟨cq,f1,_⟩:=(hc.T _ _ (fN ht)).arr;simp only[lenOf] at hl;cases hb:Nat.ble m 4294967296 with
     | false=>rw[hb] at hl;cases hl
     | true =>
       rw[hb] at hl;obtain rfl:=ax hl;have:=ya hb;have h9:(4294967296:Int)≤IntKind.i64.max:=by decide
       refine⟨by simp[Builtin.len_,run_underlying f1],by omega,by omega⟩
   | _=>cases hl
 | js =>
   obtain rfl:=ax hl;obtain rfl:x=_:=by simpa [bH] using hv
   exact Ql (Kc ht) rfl rfl (oZ _)
 | whole b aj =>
   simp only[lenOf] at hl;split at hl
   ·rename_i bx hb;cases NA:(Nat.beq bx.aj aj&&bx.buf) with
    | false=>rw[NA] at hl;cases hl
    | true =>
      rw[NA] at hl;simp only[cP] at NA;simp only[jk] at hl;split at hl
      ·rename_i u l iZ;obtain rfl:=ax hl;obtain⟨e',k,g1,g2,g3⟩:=aJ hb (dz NA.1) hv.2;rw[aY.b7 g1 iZ] at g2;obtain⟨rfl,rfl⟩:=cr (ax g2);rcases g3 with ⟨g3,g4⟩|⟨blk,cap,g3,g4⟩
       ·have gi:=hm.boxes b bx hb;rw[bQ,g1] at gi;obtain⟨e3,l3,q1,q2,q3⟩:=gi;rw[iZ] at q1;cases q1;rcases q3 with ⟨_,q3⟩|⟨blk,cap,cur,tid,fr,q3,_⟩
        ·exact Ql (Kc ht) (mJ g4) (by rw[q3];rfl) (oZ _)
        ·rw[g3] at q3;cases q3
       ·obtain⟨cur,tid,fr,q1,q2,q3,q4,_⟩:=((hm.boxes b bx hb).row g3).1 _ l g1 iZ;exact Ql (Kc ht) (mJ g4) rfl (jq q3 q4)
      ·cases hl
   ·cases hl
 | part b aj lo n' =>
   simp only[lenOf] at hl;cases hlv:live σ b aj with
   | false=>rw[hlv] at hl;cases hl
   | true =>
     rw[hlv] at hl;obtain rfl:=ax hl;obtain⟨bx,hb,aI⟩:=gD hlv;obtain⟨e',k,g2,g3,g4,g5,base,cap,g6,g7,g8,gF,g9⟩:=aJ hb aI hv.2;exact Ql (Kc ht) (mJ g6) (KH g4).symm (jq g7 g8)
 | _=>cases hl
theorem ef.take{w:World}{I:Nat→Nat→Prop}{e:Ty}{l:List e.den}{cs:List Value}(h:ef w I e l cs)(k:Nat):ef w I e (l.take k) (cs.take (k*e.size)):=by
 intro i x hx;rw[lU] at hx;split at hx
 ·rename_i hi;have hm:(i+1)*e.size≤k*e.size:=lT _ hi;rw[rF] at hm;rw[HP,Ed,wz (by omega)];exact h i x hx
 ·cases hx
theorem ef.drop{w:World}{I:Nat→Nat→Prop}{e:Ty}{l:List e.den}{cs:List Value}(h:ef w I e l cs)(k:Nat):ef w I e (l.drop k) (cs.drop (k*e.size)):=by
 intro i x hx;rw[rz] at hx;rw[qm,←qn];exact h _ x hx
theorem rX{α:Type}{l m:List α}{lo:Int}(h0:0≤lo)(h:lo+m.length≤l.length):(over l lo m).length=l.length:=by
 simp only[over,pM,iA,ou];omega
theorem ef.over{w:World}{I:Nat→Nat→Prop}{e:Ty}{l m:List e.den}{cs news:List Value}{lo:Int}(h:ef w I e l cs)(hm:ef w I e m news)(hn:news.length=m.length*e.size)(h0:0≤lo)
  (hl:lo+m.length≤l.length) (hc:l.length*e.size≤cs.length):ef w I e (over l lo m) (splice cs (lo.toNat*e.size) news):=by
 have h1:(lo.toNat+m.length)*e.size≤l.length*e.size:=lT _ (by omega);rw[qn] at h1;have a1:=(h.take lo.toNat).append (rest:=[]) hm (by rw[iA,iA,wz (by omega),wz (by omega)]) hn;rw[A9] at a1;have a2:=a1.append (rest:=[]) (h.drop (lo.toNat+m.length)) (by rw[pM,pM,qn,hn,iA,iA,wz (by omega),wz (by omega)]);have e1:splice cs (lo.toNat*e.size) news=cs.take (lo.toNat*e.size)++news++cs.drop ((lo.toNat+m.length)*e.size):=by
  simp only[splice,hn,qn]
 rw[e1];intro i x hx;have hi:i<l.length:=by have:=(List.getElem?_eq_some_iff.1 hx).1;rw[rX h0 hl] at this;exact this
 have TA:(i+1)*e.size≤l.length*e.size:=lT _ hi;by_cases QM:(lo.toNat+m.length)*e.size+(l.length-(lo.toNat+m.length))*e.size=l.length*e.size
 ·have a3:ef w I e (Go.Ge.over l lo m) (cs.take (lo.toNat*e.size)++news++(cs.drop ((lo.toNat+m.length)*e.size))):=by
   intro i x hx;by_cases Uu:i<lo.toNat+m.length
   ·have hx':(l.take lo.toNat++m)[i]?=some x:=by
     simp only[Go.Ge.over] at hx;rw[M8 (by rw[pM,iA];omega)] at hx;exact hx
    have hm2:(i+1)*e.size≤(lo.toNat+m.length)*e.size:=lT _ Uu;rw[je (by rw[pM,iA,hn,wz (by omega),←qn];exact hm2)];exact a1 i x hx'
   ·have hx':(l.drop (lo.toNat+m.length))[i-(lo.toNat+m.length)]?=some x:=by
     simp only[Go.Ge.over] at hx;rw[Oq (by rw[pM,iA];omega)] at hx;rw[←hx];congr 1;rw[pM,iA];omega
    have:=h.drop (lo.toNat+m.length) _ x hx';have e2:i*e.size=(cs.take (lo.toNat*e.size)++news).length+(i-(lo.toNat+m.length))*e.size:=by
     rw[pM,iA,hn,wz (by omega),←qn,←qn];congr 1;omega
    rw[e2,←qm,ue];exact this
  exact a3 i x hx
 ·exact absurd (by rw[←qn];congr 1;omega) QM
theorem nW(h:bZ B N γ σ a w){e:Ty}{m:List e.den}{b aj:Nat}{q:List uh}{KT:Nat→Ty→Bool}{lo:Int}{base:Option Addr}{news:List Value}
  (hr:(gB e m b aj q KT lo σ).run=some σ') (hE:ef w γ.I e m news) (hn:news.length=m.length*e.size) (hone:∀u∈news,u.oneCell'=true) (h0:0≤lo)
  (aW:∀bx (l:List e.den),σ.mem b=some bx→bx.aj=aj→bx.buf=true→bx.val=.data (.slice e) l→q=[]→lo+m.length≤l.length)
  (Sk:∀bx k (l:List e.den),σ.mem b=some bx→bx.aj=aj→bx.buf=false→(IU q bx.val).run=some (.data (.arr k e) l)→KT k e=true→lo+m.length≤k)
  (hbase:m=[]∨∃blk c,γ.loc b=some (blk,c)∧base=some ⟨blk,bR q+lo.toNat*e.size,none⟩) :
  ∃w',(match base with|some ad=>storeCells ad news|none=>pure ()).run P w=.ok () w'∧bZ B N γ σ' a w'∧Ext B γ σ.mem w γ σ'.mem w':=by
 unfold gB at hr;split at hr
 case h_2=>cases hr
 rename_i bx hb;obtain⟨hcd,hr2⟩:=aq hr;simp only[cP,iE] at hcd;obtain⟨⟨aI,hlk⟩,hro⟩:=hcd;have aI:=dz aI;have gi:=h.ok.boxes b bx hb;have hnil:m=[]→news=[]:=fun hm=>by subst hm;simpa using hn
 have QN:m=[]→(match base with|some ad=>storeCells ad news|none=>pure ()).run P w=.ok () w:=fun hm=>by
  rw[hnil hm];cases base<;>rfl
 have Ln:∀(blk c:Nat) (cur:Array Value) (tid:TypeId) (fr:Nat×Nat),γ.loc b=some (blk,c)→w.heap[blk]?=some (.cells cur tid fr)→jm cur fr→bR q+lo.toNat*e.size+news.length≤cur.size →
   (match base with|some ad=>storeCells ad news|none=>pure ()).run P w=.ok () (w.setRow blk (splice cur.toList (bR q+lo.toNat*e.size) news).toArray):=by
  intro blk c cur tid fr hl hg Kb hle;rcases hbase with hm|⟨cB,c',hl',rfl⟩
  ·rw[QN hm,hnil hm];simp only[splice,A9,oX,uf,A6,Array.toArray_toList];rw[setRow_self w blk cur tid fr hg]
  ·rw[hl] at hl';obtain⟨rfl,rfl⟩:=cr (ax hl');have:=cN (P:=P) blk (bR q+lo.toNat*e.size) tid fr news 0 cur w hg Kb (by omega) hone;rw[uf] at this;exact this
 split at hr2
 ·rename_i vv;split at hr2
  case h_2=>cases hr2
  rename_i u l iZ;split at hr2
  case h_2=>cases hr2
  rename_i m' hm';obtain rfl:=ax hr2;obtain⟨hq,Pn⟩:=gA hm';subst hq;obtain rfl:m'=m:=Pn;have hle:=aW bx l hb aI vv iZ rfl;have hlen:=rX h0 hle;unfold bQ at gi;rw[vv] at gi;obtain⟨e2,l2,j1,j2,j3⟩:=gi;rw[iZ] at j1;cases j1;have hrw:({ bx with val:=.data (.slice e) (over l lo m') }:aY).row=bx.row:=by
   rw[aY.b7 vv iZ];exact(aY.b7 (bx:=⟨.data (.slice e) (over (α:=e.den) l lo m'),bx.tid,bx.buf,bx.ro,bx.lk,bx.aj⟩) (l:=over (α:=e.den) l lo m') vv rfl).trans (by rw[hlen])
  rcases j3 with ⟨k1,k2⟩|⟨blk,cap,cur,tid,fr,k1,k2,k3,ez,k4,k5,k6,k7⟩
  ·subst k2;have hm0:m'=[]:=by
    cases m' with
    | nil=>rfl
    | cons x r=>simp at hle;omega
   subst hm0;have e1:σ.bJ b { bx with val:=.data (.slice e) (over ([]:List e.den) lo []) }=σ:=by
    have:({ bx with val:=.data (.slice e) (over ([]:List e.den) lo []) }:aY)=bx:=by
     cases bx;simp only at iZ;subst iZ;simp[over]
    rw[this];cases σ;simp only[St.bJ]
    congr 1
    funext i;by_cases hi:i=b
    ·subst hi;simp only[CI,jk];exact hb.symm
    ·simp[fJ hi]
   rw[e1];exact⟨w,QN rfl,h,Ext.refl _ _ _ _⟩
  ·have hoff:bR ([]:List uh)+lo.toNat*e.size+news.length≤cur.size:=by
    have:(lo.toNat+m'.length)*e.size≤cap*e.size:=lT _ (by omega);rw[qn] at this;simp only[bR];omega
   have hst:=Ln blk cap cur tid fr k1 k2 k3.th hoff;have Pr:lo.toNat*e.size+news.length≤cur.toList.length:=by simp only[bR] at hoff;show _≤cur.size;omega
   have hsz:(splice cur.toList (lo.toNat*e.size) news).toArray.size=cur.size:=by have:=b5 Pr;simpa using this
   obtain⟨m1,m2⟩:=h.ok.write hb hro k1 k2 (cur':=(splice cur.toList (lo.toNat*e.size) news).toArray) (v:=.data (.slice e) (over l lo m')) hsz hrw
    (fun w' mem' hx hg=>by
     show bQ γ mem' w' b { bx with val:=.data (.slice e) (over l lo m') }
     unfold bQ;simp only[vv];refine⟨e,_,rfl,j2,.inr ⟨blk,cap,_,tid,fr,k1,hg,k3.same hsz,ez,by rw[hlen];exact k4,k5,by rw[hsz];exact k6,?_⟩⟩;intro i x hx';have:=ef.over (l:=l) (cs:=cur.toList) k7 hE hn h0 hle (by show _≤cur.size;rw[k6];exact lT _ k4) i x hx';simpa using bt.mono hx.I hx.cells this)
   simp only[bR,oY] at hst;exact⟨_,hst,h.go m2 m1,m2⟩
 ·rename_i vv;obtain⟨old,Lo,fQ⟩:=bind_some hr2;split at fQ
  case h_2=>cases fQ
  rename_i k u l;obtain⟨Pt,iY⟩:=aq fQ;split at iY
  case h_2=>cases iY
  rename_i m' hm';obtain⟨c,hs,Bc⟩:=bind_some iY;obtain rfl:=ax Bc;obtain⟨hq,Pn⟩:=gA hm';subst hq;obtain rfl:m'=m:=Pn;have hle:=Sk bx k l hb aI vv Lo Pt;unfold bQ at gi;rw[vv] at gi;obtain⟨blk,cap,cur,tid,fr,k1,k2,k3,ez,k4⟩:=gi;obtain⟨p1,p2⟩:=oC k4 Lo;have hvs:bY (.data (.arr k e) l)=k*e.size:=rfl;rw[hvs] at p1 p2;obtain⟨r1,r2,r3⟩:=p2;have TB:lo+m'.length≤(List.length (α:=e.den) l:Int):=by rw[r1];exact hle
  have hlen:List.length (α:=e.den) (over (α:=e.den) l lo m')=List.length (α:=e.den) l:=rX (l:=l) h0 TB;have Sl:(lo.toNat+m'.length)*e.size≤k*e.size:=lT _ (by omega);rw[qn] at Sl;have hoff:bR q+lo.toNat*e.size+news.length≤cur.size:=by have p1':bR q+k*e.size≤cur.size:=p1;omega
  have hst:=Ln blk cap cur tid fr k1 k2 k3 hoff;have NB:((cur.toList.drop (bR q)).take (k*e.size)).length=k*e.size:=r2;have OU:lo.toNat*e.size+news.length≤((cur.toList.drop (bR q)).take (k*e.size)).length:=by rw[NB];omega
  have hnew:bt w γ.I (.arr k e) (over l lo m') (splice ((cur.toList.drop (bR q)).take (k*e.size)) (lo.toNat*e.size) news):=by
   refine⟨hlen.trans r1,by rw[b5 OU,NB],?_⟩;exact ef.over (l:=l) r3 hE hn h0 TB (by rw[NB];exact CJ (by rw[r1]))
  have Sm:=lH cur.toList (bR q) (lo.toNat*e.size) (k*e.size) news (by omega) p1;have hrw:({ bx with val:=c }:aY).row=bx.row:=xI (bx:=bx) (p:=q) (v:=.data (.arr k e) (over l lo m')) (by rw[vv];exact hs) fun hp _=>by
   subst hp;have iZ:bx.val=.data (.arr k e) l:=ax Lo;rw[aY.kf vv iZ];exact aY.kf (bx:=⟨_,bx.tid,bx.buf,bx.ro,bx.lk,bx.aj⟩) vv rfl
  have Pr:bR q+lo.toNat*e.size+news.length≤cur.toList.length:=hoff;have hsz:(splice cur.toList (bR q+lo.toNat*e.size) news).toArray.size=cur.size:=by have:=b5 Pr;simpa using this
  obtain⟨m1,m2⟩:=h.ok.write hb hro k1 k2 (cur':=(splice cur.toList (bR q+lo.toNat*e.size) news).toArray) (v:=c) hsz hrw
   (fun w' mem' hx hg=>by
    show bQ γ mem' w' b { bx with val:=c }
    unfold bQ;simp only[vv];refine⟨blk,cap,_,tid,fr,k1,hg,k3.same hsz,ez,?_⟩;have:=qy (k4.ext hx) Lo hs (show bH γ mem' w' (.data (.arr k e) (over l lo m')) .cells _ from bt.mono hx.I hx.cells hnew) (by rw[b5 OU,NB];rfl);rw[Sm] at this;simpa using this)
  exact⟨_,hst,h.go m2 m1,m2⟩
theorem vw{e:Ty}{mf:Int→List e.den}{t:ay}{tv:Value}{r:Int×St}(h:bZ B N γ σ a w)(hv:bH γ σ.mem w t .val [tv])(hr:(wG e mf t σ).run=some r) :
  ∃base cap,tv=.slice base r.1.toNat cap∧0≤r.1∧∀news,ef w γ.I e (mf r.1) news→news.length=(mf r.1).length*e.size→(∀u∈news,u.oneCell'=true)→(mf r.1).length≤r.1.toNat →
   ∃w',(match base with|some ad=>storeCells ad news|none=>pure ()).run P w=.ok () w'∧bZ B N γ r.2 a w'∧Ext B γ σ.mem w γ r.2.mem w':=by
 unfold wG at hr;split at hr
 ·rename_i b aj lo n;obtain⟨σ1,gE,hr2⟩:=bind_some hr;obtain rfl:=ax hr2;have EJ:∃bx,σ.mem b=some bx∧bx.aj=aj:=by
   unfold gB at gE;split at gE
   ·rename_i bx hb;obtain⟨hcd,_⟩:=aq gE;simp only[cP] at hcd;exact⟨bx,hb,dz hcd.1.1⟩
   ·cases gE
  obtain⟨bx,hb,aI⟩:=EJ;obtain⟨e',k,g2,g3,g4,g5,base,cap,g6,g7,g8,gF,g9⟩:=aJ hb aI hv.2;refine⟨base,cap,by simpa using g6,g4,fun news hE hn hone hle=>?_⟩;dsimp only at hE hn hle;refine nW h gE hE hn hone g3 (fun fM l hb' _ vv iZ _=>?_) (fun fM k' l hb' _ vv Lo _=>?_) ?_
  ·obtain rfl:=ax (hb.symm.trans hb');rw[aY.b7 vv iZ] at g2;obtain⟨_,rfl⟩:=cr (ax g2);omega
  ·obtain rfl:=ax (hb.symm.trans hb');have iZ:bx.val=.data (.arr k' e) l:=ax Lo;rw[aY.kf vv iZ] at g2;obtain⟨_,rfl⟩:=cr (ax g2);omega
  ·rcases g9 with g9|⟨blk,c,g9,g10⟩
   ·left;exact Kq (by rw[g9,show(0:Int).toNat=0 from rfl] at hle;rw[g9];omega)
   ·by_cases hm:mf n=[]
    ·exact .inl hm
    ·right;have he:e'=e:=by
      unfold gB at gE;rw[hb] at gE;obtain⟨_,fQ⟩:=aq gE;split at fQ
      ·rename_i vv;split at fQ
       case h_2=>cases fQ
       rename_i u l iZ;split at fQ
       case h_2=>cases fQ
       rename_i m' hm';obtain⟨hq,_⟩:=gA hm';rw[aY.b7 vv iZ] at g2;obtain⟨rfl,_⟩:=cr (ax g2);exact hq.symm
      ·rename_i vv;obtain⟨old,Lo,iY⟩:=bind_some fQ;split at iY
       case h_2=>cases iY
       rename_i k' u l;obtain⟨_,Bc⟩:=aq iY;split at Bc
       case h_2=>cases Bc
       rename_i m' hm';obtain⟨hq,_⟩:=gA hm';have iZ:bx.val=.data (.arr k' u) l:=ax Lo;rw[aY.kf vv iZ] at g2;obtain⟨rfl,_⟩:=cr (ax g2);exact hq.symm
     subst he;exact⟨blk,c,g9,by rw[g10];simp[bR]⟩
 ·rename_i b aj;split at hr
  case h_2=>cases hr
  rename_i n hlen;obtain⟨σ1,gE,hr2⟩:=bind_some hr;obtain rfl:=ax hr2;have EJ:∃bx,σ.mem b=some bx∧bx.aj=aj:=by
   unfold gB at gE;split at gE
   ·rename_i bx hb;obtain⟨hcd,_⟩:=aq gE;simp only[cP] at hcd;exact⟨bx,hb,dz hcd.1.1⟩
   ·cases gE
  obtain⟨bx,hb,aI⟩:=EJ;obtain⟨e',k,g1,g2,g3⟩:=aJ hb aI hv.2;have jW:=h.ok.boxes b bx hb;have hl:∃l:List e.den,bx.val=.data (.slice e) l∧n=l.length:=by
   unfold gB at gE;rw[hb] at gE;obtain⟨_,fQ⟩:=aq gE;split at fQ
   ·split at fQ
    case h_2=>cases fQ
    rename_i u l TC iZ;split at fQ
    case h_2=>cases fQ
    rename_i m' hm';obtain⟨hq,_⟩:=gA hm';subst hq;refine⟨l,iZ,?_⟩;simp only[lenOf,hb,aI,g1,CI,Bool.and_self,jk,iZ] at hlen;exact(ax hlen).symm
   ·rename_i vv;rw[g1] at vv;cases vv
  obtain⟨l,iZ,rfl⟩:=hl;rw[aY.b7 g1 iZ] at g2;obtain⟨rfl,rfl⟩:=cr (ax g2);have fin:∀{base:Option Addr} {cap:Nat},tv=.slice base l.length cap→(l.length=0∨∃blk c,γ.loc b=some (blk,c)∧base=some ⟨blk,0,none⟩) →
    ∃base cap,tv=.slice base (l.length:Int).toNat cap∧(0:Int)≤l.length∧∀news,ef w γ.I e (mf l.length) news→news.length=(mf l.length).length*e.size→(∀u∈news,u.oneCell'=true)→(mf l.length).length≤(l.length:Int).toNat →
     ∃w',(match base with|some ad=>storeCells ad news|none=>pure ()).run P w=.ok () w'∧bZ B N γ σ1 a w'∧Ext B γ σ.mem w γ σ1.mem w':=by
   intro base cap Uv hb0;refine⟨base,cap,by simpa using Uv,by omega,fun news hE hn hone hle=>?_⟩;refine nW h gE hE hn hone (by omega) (fun fM l' hb' _ vv QO _=>?_) (fun fM k' l' hb' _ vv Lo _=>?_) ?_
   ·obtain rfl:=ax (hb.symm.trans hb');rw[iZ] at QO;cases QO;omega
   ·obtain rfl:=ax (hb.symm.trans hb');rw[g1] at vv;cases vv
   ·rcases hb0 with hb0|⟨blk,c,q1,q2⟩
    ·left;exact Kq (by omega)
    ·right;exact⟨blk,c,q1,by rw[q2];simp[bR]⟩
  rcases g3 with ⟨g3,g4⟩|⟨blk,cap,g3,g4⟩
  ·obtain g4:tv=_:=by simpa using g4
   rw[bQ,g1] at jW;obtain⟨e2,l2,j1,j2,j3⟩:=jW;rw[iZ] at j1;cases j1;rcases j3 with ⟨_,j4⟩|⟨_,_,_,_,_,j3,_⟩
   ·exact fin (base:=none) (cap:=0) (by rw[g4,j4];rfl) (.inl (by rw[j4];rfl))
   ·rw[g3] at j3;cases j3
  ·exact fin (mJ g4) (.inr ⟨blk,cap,g3,rfl⟩)
 ·rename_i b aj q u k lo n;obtain⟨σ1,gE,hr2⟩:=bind_some hr;obtain rfl:=ax hr2;have EJ:∃bx,σ.mem b=some bx∧bx.aj=aj:=by
   unfold gB at gE;split at gE
   ·rename_i bx hb;obtain⟨hcd,_⟩:=aq gE;simp only[cP] at hcd;exact⟨bx,hb,dz hcd.1.1⟩
   ·cases gE
  obtain⟨bx,hb,aI⟩:=EJ;obtain⟨hq,blk,c,g1,g3,g4,g5,base,cap,g6,g7,g9⟩:=aJ hb aI hv.2;refine⟨base,cap,by simpa using g6,g4,fun news hE hn hone hle=>?_⟩;dsimp only at hE hn hle;refine nW h gE hE hn hone g3 (fun fM l hb' _ vv iZ TC=>absurd TC hq) (fun fM k' l hb' _ vv Lo Pt=>?_) ?_
  ·simp only[cP] at Pt;have:=dz Pt.1;omega
  ·rcases g9 with g9|g10
   ·left;exact Kq (by rw[g9,show(0:Int).toNat=0 from rfl] at hle;rw[g9];omega)
   ·by_cases hm:mf n=[]
    ·exact .inl hm
    ·right;have he:u=e:=by
      unfold gB at gE;rw[hb] at gE;obtain⟨_,fQ⟩:=aq gE;split at fQ
      ·split at fQ
       ·exact absurd rfl hq
       ·cases fQ
      ·obtain⟨old,Lo,iY⟩:=bind_some fQ;split at iY
       case h_2=>cases iY
       obtain⟨Pt,Bc⟩:=aq iY;split at Bc
       case h_2=>cases Bc
       rename_i m' hm';obtain⟨K8,_⟩:=gA hm';simp only[cP] at Pt;exact(Ty.eq_of_beq Pt.2).trans K8.symm
     subst he;exact⟨blk,c,g1,g10⟩
 ·cases hr
theorem zS{I:Nat→Nat→Prop}{e:Ty}{m:List e.den}{v:Value}(h:rT w I e m v)(n:Nat)(hn:n≤m.length) :
  ∃news,(Builtin.firstCells e.size n v).run P w=.ok news.toArray w∧news.length=n*e.size∧(∀u∈news,u.oneCell'=true)∧ef w I e (m.take n) news∧(Builtin.lenOf v).run P w=.ok m.length w:=by
 rcases h with ⟨rfl,base,cap,r1,r2,r3⟩|⟨blk,off,cap,r1,r2,r3,r4⟩
 ·obtain rfl:n=0:=by simpa using hn
  subst r1;refine⟨[],?_,by simp,fun u hu=>absurd hu (by simp),fun i x hx=>absurd hx (by simp),rfl⟩;cases base with
  | none=>rfl
  | some ad=>exact run_firstCells_some w e.size 0 ad 0 cap [] (by simp) (fun j v hj=>by cases hj)
 ·obtain⟨news,n1,n2,n3,n4⟩:=zI (w:=w) (l:=m.take n) fun i x hx=>by
   rw[lU] at hx;split at hx
   ·exact r4 i x hx
   ·cases hx
  rw[iA,wz hn] at n1;refine⟨news,?_,n1,n3,n4,by rw[r1];rfl⟩;rw[r1];exact run_firstCells_some w e.size n _ m.length cap news n1 (fun j u hj=>by rw[addr_add];exact n2 j u hj)
theorem zT{I:Nat→Nat→Prop}{s:List UInt8}(n:Nat)(hn:n≤s.length) :
  ∃news,(Builtin.firstCells 1 n (.string ⟨s.toArray⟩)).run P w=.ok news.toArray w∧news.length=n∧(∀u∈news,u.oneCell'=true)∧ef w I (.int .u8) ((ak s).take n:List Int) news∧(Builtin.lenOf (.string ⟨s.toArray⟩)).run P w=.ok (ak s).length w:=by
 refine⟨(s.take n).map fun b=>Value.int .u8 b.toNat,?_,by simp[hn],fun u hu=>?_,fun i x hx=>?_,?_⟩
 ·simp only[Builtin.firstCells,Sem.run_pure]
  congr 1
  apply Eg;have e1:(⟨s.toArray⟩:ByteArray).extract 0 n=⟨(s.take n).toArray⟩:=by
   have:=Ey s (i:=0) (j:=n) (by omega) (by omega);simpa [sub,minus] using this
  rw[e1];simp
 ·obtain⟨_,_,rfl⟩:=List.mem_map.1 hu;rfl
 ·have hx':((ak s).take n)[i]?=some x:=hx;rw[lU] at hx';split at hx'
  ·rename_i hi;simp only[ak,zb] at hx';cases hb:s[i]? with
   | none=>rw[hb] at hx';cases hx'
   | some b =>
     rw[hb] at hx';obtain rfl:(b.toNat:Int)=x:=ax hx';refine⟨?_,C3 b⟩;apply D6;intro j;rw[lU];split
     ·rename_i hj;obtain rfl:j=0:=by simp[Ty.size] at hj;exact hj
      rw[rz];simp[Ty.size,hb,hi]
     ·rename_i hj;obtain⟨k,rfl⟩:∃k,j=k+1:=⟨j-1,by simp[Ty.size] at hj;omega⟩;simp
  ·cases hx'
 ·simp[Builtin.lenOf,ak,ByteArray.size]
theorem p4(s:List UInt8):(ak s).length=s.length:=zf ..
theorem Lq{s:List UInt8}{n:Nat}(h:n≤(ak s).length):n≤s.length:=by rw[p4] at h;exact h
theorem Gt(hm:aV B γ σ.mem w){e:Ty}{m:List e.den}{x:ay}{v:Value}(hv:bH γ σ.mem w x .val [v])(h:nK e σ x=some m)(n:Nat)(hn:n≤m.length) :
  ∃news,(Builtin.firstCells e.size n v).run P w=.ok news.toArray w∧news.length=n*e.size∧(∀u∈news,u.oneCell'=true)∧ef w γ.I e (m.take n) news∧(Builtin.lenOf v).run P w=.ok m.length w:=by
 unfold nK at h;split at h
 ·rename_i t;obtain⟨q,hq⟩:=gA h;subst q;subst hq;obtain⟨ev,_⟩:=o9 hv;rw[ev];have hn':n≤List.length (α:=UInt8) t:=Lq hn;obtain⟨news,n1,n2,n3,n4,n5⟩:=zT (P:=P) (w:=w) (I:=γ.I) (s:=t) n hn';exact⟨news,n1,by rw[n2];simp[Ty.size],n3,n4,n5⟩
 ·exact zS (lg hm hv h) n hn
theorem zU(hc:eo P cx){tt tx ty:TypeId}{t x:Operand}(h:bZ B N γ σ a w)(hd:∀k,d=some k→k<N)(hr:(pQ cx d tt (bN σ t) (bN σ x) σ).run=some σ') :
  jn P B N γ σ a w d (Builtin.copy_ #[tt,tx] ty #[a.eval t,a.eval x]) σ':=by
 unfold pQ at hr;split at hr
 case h_2=>cases hr
 rename_i e hT;split at hr
 case h_1=>cases hr
 rename_i m hm;obtain⟨r,gE,hr2⟩:=bind_some hr;obtain rfl:=ax hr2;obtain⟨cq,k1,k2,k3,k4⟩:=(hc.T _ _ hT).slice;obtain⟨base,cap,c1,c2,c3⟩:=vw (P:=P) h (h.bN t) gE;have hlen:(iw (α:=e.den) m r.1).length=Nat.min m.length r.1.toNat:=by
  simp only[iw,iA];exact Nat.min_comm _ _
 obtain⟨news,n1,n2,n3,n4,n5⟩:=Gt (P:=P) h.ok (h.bN x) hm (Nat.min m.length r.1.toNat) (Nat.min_le_left _ _);have QS:(m.take (Nat.min m.length r.1.toNat))=iw (α:=e.den) m r.1:=by
  simp only[iw];rcases Nat.le_total m.length r.1.toNat with hle|hle
  ·rw[show Nat.min m.length r.1.toNat=m.length from wz hle,CE (kS _),CE hle]
  ·rw[show Nat.min m.length r.1.toNat=r.1.toNat from Nat.min_eq_right hle]
 rw[QS] at n4;obtain⟨w',s1,s2,s3⟩:=c3 news n4 (by rw[n2,hlen]) n3 (by rw[hlen];exact Nat.min_le_right _ _);have hmax:(iw (α:=e.den) m r.1).length≤maxLen:=by
  rcases Kw (iw (α:=e.den) m r.1).length with h0|h0
  ·omega
  ·rw[hlen];refine jq (Nat.min_le_left _ _) ?_;have hv:=h.bN x;unfold nK at hm;split at hm
   ·rename_i s hs;obtain⟨q,hq⟩:=gA hm;subst q;subst hq;rw[hs] at hv;obtain⟨_,h2⟩:=o9 hv;exact jq (CJ (p4 s)) h2
   ·rcases lg h.ok hv hm with ⟨rfl,_⟩|⟨_,_,cap,_,h2,h3,_⟩
    ·exact oZ _
    ·exact jq h2 h3
 refine⟨goInt (iw (α:=e.den) m r.1).length,w',γ,?_,?_,?_⟩
 ·have hsz:=k2.sizeOf w;simp only[Builtin.copy_,c1];simp only[OC,Kz,KA,Sem.run_bind,run_underlying k1,Result.andThen_ok,n5,hsz,n1,hlen];cases base with
  | none=>simp only[Sem.run_pure,Result.andThen_ok] at s1⊢;injection s1 with _ s1;subst s1;rfl
  | some ad=>simp only at s1⊢;simp only[Sem.run_bind,s1,Result.andThen_ok,Sem.run_pure]
 ·have h9:(maxLen:Int)≤IntKind.i64.max:=by decide
  have h8:IntKind.i64.min≤0:=by decide
  have:=s2.nR hd (v:=.data (.int .i64) (len (iw (α:=e.den) m r.1))) (val:=goInt (iw (α:=e.den) m r.1).length) (mkInt ⟨by simp only[len];omega,by simp only[len];omega⟩);exact this
 ·cases d<;>exact s3
theorem yx(hc:eo P cx){tt ty:TypeId}{t:Operand}(h:bZ B N γ σ a w)(hr:(pR cx tt (bN σ t) σ).run=some σ') :
  jn P B N γ σ a w none (Builtin.clear_ #[tt] ty #[a.eval t]) σ':=by
 unfold pR at hr;split at hr
 case h_2=>cases hr
 rename_i e hT;obtain⟨r,gE,hr2⟩:=bind_some hr;obtain rfl:=ax hr2;obtain⟨cq,k1,k2,k3,k4⟩:=(hc.T _ _ hT).slice;obtain⟨base,cap,c1,c2,c3⟩:=vw (P:=P) h (h.bN t) gE;have hlen:(CL r.1 e.zero).length=r.1.toNat:=by simp[CL]
 obtain⟨z,z1,z2⟩:=k2.zero w;have hz:=nT z2 k4 r.1.toNat;have Qf:=jN w γ.I (.arr r.1.toNat e);have hcells:(Builtin.zeroCells z.cells r.1.toNat).toList=dU (.arr r.1.toNat e):=by
  have hzl:z.cells.size=e.size:=by rw[←dx e,←z2];simp
  rw[←hz];simp only[Builtin.zeroCells,madeCells,hzl]
 obtain⟨w',s1,s2,s3⟩:=c3 (dU (.arr r.1.toNat e)) (fun i x hx=>Qf.2.2 i x hx) (by rw[dx,hlen];rfl) (fun u hu=>Qf.one u hu) (CJ hlen);refine⟨.tuple #[],w',γ,?_,s2,s3⟩;simp only[Builtin.clear_,c1];simp only[OC,Kz,Sem.run_bind,run_underlying k1,Result.andThen_ok];cases base with
 | none=>simp only[Sem.run_pure,Result.andThen_ok] at s1⊢;injection s1 with _ s1;subst s1;rfl
 | some ad =>
   simp only at s1;by_cases h0:r.1.toNat=0
   ·have:dU (.arr r.1.toNat e)=[]:=Kq (by rw[dx];simp[Ty.size,h0]);rw[this] at s1;injection s1 with _ s1
    subst s1;rw[h0];simp only[Sem.run_pure,Result.andThen_ok]
   ·obtain⟨k,hk⟩:∃k,r.1.toNat=k+1:=⟨r.1.toNat-1,by omega⟩;rw[hk] at s1 hcells⊢;simp only[Sem.run_bind,z1,Result.andThen_ok,hcells,s1,Sem.run_pure]
theorem vz{least:Bool}{p q r:ay}{u v:Value}(hu:bH γ σ.mem w p .val [u])(hv:bH γ σ.mem w q .val [v])(hr:(CN least p q).run=some r) :
  ∃z,((if least then Builtin.min2 u v else Builtin.max2 u v)).run P w=.ok z w∧bH γ σ.mem w r .val [z]:=by
 unfold CN at hr;split at hr
 ·rename_i k n k' m;obtain⟨hk,hr2⟩:=aq hr;obtain rfl:=pN hk;obtain rfl:=ax hr2;obtain⟨rfl,h1⟩:=mK hu;obtain⟨rfl,h2⟩:=mK hv;have cmp:∀n m:Int,k.min≤n∧n≤k.max→k.min≤m∧m≤k.max→bH γ σ.mem w (.data (.int k) (O7 n m)) .val [.int k (if m<n then m else n)]∧bH γ σ.mem w (.data (.int k) (imax n m)) .val [.int k (if m > n then m else n)]:=by
   intro n m h1 h2;constructor
   ·unfold O7;by_cases hlt:m<n
    ·simp only[hlt,F1,jk,jr];exact mkInt h2
    ·simp only[hlt,HT,gj,wD];exact mkInt h1
   ·unfold imax;by_cases hlt:n<m
    ·simp only[hlt,F1,jk,gt_iff_lt,jr];exact mkInt h2
    ·simp only[hlt,HT,gj,gt_iff_lt,wD];exact mkInt h1
  cases least with
  | true=>exact⟨_,rfl,(cmp n m h1 h2).1⟩
  | false=>exact⟨_,rfl,(cmp n m h1 h2).2⟩
 ·cases hr
end
end Go.Ge
namespace Go.Ge
open RowKit
section
variable {P:Program} {B:ld} {N:Nat} {γ:Gh} {σ σ':St} {a:Act} {w w':World} {d:Option Nat} {cx:Ctx} {nb:Nat} {bf:List Nat} {inl:Nat→List ay→St→Tree (ay×St)}
theorem Da{f:Operand→ay}{l:List Operand}{x:ay}(h:l.map f=[x]):∃o,l=[o]∧f o=x:=by
 cases l with
 | nil=>cases h
 | cons o r=>cases r with
   | nil=>exact⟨o,rfl,by simpa using h⟩
   | cons p r=>simp at h
theorem yV{f:Operand→ay}{l:List Operand}{x y:ay}(h:l.map f=[x,y]):∃o p,l=[o,p]∧f o=x∧f p=y:=by
 cases l with
 | nil=>cases h
 | cons o r =>
   obtain⟨p,hp,hq⟩:=Da (l:=r) (f:=f) (x:=y) (by simp at h⊢;exact h.2);subst hp;exact⟨o,p,rfl,by simp at h;exact h.1,hq⟩
theorem dR{α:Type}{a:Array α}{l:List α}(h:a.toList=l):a=l.toArray:=by rw[←h]
theorem Jg{α:Type}(k:Value→Array Value→Sem α)(x:Value)(xs:Array Value):(match(#[x]++xs)[0]? with|some recv=>k recv ((#[x]++xs).extract 1 (#[x]++xs).size)|x=>stuck "call: a method without a receiver")=k x xs.toList.toArray:=by
 have h0:(#[x]++xs)[0]?=some x:=by rw[←KD,Kv];rfl
 have h1:(#[x]++xs).extract 1 (#[x]++xs).size=xs.toList.toArray:=by
  apply Eg;rw[Array.toList_extract,Kv,KK];simp[List.extract];rw[←Ku,HN]
 rw[h0,h1]
theorem Gu(hc:eo P cx)(dc:jP P B.G cx)(iq:oE P B.G inl){o:Oper}{c:Call}(ho:o.op=.call c)(h:bZ B N γ σ a w)(hd:∀k,o.dst=some k→k<N)
  (hr:(nM cx nb bf inl o.dst o.type c σ).run=some σ') {K:Act→World→Prop} {Q:Exit→Act→World→Prop} (hK:tI B N γ σ a w o.dst σ' K):o.wp P a w K Q:=by
 unfold nM at hr;split at hr
 ·rename_i b zV;split at hr
  ·
   rename_i x t hx ht;obtain⟨ox,Kk,rfl⟩:=Da hx;cases hlt:HV (find cx.T t) (bN σ ox) with
   | false =>
     rw[hlt] at hr;simp only[gj] at hr;split at hr
     ·rename_i e b aj q u k lo n he hx;obtain⟨hl,hr2⟩:=aq hr;simp only[cP,A8] at hl;obtain rfl:=ax hr2;obtain⟨bx,jW,aI⟩:=gD hl.1;have hv:=h.bN ox;rw[hx] at hv;obtain⟨_,blk,c',g1,g2,g3,g4,base,cap,g5,g6,g7⟩:=aJ jW aI hv.2;obtain g5:a.eval ox=_:=by simpa using g5
      refine bw (s:=Builtin.len_ c.argTypes o.type (c.args.map a.eval)) ?_ (bk h hd (x:=.int .i64 n) ?_ (mkInt ?_)) hK
      ·unfold execOp;simp only[ho,resolve,zV,invoke,builtin];rfl
      ·rw[dR Kk,dR ht,show Array.map a.eval [ox].toArray=#[a.eval ox] from by simp,g5];simp[Builtin.len_,run_underlying (qA hc he).1,KH g3];rfl
      ·exact⟨Int.le_trans (by decide) g3,Int.le_trans hl.2 (by decide)⟩
     ·exact absurd hr (by intro k;cases k)
   | true =>
   have hr2:(match lenOf σ (bN σ ox) with|some n=>Tree.ret (σ.aD o.dst (.data (.int .i64) n))|none=>.fail).run=some σ':=by rw[hlt] at hr;exact hr
   split at hr2
   ·rename_i n hn;obtain rfl:=ax hr2;obtain⟨l1,l2⟩:=EI (ty:=o.type) hc h.ok (h.bN ox) hlt hn;refine bw (s:=Builtin.len_ c.argTypes o.type (c.args.map a.eval)) ?_ (bk h hd (x:=.int .i64 n) ?_ (mkInt l2)) hK
    ·unfold execOp;simp only[ho,resolve,zV,invoke,builtin];rfl
    ·rw[dR Kk,dR ht,show Array.map a.eval [ox].toArray=#[a.eval ox] from by simp];exact l1
   ·exact absurd hr2 (by intro k;cases k)
  ·rename_i s x t u hx ht;obtain⟨os,ox,Kk,rfl,rfl⟩:=yV hx;have key:(∃e,P.underlying u=some (.slice e))∨P.underlying u=some .string→(fh cx nb o.dst t (bN σ os) (bN σ ox) σ).run=some σ'→o.wp P a w K Q:=by
    intro hk hr2;refine bw (s:=Builtin.append_ c.argTypes o.type (c.args.map a.eval)) ?_ ?_ hK
    ·unfold execOp;simp only[ho,resolve,zV,invoke,builtin];rfl
    ·rw[dR Kk,dR ht,show Array.map a.eval [os,ox].toArray=#[a.eval os,a.eval ox] from by simp];exact wT hc h hd hk hr2
   split at hr
   ·rename_i hu;exact key (.inr (hc.T _ _ hu).str) hr
   ·rename_i e hu;obtain⟨cq,f1,_⟩:=(hc.T _ _ hu).slice;exact key (.inl ⟨cq,f1⟩) hr
   ·exact absurd hr (by intro k;cases k)
  ·rename_i t x tt tx hx ht;obtain⟨ot,ox,Kk,rfl,rfl⟩:=yV hx;have key:(pQ cx o.dst tt (bN σ ot) (bN σ ox) σ).run=some σ'→o.wp P a w K Q:=by
    intro hr2;refine bw (s:=Builtin.copy_ c.argTypes o.type (c.args.map a.eval)) ?_ ?_ hK
    ·unfold execOp;simp only[ho,resolve,zV,invoke,builtin];rfl
    ·rw[dR Kk,dR ht,show Array.map a.eval [ot,ox].toArray=#[a.eval ot,a.eval ox] from by simp];exact zU hc h hd hr2
   split at hr
   ·exact key hr
   ·exact key hr
   ·exact absurd hr (by intro k;cases k)
  ·rename_i t tt hx ht;obtain⟨ot,Kk,rfl⟩:=Da hx;split at hr
   ·rename_i Gv;refine bw (s:=Builtin.clear_ c.argTypes o.type (c.args.map a.eval)) ?_ ?_ hK
    ·unfold execOp;simp only[ho,resolve,zV,invoke,builtin];rfl
    ·rw[dR Kk,dR ht,show Array.map a.eval [ot].toArray=#[a.eval ot] from by simp,Gv];exact yx hc h hr
   ·exact absurd hr (by intro k;cases k)
  ·rename_i x y hx;obtain⟨ox,oy,Kk,rfl,rfl⟩:=yV hx;obtain⟨v,hb,hr2⟩:=bind_some hr;obtain rfl:=ax hr2;obtain⟨z,z1,z2⟩:=vz (P:=P) (h.bN ox) (h.bN oy) hb;refine bw (s:=Builtin.min_ c.argTypes o.type (c.args.map a.eval)) ?_ (bk h hd (x:=z) ?_ z2) hK
   ·unfold execOp;simp only[ho,resolve,zV,invoke,builtin];rfl
   ·rw[dR Kk,show Array.map a.eval [ox,oy].toArray=#[a.eval ox,a.eval oy] from by simp];simp only[jr] at z1;simp[Builtin.min_,z1]
  ·rename_i x y hx;obtain⟨ox,oy,Kk,rfl,rfl⟩:=yV hx;obtain⟨v,hb,hr2⟩:=bind_some hr;obtain rfl:=ax hr2;obtain⟨z,z1,z2⟩:=vz (P:=P) (h.bN ox) (h.bN oy) hb;refine bw (s:=Builtin.max_ c.argTypes o.type (c.args.map a.eval)) ?_ (bk h hd (x:=z) ?_ z2) hK
   ·unfold execOp;simp only[ho,resolve,zV,invoke,builtin];rfl
   ·rw[dR Kk,show Array.map a.eval [ox,oy].toArray=#[a.eval ox,a.eval oy] from by simp];simp only[FY,wD] at z1;simp[Builtin.max_,z1]
  ·exact absurd hr (by intro k;cases k)
 ·rename_i f zV;split at hr
  ·rename_i fid caps hf;obtain⟨QT,hr2⟩:=aq hr;have hv:=h.bN f;rw[hf] at hv;obtain⟨arr,v1,v2,v3⟩:=hv;obtain v1:=mJ v1;have Lr:ij γ σ.mem w (caps.map fun b=>.ptr b.1 b.2 []) arr.toList:=by
    refine⟨by simpa using v2,fun i v x h1 h2=>?_⟩;rw[zb] at h1;cases hi:caps[i]? with
    | none=>rw[hi] at h1;cases h1
    | some bv =>
      rw[hi] at h1;obtain rfl:=ax h1;have hl:=List.all_eq_true.1 QT bv (D5 hi);obtain⟨bx,hb,aI⟩:=gD hl;have Ls:=v3 i bv.1 bv.2 (by rw[hi]);obtain⟨blk,cap,g1,g2⟩:=aJ hb aI Ls;have hx:x=.pointer (some ⟨blk,0,none⟩):=by
       have:arr[i]?=some x:=by simpa using h2
       rw[g2] at this;exact(ax this).symm
      subst hx;exact⟨⟨_,rfl,rfl⟩,bx,hb,CJ aI.symm,fun _=>⟨blk,cap,g1,rfl⟩⟩
   have hall:ij γ σ.mem w (c.args.toList.map (bN σ)++caps.map fun b=>.ptr b.1 b.2 []) (c.args.map a.eval++arr).toList:=by
    rw[Kv,Kx];exact(Ch h).append Lr
   refine zR (f:=fid) (xs:=c.args.map a.eval++arr) ?_ (Bn dc iq h hd hall hr2 hK);unfold execOp;simp only[ho,resolve,zV,Deferred.ofValue,v1,Sem.run_bind,Sem.run_pure,Result.andThen_ok,invoke];simp
  ·exact absurd hr (by intro k;cases k)
 ·
  rename_i r name zV;unfold kY at hr;split at hr
  ·rename_i cn QU;split at hr
   ·rename_i x σ1 hx;obtain⟨y,hy,hr2⟩:=bE hr;obtain rfl:=ax hr2;have hall:ij γ σ.mem w (bN σ r::c.args.toList.map (bN σ)) (a.eval r::(c.args.map a.eval).toList):=by
     rw[Kx];exact Ch (ops:=r::c.args.toList) h
    obtain⟨ff,s1,s2,s3⟩:=lI h hall hx;obtain⟨f,u,e1,e2,e3⟩:=dc.inv name cn QU ff.I w (a.eval r) _ x y (fun b o hi=>s1.ok.mW b o hi) s1.ok.CT s3 hy;refine zR (f:=f) (xs:=(u::(c.args.map a.eval).toList).toArray) ?_ ⟨e2,e3.mono fun e w' hw=>?_⟩
    ·rw[←e1];unfold execOp;simp only[ho,resolve,zV,Sem.run_bind,Sem.run_pure,Result.andThen_ok,invoke];exact congrArg (fun z:Sem Next=>z.run P w) (Jg (fun v=>callMethod v name) (a.eval r) (Array.map a.eval c.args))
    ·obtain⟨v,I',h1,h2,h3,h4,h5,h6⟩:=hw;refine⟨v,h1,?_⟩;obtain⟨m1,m2⟩:=s1.ok.Rz (I':=I') h2 h3 h4 h5;refine hK ⟨I',ff.loc⟩ _ w' (s1.aD m2 m1 hd (h6.rep (fun _ _ hi=>hi))) ?_;cases o.dst<;>exact s2.trans m2
   ·exact absurd hr (by intro k;cases k)
  ·exact absurd hr (by intro k;cases k)
theorem EK{I:Nat→Nat→Prop}{tid:TypeId}{u:Nat}:∀{t:Ty} {a:Ty} {f:a.den→t.den},Den P t tid→Ek t u=some ⟨a,f⟩ →
  P.concrete u=true∧∀(y:a.den) (cs:List Value),bt w I a y cs→bt w I t (f y) [.iface u (bO a cs)]:=by
 intro t;induction t with
 | alt n a r gy ihr =>
   intro b f hd h;unfold Ek at h;obtain⟨h1,h2⟩:=hd.rest;cases hn:Nat.beq n u with
   | true =>
     rw[hn] at h;obtain rfl:=dz hn;cases h;exact⟨h2,fun y cs hy=>⟨h1.K4 hd,cs,rfl,hy⟩⟩
   | false =>
     rw[hn] at h;simp only[gj] at h;split at h
     ·rename_i b' g hg;cases h;obtain⟨k1,k2⟩:=ihr h1 hg;exact⟨k1,fun y cs hy=>k2 y cs hy⟩
     ·cases h
 | _=>intro b f hd h;cases h
theorem NC{tid:TypeId}{u:Nat}{t:Ty}{a:Ty}{f:a.den→t.den}(hd:Den P t tid)(h:Ek t u=some ⟨a,f⟩):t.isAgg=false:=by
 cases t with
 | alt n b r=>simp only[Den,eE,cP] at hd;exact(Ty.zx hd.2).2
 | _=>cases h
theorem yy(hc:eo P cx){ty u:TypeId}{x:Operand}(h:bZ B N γ σ a w)(hd:∀k,d=some k→k<N)(hr:(kX cx d ty u (bN σ x) σ).run=some σ') :
  jn P B N γ σ a w d (Instr.makeInterface u (a.eval x)) σ':=by
 unfold kX at hr;split at hr
 ·rename_i t ht;have ND:=hc.T _ _ ht;split at hr
  ·rename_i b f hf;split at hr
   ·rename_i y σ1 hg;obtain rfl:=ax hr;obtain⟨ff,s1,s2,cs,s3,s4⟩:=iL h (h.bN x) hg;obtain⟨k1,k2⟩:=EK (w:=w) (I:=ff.I) ND hf;have Uw:a.eval x=bO b cs:=by simpa using s4
    have hag:=NC ND hf;refine⟨.iface u (a.eval x),w,ff,run_makeInterface w u _ k1,s1.nR hd ⟨_,k2 y cs s3,?_⟩,?_⟩
    ·rw[Uw];unfold bO;rw[hag];rfl
    ·cases d<;>exact s2
   ·exact absurd hr (by intro k;cases k)
  ·exact absurd hr (by intro k;cases k)
 ·exact absurd hr (by intro k;cases k)
theorem EL{o:Oper}{s:Sem Unit}{K:Act→World→Prop}{Q:Exit→Act→World→Prop}(hs:execOp a.eval o=(do s;pure .skip))(Gv:o.dst=none)
  (h:∃w' γ',s.run P w=.ok () w'∧bZ B N γ' σ' a w'∧Ext B γ σ.mem w γ' σ'.mem w') (hK:tI B N γ σ a w o.dst σ' K):o.wp P a w K Q:=by
 obtain⟨w',γ',h1,h2,h3⟩:=h;unfold Oper.wp;rw[hs];simp only[Sem.run_bind,h1,Result.andThen_ok,Sem.run_pure,Oper.upon_skip];exact hK γ' _ w' (by rw[Gv];exact h2) h3
theorem uz{d:Option Nat}{k:Nat}(h:Ej bf d=some k):d=some k∧b6 bf k=true:=by
 unfold Ej at h;split at h
 ·rename_i d;cases hb:b6 bf d with
  | false=>rw[hb] at h;cases h
  | true=>rw[hb] at h;obtain rfl:=ax h;exact⟨rfl,hb⟩
 ·cases h
theorem zW(hc:eo P cx)(dc:jP P B.G cx)(iq:oE P B.G inl){o:Oper}(h:bZ B N γ σ a w)(hd:∀k,o.dst=some k→k<N)
  (hr:(jY cx nb bf inl o σ).run=some σ') {K:Act→World→Prop} {Q:Exit→Act→World→Prop} (hK:tI B N γ σ a w o.dst σ' K):o.wp P a w K Q:=by
 unfold jY at hr;split at hr
 case h_1 x ho=>exact bw (s:=pure (a.eval x)) (by simp only[execOp,ho];rfl) (pW hc h hd hr) hK
 case h_2 x ho=>exact bw (s:=pure (a.eval x)) (by simp only[execOp,ho];rfl) (pW hc h hd hr) hK
 case h_3 c x y ho=>exact bw (s:=do pure (if ←asBool (a.eval c) then a.eval x else a.eval y)) (by simp only[execOp,ho];simp[bind_assoc]) (zE h hd hr) hK
 case h_4 elem ho =>
  split at hr
  ·rename_i k t hk hT;rw[hk] at hd;refine bw (s:=Instr.alloc elem true (.tuple #[])) (by simp only[execOp,ho]) ?_ hK;rw[hk];exact ym hc h (hd k rfl) hT hr
  ·rename_i k hk hT;rw[hk] at hd;refine bw (s:=Instr.alloc elem true (.tuple #[])) (by simp only[execOp,ho]) ?_ hK;rw[hk];split at hr
   ·rename_i fs hO;exact yl hc h (hd k rfl) hO hr
   ·obtain⟨h1,hr2⟩:=aq hr;exact yj hc h (hd k rfl) h1 hr2
  ·exact absurd hr (by intro k;cases k)
 case h_5 elem x ho =>
  unfold uT at hr;split at hr
  ·exact absurd hr (by intro k;cases k)
  ·exact absurd hr (by intro k;cases k)
  ·rename_i k hk h1 h2;rw[hk] at hd;refine bw (s:=Instr.box elem (a.eval x)) (by simp only[execOp,ho]) ?_ hK;rw[hk];split at hr
   ·exact Bf h (hd k rfl) h1 h2 hr
   ·exact Jb h (hd k rfl) h1 h2 hr
  ·exact absurd hr (by intro k;cases k)
 case h_6 t parts ho =>
  refine bw (s:=Instr.build t (parts.map fun(i,x)=>(i,a.eval x))) (by simp only[execOp,ho]) ?_ hK;split at hr
  ·rename_i u v hT;split at hr
   ·rename_i x σ1 hb;obtain rfl:=ax hr;exact uu hc h hd hT hb
   ·exact absurd hr (by intro k;cases k)
  ·rename_i n e hT;split at hr
   ·rename_i l σ1 hb;obtain rfl:=ax hr;exact vn hc h hd hT hb
   ·exact absurd hr (by intro k;cases k)
  ·split at hr
   ·rename_i fs hO;split at hr
    ·rename_i z0 OM;split at hr
     ·rename_i p q hb;obtain rfl:=ax hr;exact yp hc h hd hO OM hb
     ·rename_i u hb;obtain rfl:=ax hr;exact wP hc h hd hO OM hb
     ·exact absurd hr (by intro k;cases k)
    ·exact absurd hr (by intro k;cases k)
   ·exact absurd hr (by intro k;cases k)
  ·exact absurd hr (by intro k;cases k)
 case h_7 t n parts ho =>
  refine bw (s:=Instr.buildSlice t n (parts.map fun(i,x)=>(i,a.eval x))) (by simp only[execOp,ho]) ?_ hK;split at hr
  ·rename_i e hT;split at hr
   ·rename_i k aW hparts;obtain⟨hk,_⟩:=uz aW;have hp:parts=#[]:=by simpa using hparts
    rw[hk,hp];rw[hk] at hd;rw[Array.map_empty];exact wR hc h (hd k rfl) hT hr
   ·obtain⟨hn,hr2⟩:=aq hr;split at hr2
    ·rename_i l σ1 hb;obtain rfl:=ax hr2;exact wQ hc h hd hT hn hb
    ·exact absurd hr2 (by intro k;cases k)
  ·exact Bh hc h hd hr
  ·exact absurd hr (by intro k;cases k)
 case h_8 t x ho=>exact bw (s:=Instr.loadAt t (a.eval x)) (by simp only[execOp,ho]) (zH hc h hd hr) hK
 case h_9 t x y ho =>
  split at hr
  ·rename_i hk;exact EL (s:=Instr.storeAt t (a.eval x) (a.eval y)) (by simp only[execOp,ho]) hk (yh hc h hr) hK
  ·exact absurd hr (by intro k;cases k)
 case h_10 x ho =>
  have hv:=h.bN x;have fin:∀{v:ay} {y:Value},a.eval x=y→execOp a.eval o=(do pure (.value (←(pure y:Sem Value))))→bH γ σ.mem w v .val [y]→σ'=σ.aD o.dst v→o.wp P a w K Q:=by
   intro v y he hs Pu Ux;subst Ux;exact bw (s:=pure y) hs (bk h hd rfl Pu) hK
  split at hr
  ·rename_i b aj p hx;rw[hx] at hv;obtain⟨hl,hr2⟩:=aq hr;obtain⟨bx,hb,aI⟩:=gD hl;obtain⟨blk,cap,g1,g2⟩:=aJ hb aI hv.2;have g2:=mJ g2;rw[g2] at hv;exact fin g2 (by simp only[execOp,ho,g2];rfl) hv (ax hr2).symm
  ·rename_i t y hx;rw[hx] at hv;obtain⟨blk,off,cs,g1,g2,g3⟩:=id hv;have g1:=mJ g1;rw[g1] at hv;exact fin g1 (by simp only[execOp,ho,g1];rfl) hv (ax hr).symm
  ·rename_i f c hx;rw[hx] at hv;obtain⟨arr,g1,g2,g3⟩:=id hv;have g1:=mJ g1;rw[g1] at hv;exact fin g1 (by simp only[execOp,ho,g1];rfl) hv (ax hr).symm
  ·exact absurd hr (by intro k;cases k)
 case h_11 op xt x y pos ho =>
  obtain⟨v,hb,hr2⟩:=bind_some hr;obtain rfl:=ax hr2;obtain⟨z,z1,z2⟩:=Gd (P:=P) (x:=x) (y:=y) hc (h.bN x) (h.bN y) hb;refine bw (s:=eV op xt x y (a.eval x) (a.eval y)) (by simp only[execOp,ho,eV]) (bk h hd z1 z2) hK
 case h_12 op ty x ho =>
  obtain⟨v,hb,hr2⟩:=bind_some hr;obtain rfl:=ax hr2;obtain⟨z,z1,z2⟩:=K9 (P:=P) (h.bN x) hb;exact bw (s:=Op.unary op (a.eval x)) (by simp only[execOp,ho]) (bk h hd z1 z2) hK
 case h_13 src dst x ho=>exact bw (s:=convert src dst (a.eval x)) (by simp only[execOp,ho]) (vo hc h hd hr) hK
 case h_14 f first caps ho =>
  split at hr
  ·rename_i cs Pv hcs;obtain rfl:=ax hr;refine bw (s:=Instr.makeFunc (.func f) #[] (caps.map a.eval)) ?_ (zJ h hd hcs) hK;have:first=#[]:=by simpa using Pv
   simp only[execOp,ho,this,show Array.map a.eval #[]=#[] from by simp]
  ·exact absurd hr (by intro k;cases k)
 case h_15 t x lo hi ho=>exact bw (s:=Instr.sliceAt t (a.eval x) (lo.map a.eval) (hi.map a.eval) none) (by simp only[execOp,ho];rfl) (yg hc h hd hr) hK
 case h_16 s x k ho=>exact bw (s:=Instr.fieldAt s (a.eval x) k) (by simp only[execOp,ho]) (tg hc h hd hr) hK
 case h_17 xt x k ho =>
  have hv:=h.bN x;split at hr
  ·rename_i u y hx;rw[hx] at hv;obtain⟨hT,hr2⟩:=aq hr;split at hr2
   ·rename_i off v hf;obtain rfl:=ax hr2;obtain⟨z,z1,z2⟩:=Ex (P:=P) hc (fN hT) hv hf;exact bw (s:=Instr.field xt (a.eval x) k) (by simp only[execOp,ho]) (bk h hd z1 z2) hK
   ·exact absurd hr2 (by intro k;cases k)
  ·exact absurd hr (by intro k;cases k)
 case h_18 t x i ho =>
  split at hr
  ·rename_i ki n hi;have hv:=h.bN i;rw[hi] at hv;obtain⟨ei,_⟩:=mK hv;refine bw (s:=Instr.indexAt t (a.eval x) (a.eval i)) (by simp only[execOp,ho]) ?_ hK;rw[ei];cases hm:b6 bf 5000000 with
   | true=>rw[hm] at hr;exact ye hc h hd hr
   | false=>rw[hm] at hr;exact mO hc h hd hr
  ·exact absurd hr (by intro k;cases k)
 case h_19 t x i ho =>
  split at hr
  ·rename_i ki n hi;have hv:=h.bN i;rw[hi] at hv;obtain⟨ei,_⟩:=mK hv;refine bw (s:=Instr.index t (a.eval x) (a.eval i)) (by simp only[execOp,ho]) ?_ hK;rw[ei];exact yf hc h hd hr
  ·exact absurd hr (by intro k;cases k)
 case h_20 t l c ho =>
  split at hr
  ·rename_i k e kl ln kc cn hk hT hl Ke;rw[hk] at hd;obtain⟨hin,hr2⟩:=bK hr;obtain⟨hf,fQ⟩:=bK hr2;refine bw (s:=Instr.makeSlice t (a.eval l) (a.eval c)) (by simp only[execOp,ho]) ?_ hK;rw[hk];exact yq hc h (hd k rfl) hT hl Ke hin hf fQ
  ·exact absurd hr (by intro k;cases k)
 case h_21 t k ho =>
  split at hr
  ·rename_i vs hx;split at hr
   ·rename_i v hn;obtain rfl:=ax hr;exact bw (s:=Instr.extract (a.eval t) k) (by simp only[execOp,ho]) (Bg h hd hx hn) hK
   ·exact absurd hr (by intro k;cases k)
  ·exact absurd hr (by intro k;cases k)
 case h_22 c ho=>exact Gu hc dc iq ho h hd hr hK
 case h_23 u x ho=>exact bw (s:=Instr.makeInterface u (a.eval x)) (by simp only[execOp,ho]) (yy hc h hd hr) hK
 case h_24=>exact absurd hr (by intro k;cases k)
end
end Go.Ge
