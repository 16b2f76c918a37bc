/- A ghost interpreter of the model's code, and that it tells the truth: part 4. It says of a function of plain data what a call of it comes to. -/
import Derived.Test.YtbaijbjhkmoidaaGreatDoorGeC
import Derived.Great.BuildSlice
import Derived.Laws.IdiomStrings
import Derived.Laws.BytesArg
import Derived.Laws.MakeOwn
import Derived.Deep.AppendSrc
set_option linter.unusedVariables false
set_option linter.unusedSimpArgs false
set_option linter.unusedSectionVars false
namespace Go.Ge
open RowKit
section
variable {P:Program} {B:ld} {N:Nat} {γ:Gh} {σ σ':St} {a:Act} {w:World} {d:Option Nat} {cx:Ctx}
theorem Gj{bx:aY}{k:Nat}{c v:ay}{f:ay→Tree ay}(hb:bx.buf=false)(hv:bx.val=v)(h:(wE v k f).run=some c):({ bx with val:=c }:aY).row=bx.row:=by
 obtain⟨val,tid,buf,ro,lk,aj⟩:=bx;subst hb;subst hv;cases val with
 | data t x =>
   obtain⟨y,h1,h2⟩:=bind_some (show((yJ t x k f).bind fun y=>.ret (.data t y)).run=some c from h);obtain rfl:=ax h2;cases t with
   | arr n e=>cases k<;>exact absurd h1 (by intro k;cases k)
   | _=>rfl
 | mix p q =>
   cases k with
   | zero =>
     obtain⟨y,h1,h2⟩:=bind_some (show((f p).bind fun v=>.ret (.mix v q)).run=some c from h);obtain rfl:=ax h2;rfl
   | succ k =>
     obtain⟨y,h1,h2⟩:=bind_some (show((wE q k f).bind fun v=>.ret (.mix p v)).run=some c from h);obtain rfl:=ax h2;rfl
 | _=>exact absurd h (by intro k;cases k)
theorem Ns{bx:aY}{e:Ty}{l:List e.den}{i:Int}{y:e.den}(hb:bx.buf=true)(hv:bx.val=.data (.slice e) l):({ bx with val:=.data (.slice e) (qo l i y) }:aY).row=bx.row:=by
 rw[aY.b7 hb hv,aY.b7 (bx:={ bx with val:=.data (.slice e) (qo l i y) }) (l:=qo l i y) hb rfl];simp[qo]
theorem xI{bx:aY}{p:List uh}{v c:ay}(h:(yK bx.buf p bx.val v).run=some c)(h0:p=[]→bx.buf=false→({ bx with val:=v }:aY).row=bx.row) :
  ({ bx with val:=c }:aY).row=bx.row:=by
 unfold yK at h;split at h
 ·rename_i aW;cases p with
  | nil=>obtain rfl:=ax h;exact h0 rfl aW
  | cons s p =>
    cases s with
    | CM k off=>exact Gj aW rfl h
    | idx i size =>
      simp only[o5] at h;split at h
      ·rename_i n e l hv;obtain⟨x,hx,h2⟩:=bE h;obtain⟨z,hz,h3⟩:=bind_some h2;split at h3
       ·obtain rfl:=ax h3;rw[aY.kf aW hv];exact aY.kf (bx:={ bx with val:=_ }) aW rfl
       ·exact absurd h3 (by intro k;cases k)
      ·exact absurd h (by intro k;cases k)
 ·rename_i aW;split at h
  ·rename_i i size p e l hv;obtain⟨x,hx,h2⟩:=bE h;obtain⟨z,hz,h3⟩:=bind_some h2;split at h3
   ·obtain rfl:=ax h3;exact Ns aW hv
   ·exact absurd h3 (by intro k;cases k)
  ·exact absurd h (by intro k;cases k)
theorem tH(h:bZ B N γ σ a w){b aj:Nat}{p:List uh}{fit:ay→Bool}{u:ay}{es:List Value}(hr:(storeAt b aj p fit u σ).run=some σ')(hu:bH γ σ.mem w u .cells es)
  (hlen:∀old,fit old=true→es.length=bY old) (hrow:∀bx:aY,fit bx.val=true→bx.buf=false→({ bx with val:=u }:aY).row=bx.row)
  {blk cap:Nat} (hl:γ.loc b=some (blk,cap)) :
  ∃w',(storeCells ⟨blk,bR p,none⟩ es).run P w=.ok () w'∧bZ B N γ σ' a w'∧Ext B γ σ.mem w γ σ'.mem w':=by
 unfold storeAt at hr;split at hr
 case h_2=>exact absurd hr (by intro k;cases k)
 rename_i bx hb;obtain⟨hc,hr2⟩:=aq hr;simp only[cP,iE] at hc;obtain⟨⟨aI,hlk⟩,hro⟩:=hc;obtain⟨old,hn,fQ⟩:=bind_some hr2;obtain⟨hfit,iY⟩:=aq fQ;obtain⟨c,hs,Bc⟩:=bind_some iY;obtain rfl:=ax Bc;have hel:=hlen old hfit;have hrw:({ bx with val:=c }:aY).row=bx.row:=xI hs fun hp aW=>by
  subst hp;rw[aW] at hn;obtain rfl:=ax hn;exact hrow bx hfit aW
 have gi:=h.ok.boxes b bx hb;unfold bQ at gi;unfold IV at hn;unfold yK at hs;have Uc:bx.buf=false∨bx.buf=true:=by cases bx.buf<;>simp
 rcases Uc with aW|aW
 ·rw[aW] at gi hn hs;obtain⟨cB,cap',cur,tid,fr,h1,h2,h3,ez,h4⟩:=gi;rw[hl] at h1;obtain⟨rfl,rfl⟩:=cr (ax h1);obtain⟨k1,k2⟩:=oC h4 hn;have OL:bR p+es.length≤cur.toList.length:=by rw[hel];exact k1
  have hst:=cN (P:=P) blk (bR p) tid fr es 0 cur w h2 h3 (by simpa using OL) (fun v hv=>hu.one v hv);rw[uf] at hst;have hsz:(splice cur.toList (bR p) es).toArray.size=cur.size:=by have:=b5 OL;simpa using this
  obtain⟨m1,m2⟩:=h.ok.write hb hro hl h2 (cur':=(splice cur.toList (bR p) es).toArray) (v:=c) hsz hrw
   (fun w' mem' hx hg=>by
    show bQ γ mem' w' b { bx with val:=c }
    unfold bQ;simp only[aW];exact⟨blk,cap,_,tid,fr,hl,hg,h3.same hsz,ez,by simpa using qy (h4.ext hx) hn hs (hu.ext hx) hel⟩)
  exact⟨_,hst,h.go m2 m1,m2⟩
 ·rw[aW] at gi hn hs;obtain⟨e,l,h1,h2,h3⟩:=gi;rw[h1] at hn hs;rcases h3 with ⟨h3,_⟩|⟨cB,cap',cur,tid,fr,h3,h4,h5,ez,h6,h7,h8,h9⟩
  ·rw[hl] at h3;cases h3
  ·rw[hl] at h3;obtain⟨rfl,rfl⟩:=cr (ax h3);cases p with
   | nil=>cases hn
   | cons s p =>
     cases s with
     | CM k off=>cases hn
     | idx i size =>
       obtain⟨hsb,hn2⟩:=aq hn;have hsz:=dz hsb;obtain⟨x,hx,Nj⟩:=bE hn2;obtain⟨x',hx',hs2⟩:=bE hs;obtain rfl:x=x':=ax (hx.symm.trans hx');obtain⟨z,hq,hs3⟩:=bind_some hs2;cases hz:toS e z with
       | none=>rw[hz] at hs3;cases hs3
       | some y =>
         rw[hz] at hs3;obtain rfl:=ax hs3;obtain⟨h0,hx2⟩:=lX hx;have hr:=h9 _ x hx2;have hrl:=hr.length;have hi:i.toNat<l.length:=(List.getElem?_eq_some_iff.1 hx2).1;have hm2:(i.toNat+1)*e.size≤cap*e.size:=lT _ (by omega);rw[rF] at hm2;have QA:bH γ σ.mem w (.data e x) .cells ((cur.toList.drop (i.toNat*e.size)).take e.size):=hr;obtain⟨k1,k2⟩:=oC QA Nj;rw[hrl] at k1;have hcs:cur.toList.length=cap*e.size:=by simpa using h8
         have hoff:bR (.idx i size::p)=i.toNat*e.size+bR p:=by simp only[bR,hsz]
         have OL:bR (.idx i size::p)+es.length≤cur.toList.length:=by rw[hoff,hel,hcs];omega
         have hst:=cN (P:=P) blk (bR (.idx i size::p)) tid fr es 0 cur w h4 h5.th (by simpa using OL) (fun v hv=>hu.one v hv);rw[uf] at hst;have Ld:(splice cur.toList (bR (.idx i size::p)) es).toArray.size=cur.size:=by have:=b5 OL;simpa using this
         have e1:=lH cur.toList (i.toNat*e.size) (bR p) e.size es (by rw[hel];exact k1) (by rw[hcs];omega);obtain⟨m1,m2⟩:=h.ok.write hb hro hl h4 (cur':=(splice cur.toList (bR (.idx i size::p)) es).toArray) (v:=.data (.slice e) (qo (α:=e.den) l i y)) Ld hrw
          (fun w' mem' hx hg=>by
           show bQ γ mem' w' b { bx with val:=.data (.slice e) (qo (α:=e.den) l i y) }
           unfold bQ;simp only[aW];refine⟨e,_,rfl,h2,.inr ⟨blk,cap,_,tid,fr,hl,hg,h5.same Ld,ez,?_,h7,by rw[Ld];exact h8,?_⟩⟩
           ·exact jq (CJ List.length_set) h6
           ·have RU:=yT hz (qy (QA.ext hx) Nj hq (hu.ext hx) hel);have:=zB (w:=w') (I:=γ.I) (l:=l) (n:=l.length) (cs:=cur.toList) rfl (by rw[hcs];exact lT _ h6)
             (fun j x hj=>bt.mono hx.I hx.cells (h9 j x hj)) hi RU
            rw[e1,←hoff] at this;exact this)
         exact⟨_,hst,h.go m2 m1,m2⟩
theorem Ja{mem:Nat→Option aY}:∀{t:Ty} {x:t.den} {cs:List Value},bt w γ.I t x cs→bH γ mem w (KV t x) .cells cs:=by
 intro t;induction t with
 | pair a b gy iu=>intro x cs h;obtain⟨c1,c2,e,h1,h2⟩:=h;exact⟨c1,c2,e,h1,iu h2⟩
 | _=>intro x cs h;exact h
theorem Ca{mem:Nat→Option aY}{v:ay}{cs:List Value}(h:bH γ mem w v .cells cs):bH γ mem w (KW v) .cells cs:=by
 cases v with
 | data t x=>exact Ja h
 | _=>exact h
theorem EA{bx:aY}(hb:bx.buf=false)(hv:KY bx.val=true):bx.row=none:=by
 unfold aY.row;rw[hb];obtain⟨val,tid,buf,ro,lk,aj⟩:=bx;cases val with
 | data t x=>cases t<;>first|rfl|cases hv
 | mix p q=>rfl
 | _=>cases hv
theorem Bd(h:bZ B N γ σ a w){b aj:Nat}{p:List uh}{n:Nat}{u:ay}{es:List Value}(hr:(lC b aj p n u σ).run=some σ')(hu:bH γ σ.mem w u .cells es)
  (hlen:es.length=n) {blk cap:Nat} (hl:γ.loc b=some (blk,cap)) :
  ∃w',(storeCells ⟨blk,bR p,none⟩ es).run P w=.ok () w'∧bZ B N γ σ' a w'∧Ext B γ σ.mem w γ σ'.mem w':=by
 unfold lC at hr;split at hr
 case h_2=>exact absurd hr (by intro k;cases k)
 rename_i bx hb;obtain⟨hc,hr2⟩:=aq hr;simp only[cP,iE] at hc;obtain⟨⟨⟨⟨aI,hlk⟩,hro⟩,aW⟩,Ud⟩:=hc;obtain⟨old,hn,fQ⟩:=bind_some hr2;obtain⟨hfit,iY⟩:=aq fQ;obtain⟨c,hs,Bc⟩:=bind_some iY;obtain⟨R6,QE⟩:=aq Bc;obtain rfl:=ax QE;have hel:es.length=bY old:=hlen.trans (dz hfit).symm;have hrw:({ bx with val:=c }:aY).row=bx.row:=(EA (bx:={ bx with val:=c }) aW R6).trans (EA aW Ud).symm;have gi:=h.ok.boxes b bx hb;unfold bQ at gi;rw[aW] at gi;obtain⟨cB,cap',cur,tid,fr,h1,h2,h3,ez,h4⟩:=gi;rw[hl] at h1;obtain⟨rfl,rfl⟩:=cr (ax h1);obtain⟨k1,k2⟩:=oC (Ca h4) hn;have OL:bR p+es.length≤cur.toList.length:=by rw[hel];exact k1
 have hst:=cN (P:=P) blk (bR p) tid fr es 0 cur w h2 h3 (by simpa using OL) (fun v hv=>hu.one v hv);rw[uf] at hst;have hsz:(splice cur.toList (bR p) es).toArray.size=cur.size:=by have:=b5 OL;simpa using this
 obtain⟨m1,m2⟩:=h.ok.write hb hro hl h2 (cur':=(splice cur.toList (bR p) es).toArray) (v:=c) hsz hrw
  (fun w' mem' hx hg=>by
   show bQ γ mem' w' b { bx with val:=c }
   unfold bQ;simp only[aW];exact⟨blk,cap,_,tid,fr,hl,hg,h3.same hsz,ez,by simpa using qy (Ca (h4.ext hx)) hn hs (hu.ext hx) hel⟩)
 exact⟨_,hst,h.go m2 m1,m2⟩
theorem rU{ty:TypeId}{blk off n:Nat}{v:Value}{w':World}(hs:(Go.sizeOf ty).run P w=.ok n w)(hn:v.cells.toList.length=n)(hst:(storeCells ⟨blk,off,none⟩ v.cells.toList).run P w=.ok () w') :
  (Instr.storeAt ty (.pointer (some ⟨blk,off,none⟩)) v).run P w=.ok () w':=by
 have hn':v.cells.size=n:=by simpa using hn
 simp only[Instr.storeAt,Instr.sureAddr,storeVar,Sem.run_bind,Sem.run_pure,Result.andThen_ok,hs,hn',ne_eq,not_true_eq_false,wD];exact hst
theorem yh(hc:eo P cx){bf:List Nat}{ty:TypeId}{x y:Operand}(h:bZ B N γ σ a w)(hr:(gX cx bf ty (bN σ x) (bN σ y) σ).run=some σ') :
  ∃w' γ',(Instr.storeAt ty (a.eval x) (a.eval y)).run P w=.ok () w'∧bZ B N γ' σ' a w'∧Ext B γ σ.mem w γ' σ'.mem w':=by
 have hv:=h.bN x;have hy:=h.bN y;unfold gX at hr;split at hr
 case h_2=>exact absurd hr (by intro k;cases k)
 rename_i b aj p hx;rw[hx] at hv;split at hr
 case h_2=>exact absurd hr (by intro k;cases k)
 rename_i bx hb;obtain⟨aI,hr2⟩:=aq hr;have aI:=dz aI;obtain⟨old,hn,fQ⟩:=bind_some hr2;obtain⟨blk,cap,hl,hval⟩:=aJ hb aI hv.2;obtain hval:a.eval x=_:=by simpa using hval
 rw[hval];split at fQ
 ·rename_i u z;obtain⟨hT,iY⟩:=aq fQ;have hT:=fN hT;have hD:=hc.T _ _ hT;cases hq:b6 bf 8000000&&KX u (bN σ y) with
  | true =>
    rw[hq] at iY;have how:=(Bool.and_eq_true_iff.1 hq).2;have Np:bH γ σ.mem w (bN σ y) .cells (a.eval y).cells.toList:=by
     refine hy.gP (fun u' e=>?_) (fun e=>?_)
     ·rw[e] at how;cases how
     ·rw[e] at how;cases how
    have hsz:bY (bN σ y)=u.size:=by
     unfold KX at how;split at how
     ·rename_i e;rw[e];exact I7 how
     ·rename_i e;rw[e];exact zG how
     ·cases how
    have Cb:(a.eval y).cells.toList.length=u.size:=by rw[Np.length,hsz]
    obtain⟨w',k1,k2,k3⟩:=Bd (P:=P) h iY Np Cb hl;exact⟨w',γ,rU (hD.sizeOf w) Cb k1,k2,k3⟩
  | false =>
  rw[hq] at iY;replace iY:(match pP σ u (bN σ y) with|some (y,σ)=>storeAt b aj p (IX u) (.data u y) σ|none=>.fail).run=some σ':=iY;split at iY
  ·rename_i y0 σ1 hg;obtain⟨ff,s1,s2,s3⟩:=iL h hy hg;obtain⟨cs,c1,c2⟩:=s3;obtain Nk:a.eval y=_:=by simpa using c2
   have Ke:(a.eval y).cells.toList=cs:=by rw[Nk];exact lG c1
   obtain⟨fM,g1,g2,g3⟩:=s2.boxes b bx hb;have R7:ff.loc b=some (blk,cap):=by
    have Rw:fM.aj=bx.aj:=by
     unfold storeAt at iY;split at iY
     ·rename_i Vy hb2;rw[g1] at hb2;obtain rfl:=ax hb2;obtain⟨hc,_⟩:=aq iY;simp only[cP] at hc;have:=dz hc.1.1;omega
     ·exact absurd iY (by intro k;cases k)
    rw[(g3 Rw).1];exact hl
   obtain⟨w',k1,k2,k3⟩:=tH (P:=P) s1 iY (u:=.data u y0) (es:=cs) c1 (fun old hf=>by
    unfold IX at hf;split at hf
    ·rename_i t q;obtain rfl:=Ty.eq_of_beq hf;exact c1.length
    ·cases hf) (fun bx hf aW=>by
    unfold IX at hf;split at hf
    ·rename_i t q iZ;obtain rfl:=Ty.eq_of_beq hf;cases t with
     | arr n e=>rw[aY.kf aW iZ];exact aY.kf (bx:={ bx with val:=_ }) aW rfl
     | _=>unfold aY.row;rw[aW,iZ]
    ·cases hf) R7
   refine⟨w',ff,rU (hD.sizeOf w) ?_ ?_,k2,s2.trans k3⟩
   ·rw[Ke];exact c1.length
   ·rw[Ke];exact k1
  ·exact absurd iY (by intro k;cases k)
 ·obtain⟨hT,iY⟩:=aq fQ;simp only[cP] at hT;obtain⟨D3,Qe⟩:=hT;have key:∀{v:ay},o6 cx ty v=true→isRef v=true→bY v=1∧(Go.sizeOf ty).run P w=.ok 1 w:=by
   intro v h1 h2;unfold o6 at h1;split at h1
   ·cases h2
   ·split at h1
    ·rename_i e hT;exact⟨rfl,(hc.T _ _ hT).sizeOf w⟩
    ·cases h1
   ·exact⟨rfl,(hc.lW _ h1).2.1 w⟩
   ·exact⟨rfl,(hc.lW _ h1).2.1 w⟩
   ·exact⟨rfl,(hc.lW _ h1).2.1 w⟩
   ·cases h1
  obtain⟨h1,hsz⟩:=key D3 Qe;have Np:bH γ σ.mem w (bN σ y) .cells (a.eval y).cells.toList:=by
   refine hy.gP (fun u e=>?_) (fun e=>?_)
   ·rw[e] at Qe;cases Qe
   ·rw[e] at Qe;cases Qe
  have Cb:(a.eval y).cells.toList.length=1:=by rw[Np.length,h1]
  obtain⟨w',k1,k2,k3⟩:=tH (P:=P) h iY Np (fun old hf=>by
   simp only[zd,cP] at hf;rcases hf with hf|hf
   ·rw[Cb,(key hf.1 hf.2).1]
   ·rw[Cb];cases old<;>first|rfl|cases hf) (fun bx hf aW=>by
   simp only[zd,cP] at hf;have e1:∀{v:ay} {bx:aY},(isRef v=true∨HW v=true)→bx.buf=false→bx.val=v→bx.row=none:=by
    intro v bx h1 h2 h3;unfold aY.row;rw[h2,h3];cases v<;>first|rfl|(rcases h1 with h1|h1<;>cases h1)
   rw[e1 (hf.elim (fun q=>.inl q.2) .inr) aW rfl];exact e1 (bx:={ bx with val:=bN σ y }) (.inl Qe) aW rfl) hl
  exact⟨w',γ,rU hsz Cb k1,k2,k3⟩
theorem lp(t:TypeId)(v:Value):(newVar t v).run P w=.ok ⟨w.heap.size,0,none⟩ (w.alloc (.cells v.cells t)):=by
 simp[newVar,newRow]
theorem sP{mem:Nat→Option aY}{w':World}{b:Nat}{bx:aY}{cap:Nat}:bH (bh γ b (some (w.heap.size,cap))) (bS mem b bx) w' (.ptr b bx.aj []) .val [.pointer (some ⟨w.heap.size,0,none⟩)] :=
 ⟨⟨_,rfl,rfl⟩,cZ (aU _ _) rfl ⟨w.heap.size,cap,by simp[bh],rfl⟩⟩
theorem EB(hc:eo P cx){elem:TypeId}{nb k:Nat}{t:Ty}(h:bZ B N γ σ a w)(hd:k<N)(hT:find cx.T elem=some t)
  (hr:(σ.aA (nb+k) (.data t t.zero) 0 false fun aj σ=>.ret (σ.put k (.ptr (nb+k) aj []))).run=some σ') :
  jn P B N γ σ a w (some k) (Instr.alloc elem true (.tuple #[])) σ':=by
 obtain⟨aj,aI,hr2⟩:=cv hr;obtain rfl:=ax hr2;obtain⟨z,hz,Qf⟩:=(hc.T _ _ hT).zero w;obtain⟨m1,m2⟩:=h.ok.newVar (b:=nb+k) (v:=.data t t.zero) (tid:=0) aI (cs:=z.cells) elem (.inl rfl) (by rw[Qf];exact jN w γ.I t);refine⟨.pointer (some ⟨w.heap.size,0,none⟩),_,_,?_,h.step m2 m1 hd sP,m2⟩;simp only[Instr.alloc,Sem.run_bind,hz,Result.andThen_ok,lp,Sem.run_pure]
theorem yj(hc:eo P cx){elem:TypeId}{nb k:Nat}(h:bZ B N γ σ a w)(hd:k<N)(hT:b6 cx.lW elem=true)
  (hr:(σ.aA (nb+k) .undef 0 false fun aj σ=>.ret (σ.put k (.ptr (nb+k) aj []))).run=some σ') :
  jn P B N γ σ a w (some k) (Instr.alloc elem true (.tuple #[])) σ':=by
 obtain⟨aj,aI,hr2⟩:=cv hr;obtain rfl:=ax hr2;obtain⟨z,hz,hone⟩:=(hc.lW _ hT).2.2;have hz:=hz w;obtain⟨m1,m2⟩:=h.ok.newVar (b:=nb+k) (v:=.undef) (tid:=0) aI (cs:=z.cells) elem (.inl rfl) ⟨z,by cases z<;>first|rfl|(simp[Value.oneCell'] at hone),hone⟩;refine⟨.pointer (some ⟨w.heap.size,0,none⟩),_,_,?_,h.step m2 m1 hd sP,m2⟩;simp only[Instr.alloc,Sem.run_bind,hz,Result.andThen_ok,lp,Sem.run_pure]
theorem EC{b aj:Nat}:∀{fs:List jl} {j:Nat} {σ:St} {γ:Gh} {r:ay×St},aV B γ σ.mem w→(mkObj b aj fs j σ).run=some r →
  ∃ff,aV B ff r.2.mem w∧Ext B γ σ.mem w ff r.2.mem w∧r.2.slots=σ.slots ∧
   ∀γ' mem' w',Ext B ff r.2.mem w γ' mem' w'→(∃bx blk cap,mem' b=some bx∧aj≤bx.aj∧γ'.loc b=some (blk,cap))→bH γ' mem' w' r.1 .cells (zy fs):=by
 intro fs;induction fs with
 | nil=>intro j σ γ r h hr;obtain rfl:=ax hr;exact⟨γ,h,Ext.refl _ _ _ _,rfl,fun _ _ _ _ _=>rfl⟩
 | cons f r ih =>
   intro j σ γ q h hr;cases f with
   | dat t =>
     obtain⟨y,h1,h2⟩:=bind_some hr;obtain rfl:=ax h2;obtain⟨ff,k1,k2,k3,k4⟩:=ih h h1;exact⟨ff,k1,k2,k3,fun γ' mem' w' hx hb=>⟨_,_,rfl,jN _ _ t,k4 γ' mem' w' hx hb⟩⟩
   | one =>
     obtain⟨y,h1,h2⟩:=bind_some hr;obtain rfl:=ax h2;obtain⟨ff,k1,k2,k3,k4⟩:=ih h h1;exact⟨ff,k1,k2,k3,fun γ' mem' w' hx hb=>⟨[.pointer none],_,rfl,rfl,k4 γ' mem' w' hx hb⟩⟩
   | self =>
     obtain⟨y,h1,h2⟩:=bind_some hr;obtain rfl:=ax h2;obtain⟨ff,k1,k2,k3,k4⟩:=ih h h1;refine⟨ff,k1,k2,k3,fun γ' mem' w' hx hb=>⟨[.pointer none],_,rfl,?_,k4 γ' mem' w' hx hb⟩⟩;obtain⟨bx,blk,cap,g1,g2,g3⟩:=hb;exact⟨⟨_,rfl,rfl⟩,bx,g1,g2,fun _=>⟨blk,cap,g3,.inl rfl⟩⟩
   | buf e cq =>
     obtain⟨he,gE⟩:=aq hr;have he':0<e.size:=by simpa using he
     obtain⟨v,aI,hr2⟩:=cv gE;obtain⟨y,h1,h2⟩:=bind_some hr2;obtain rfl:=ax h2;obtain⟨m1,m2⟩:=h.zC (b:=b*1000+999-j) (e:=e) (tid:=cq) aI he';obtain⟨ff,k1,k2,k3,k4⟩:=ih m1 h1;refine⟨ff,k1,m2.trans k2,k3,fun γ' mem' w' hx hb=>⟨[.slice none 0 0],_,rfl,?_,k4 γ' mem' w' hx hb⟩⟩;refine bH.ext (k2.trans hx) (v:=.whole (b*1000+999-j) v) (m:=.cells) ?_;exact⟨⟨_,rfl,rfl⟩,cZ (aU _ _) rfl ⟨e,0,rfl,rfl,.inl ⟨by simp[bh],rfl⟩⟩⟩
theorem yl(hc:eo P cx){elem:TypeId}{nb k:Nat}{fs:List jl}(h:bZ B N γ σ a w)(hd:k<N)(hT:find cx.mU elem=some fs)
  (hr:((mkObj (nb+k) (yN σ (nb+k)) fs 0 σ).bind fun r=>r.2.aA (nb+k) r.1 elem false fun aj σ=>.ret (σ.put k (.ptr (nb+k) aj []))).run=some σ') :
  jn P B N γ σ a w (some k) (Instr.alloc elem true (.tuple #[])) σ':=by
 obtain⟨r,h1,h2⟩:=bind_some hr;obtain⟨ff,k1,k2,k3,k4⟩:=EC h.ok h1;obtain⟨aj,aI,hr2⟩:=cv h2;obtain rfl:=ax hr2;obtain⟨z,hz,Qf⟩:=IZ (hc.mU _ _ hT) w;have hle:yN σ (nb+k)≤aj:=by
  unfold yN;split
  ·rename_i bx jW;obtain⟨fM,e1,e2,_⟩:=k2.boxes _ bx jW;have:=aI fM e1;omega
  ·exact oZ _
 let bx:aY:={ val:=r.1,tid:=elem,buf:=false,ro:=false,lk:=false,aj }
 have hw:nD B w (w.alloc (.cells z.cells elem)):=(nD.refl _ _).alloc k1.base _;have hx:=mY (L:=some (w.heap.size,0)) k1 (bx:=bx) aI hw (cu w _);have gi:bQ (bh ff (nb+k) (some (w.heap.size,0))) (bS r.2.mem (nb+k) bx) (w.alloc (.cells z.cells elem)) (nb+k) bx :=
  ⟨w.heap.size,0,z.cells,elem,(0,0),by simp[bh],heap_alloc_new w _,rP _,.inr rfl,by
   rw[Qf];exact k4 _ _ _ hx ⟨bx,w.heap.size,0,aU _ _,hle,by simp[bh]⟩⟩
 have m1:=k1.add aI hw (cu w _) (fun blk k e=>by obtain⟨rfl,rfl⟩:=cr (ax e);exact⟨kS _,by simp⟩) gi;refine⟨.pointer (some ⟨w.heap.size,0,none⟩),_,_,?_,?_,k2.trans hx⟩
 ·simp only[Instr.alloc,Sem.run_bind,hz,Result.andThen_ok,lp,Sem.run_pure]
 ·have:=h.step (k2.trans hx) m1 hd (sP (bx:=bx));rw[←k3] at this;exact this
theorem xJ{b j:Nat}{v:ay}{σ:St}{r:ay×St}(hr:(jb b [] j v σ).run=some r):r=(v,σ):=by
 cases v with
 | data t x=>cases t<;>first|(obtain rfl:=ax hr;rfl)|cases hr
 | _=>cases hr
theorem vm{b j:Nat}{f:jl}{q:List jl}{v:ay}{σ:St}{r:ay×St}(hr:(jb b (f::q) j v σ).run=some r) :
  (∃x u y,v=.mix x u∧(jb b q (j+1) u σ).run=some y∧r=(.mix x y.1,y.2)) ∨
  (∃e cq u,v=.mix .js u∧0<e.size∧(σ.aA (b*1000+999-j) (.data (.slice e) []) cq true fun aj σ=>(jb b q (j+1) u σ).bind fun x=>.ret (.mix (.whole (b*1000+999-j) aj) x.1,x.2)).run=some r):=by
 cases v with
 | mix a u =>
   cases f with
   | dat t =>
     cases a with
     | data t' z =>
       obtain⟨y,h1,h2⟩:=bind_some (show((jb b q (j+1) u σ).bind fun x=>.ret (.mix (.data t' z) x.1,x.2)).run=some r from hr);exact .inl ⟨_,u,y,rfl,h1,(ax h2).symm⟩
     | _=>cases hr
   | one =>
     cases a with
     | kW =>
       obtain⟨y,h1,h2⟩:=bind_some (show((jb b q (j+1) u σ).bind fun x=>.ret (.mix .kW x.1,x.2)).run=some r from hr);exact .inl ⟨_,u,y,rfl,h1,(ax h2).symm⟩
     | _=>cases hr
   | buf e cq =>
     cases a with
     | js =>
       obtain⟨he,gE⟩:=aq hr;exact .inr ⟨e,cq,u,rfl,by simpa using he,gE⟩
     | _=>cases hr
   | self=>cases a<;>cases hr
 | _=>cases f<;>cases hr
theorem ym(hc:eo P cx){elem:TypeId}{nb k:Nat}{bf:List Nat}{t:Ty}(h:bZ B N γ σ a w)(hd:k<N)(hT:find cx.T elem=some t)
  (hr:(nB nb bf k t σ).run=some σ'):jn P B N γ σ a w (some k) (Instr.alloc elem true (.tuple #[])) σ':=by
 unfold nB at hr;split at hr
 ·rename_i e _;obtain⟨he,gE⟩:=aq hr;have he':0<e.size:=by simpa using he
  obtain⟨v,aI,hr2⟩:=cv gE;obtain⟨m1,m2⟩:=h.ok.zC (b:=(nb+k)*1000+999) (e:=e) (tid:=0) aI he';obtain⟨aj,QF,fQ⟩:=cv hr2;obtain rfl:=ax fQ;obtain⟨i,z,i1,i2,i3,i4⟩:=(hc.T _ _ hT).info;have hz:(zeroValue elem).run P w=.ok z w:=by simp[zeroValue,typeInfo,i1,i3]
  have rR:bH (bh γ ((nb+k)*1000+999) none) (bS σ.mem ((nb+k)*1000+999) { val:=.data (.slice e) ([]:List e.den),tid:=0,buf:=true,ro:=false,lk:=false,aj:=v }) w (.whole ((nb+k)*1000+999) v) .cells z.cells.toList:=by
   rw[i4];exact⟨⟨_,rfl,rfl⟩,cZ (aU _ _) rfl ⟨e,0,rfl,rfl,.inl ⟨by simp[bh],rfl⟩⟩⟩
  obtain⟨n1,n2⟩:=m1.newVar (b:=nb+k) (v:=.whole ((nb+k)*1000+999) v) (tid:=0) QF (cs:=z.cells) elem (.inl rfl) rR;refine⟨.pointer (some ⟨w.heap.size,0,none⟩),_,_,?_,h.step (m2.trans n2) n1 hd sP,m2.trans n2⟩;simp only[Instr.alloc,Sem.run_bind,hz,Result.andThen_ok,lp,Sem.run_pure]
 ·exact EB hc h hd hT hr
theorem Be{b:Nat}:∀{fs:List jl} {j:Nat} {v:ay} {σ:St} {γ:Gh} {r:ay×St} {cs:List Value},aV B γ σ.mem w→bH γ σ.mem w v .cells cs→(jb b fs j v σ).run=some r →
  ∃ff,aV B ff r.2.mem w∧Ext B γ σ.mem w ff r.2.mem w∧r.2.slots=σ.slots∧bH ff r.2.mem w r.1 .cells cs:=by
 intro fs;induction fs with
 | nil =>
   intro j v σ γ r cs h hv hr;obtain rfl:=xJ hr;exact⟨γ,h,Ext.refl _ _ _ _,rfl,hv⟩
 | cons f q ih =>
   intro j v σ γ r cs h hv hr;rcases vm hr with ⟨x,u,y,rfl,h1,rfl⟩|⟨e,cq,u,rfl,he,gE⟩
   ·obtain⟨c1,c2,rfl,v1,v2⟩:=hv;obtain⟨ff,k1,k2,k3,k4⟩:=ih h v2 h1;exact⟨ff,k1,k2,k3,c1,c2,rfl,v1.ext k2,k4⟩
   ·obtain⟨k,aI,hr2⟩:=cv gE;obtain⟨y,h1,h2⟩:=bind_some hr2;obtain rfl:=ax h2;obtain⟨c1,c2,rfl,v1,v2⟩:=hv;obtain⟨m1,m2⟩:=h.zC (b:=b*1000+999-j) (e:=e) (tid:=cq) aI he;obtain⟨ff,k1,k2,k3,k4⟩:=ih m1 (v2.ext m2) h1;obtain rfl:c1=[.slice none 0 0]:=v1;refine⟨ff,k1,m2.trans k2,k3,[.slice none 0 0],c2,rfl,?_,k4⟩;refine bH.ext k2 (v:=.whole (b*1000+999-j) k) (m:=.cells) ?_;exact⟨⟨_,rfl,rfl⟩,cZ (aU _ _) rfl ⟨e,0,rfl,rfl,.inl ⟨by simp[bh],rfl⟩⟩⟩
theorem Bf{elem:TypeId}{nb k:Nat}{x:Operand}{fs:List jl}(h:bZ B N γ σ a w)(hd:k<N)(hu:bN σ x≠.undef)(ht:∀u,bN σ x≠.om u)
  (hr:((jb (nb+k) fs 0 (bN σ x) σ).bind fun r=>r.2.aA (nb+k) r.1 elem false fun aj σ=>.ret (σ.put k (.ptr (nb+k) aj []))).run=some σ') :
  jn P B N γ σ a w (some k) (Instr.box elem (a.eval x)) σ':=by
 obtain⟨r,h1,h2⟩:=bind_some hr;obtain⟨ff,k1,k2,k3,k4⟩:=Be h.ok ((h.bN x).gP ht (fun e=>absurd e hu)) h1;obtain⟨aj,aI,hr2⟩:=cv h2;obtain rfl:=ax hr2;obtain⟨m1,m2⟩:=k1.newVar (b:=nb+k) (v:=r.1) (tid:=elem) aI (cs:=(a.eval x).cells) elem (.inr rfl) k4;refine⟨.pointer (some ⟨w.heap.size,0,none⟩),_,_,?_,?_,k2.trans m2⟩
 ·simp only[Instr.box,Sem.run_bind,lp,Result.andThen_ok,Sem.run_pure]
 ·have:=h.step (k2.trans m2) m1 hd sP;rw[←k3] at this;exact this
theorem Jb{elem:TypeId}{nb k:Nat}{x:Operand}(h:bZ B N γ σ a w)(hd:k<N)(hu:bN σ x≠.undef)(ht:∀u,bN σ x≠.om u)
  (hr:(σ.aA (nb+k) (bN σ x) 0 false fun aj σ=>.ret (σ.put k (.ptr (nb+k) aj []))).run=some σ') :
  jn P B N γ σ a w (some k) (Instr.box elem (a.eval x)) σ':=by
 obtain⟨aj,aI,hr2⟩:=cv hr;obtain rfl:=ax hr2;obtain⟨m1,m2⟩:=h.ok.newVar (b:=nb+k) (v:=bN σ x) (tid:=0) aI (cs:=(a.eval x).cells) elem (.inl rfl) ((h.bN x).gP ht (fun e=>absurd e hu));refine⟨.pointer (some ⟨w.heap.size,0,none⟩),_,_,?_,h.step m2 m1 hd sP,m2⟩;simp only[Instr.box,Sem.run_bind,lp,Result.andThen_ok,Sem.run_pure]
theorem Nt{mem:Nat→Option aY}:∀{u v:ay} {k:Nat} {vs:List Value},bH γ mem w u .many vs→nth u k=some v→∃x,vs[k]?=some x∧bH γ mem w v .val [x]:=by
 intro u;induction u with
 | mix p q pY pg =>
   intro v k vs h hn;obtain⟨c,r,rfl,h1,h2⟩:=h;cases k with
   | zero=>obtain rfl:=ax hn;exact⟨c,rfl,h1⟩
   | succ k=>obtain⟨x,hx,hr⟩:=pg h2 hn;exact⟨x,by simpa using hx,hr⟩
 | _=>intro v k vs h hn;exact absurd hn (by intro k;cases k)
theorem Bg{x:Operand}{k:Nat}{vs v:ay}(h:bZ B N γ σ a w)(hd:∀k,d=some k→k<N)(hx:bN σ x=.om vs)(hn:nth vs k=some v) :
  jn P B N γ σ a w d (Instr.extract (a.eval x) k) (σ.aD d v):=by
 have hv:=h.bN x;rw[hx] at hv;obtain⟨arr,h1,h2⟩:=hv;obtain h1:a.eval x=_:=by simpa using h1
 obtain⟨y,hy,hr⟩:=Nt h2 hn;refine bk h hd (x:=y) ?_ hr;rw[h1];have:arr[k]?=some y:=by simpa using hy
 simp only[Instr.extract,this,Sem.run_pure]
theorem Lf:∀{ops:List Operand} {cs:List (Nat×Nat)},bZ B N γ σ a w→wH (ops.map (bN σ))=some cs→cs.length=ops.length ∧
  ∀(i:Nat) b aj,cs[i]?=some (b,aj)→iH σ.mem b aj fun _=>∃blk cap,γ.loc b=some (blk,cap)∧(ops.map a.eval)[i]?=some (.pointer (some ⟨blk,0,none⟩)):=by
 intro ops;induction ops with
 | nil=>intro cs h hc;obtain rfl:=ax hc;exact⟨rfl,fun i b aj hi=>by cases hi⟩
 | cons o r ih =>
   intro cs h hc;have ho:=h.bN o;simp only[mT] at hc;unfold wH at hc;split at hc
   ·rename_i heq;cases heq
   ·rename_i b0 Nu r0 heq;injection heq with q1 q2
    subst q2;rw[q1] at ho;cases hr:wH (r.map (bN σ)) with
    | none=>rw[hr] at hc;cases hc
    | some cs' =>
      rw[hr] at hc;obtain rfl:=ax hc;obtain⟨i1,i2⟩:=ih h hr;refine⟨by simp[i1],fun i b aj hi=>?_⟩;cases i with
      | zero =>
        obtain⟨rfl,rfl⟩:=cr (ax hi);obtain⟨bx,k1,k2,k3⟩:=ho.2;refine⟨bx,k1,k2,fun e=>?_⟩;obtain⟨blk,cap,j1,j2⟩:=k3 e;obtain j2:a.eval o=_:=by simpa using j2
        exact⟨blk,cap,j1,by simp[j2,bR]⟩
      | succ i =>
        have:=i2 i b aj (by simpa using hi);simpa using this
   ·cases hc
theorem zJ{f:Nat}{caps:Array Operand}{cs:List (Nat×Nat)}(h:bZ B N γ σ a w)(hd:∀k,d=some k→k<N)(hcs:wH (caps.toList.map (bN σ))=some cs) :
  jn P B N γ σ a w d (Instr.makeFunc (.func f) #[] (caps.map a.eval)) (σ.aD d (.fn f cs)):=by
 obtain⟨h1,h2⟩:=Lf h hcs;refine bk h hd (x:=.func (.func f) #[] (caps.map a.eval)) rfl ?_;refine⟨caps.map a.eval,rfl,by rw[h1];simp,fun i b aj hi=>?_⟩;obtain⟨bx,k1,k2,k3⟩:=h2 i b aj hi;refine⟨bx,k1,k2,fun e=>?_⟩;obtain⟨blk,cap,j1,j2⟩:=k3 e;exact⟨blk,cap,j1,by simpa using j2⟩
end
end Go.Ge
namespace Go.Ge
open RowKit
def Gk(γ:Gh)(blk:Nat):Gh:={ γ with I:=fun b o=>γ.I b o∨b=blk }
theorem aV.Pg{B:ld}{γ:Gh}{mem:Nat→Option aY}{w:World}(h:aV B γ mem w)(cs:Array Value)(t':TypeId) :
  aV B (Gk γ w.heap.size) mem (w.alloc (.cells cs t'))∧Ext B γ mem w (Gk γ w.heap.size) mem (w.alloc (.cells cs t')):=by
 have hx:Ext B γ mem w (Gk γ w.heap.size) mem (w.alloc (.cells cs t')) :=
  { below:=(nD.refl _ _).alloc h.base _
    I:=fun _ _ x=>.inl x
    mX:=fun blk o x=>by
     rcases x with x|x
     ·exact .inl x
     ·exact .inr (.inl (by rw[x];exact h.base))
    cells:=fun blk o x=>ep (cu w _ blk (h.mW blk o x))
    boxes:=fun b bx hb=>⟨bx,hb,kS _,fun _=>⟨rfl,rfl,rfl⟩⟩ }
 refine⟨?_,hx⟩;have hsz:(w.alloc (.cells cs t')).heap.size=w.heap.size+1:=by simp
 exact
  { bG:=h.va hx
    base:=by rw[hsz];exact Nat.le_succ_of_le h.base
    boxes:=fun b bx hb=>(h.boxes b bx hb).keep hx rfl fun blk k hl=>cu w _ blk (h.fresh b blk k (by rw[hb];simp) hl).2
    inj:=h.inj
    fresh:=fun b blk k hb hl=>by have:=h.fresh b blk k hb hl;exact⟨this.1,by rw[hsz];omega⟩
    mW:=fun blk off hi=>by
     rw[hsz];rcases hi with hi|hi
     ·have:=h.mW blk off hi;omega
     ·omega
    sep:=fun b bx blk k off hb hl hi=>by
     rcases hi with hi|hi
     ·exact h.sep b bx blk k off hb hl hi
     ·have:=(h.fresh b blk k (by rw[hb];simp) hl).2;omega }
theorem zK(off:Nat):∀(l:List Value) (k:Nat) (cells:Array Value),off+k+l.length≤cells.size →
  (l.zipIdx k).foldl (fun cs (x:Value×Nat)=>cs.setIfInBounds (off+x.2) x.1) cells=(splice cells.toList (off+k) l).toArray
 | [],k,cells,h=>by simp[splice]
 | v::r,k,cells,h=>by
   simp only[List.zipIdx_cons,List.foldl_cons];rw[zK off r (k+1) _ (by simp at h⊢;omega)];have e:=list_seg_step cells.toList (off+k) v r (by simp at h⊢;omega)
   congr 1
   simpa [splice,Oo,wB] using e
theorem sQ{place:Nat→Option (Nat×Nat)}{cells:Array Value}{i off size:Nat}{v:Value}{rest:List (Nat×Value)}(hp:place i=some (off,size))(hs:v.cells.toList.length=size)
  (hle:off+size≤cells.size):Instr.fill place cells ((i,v)::rest)=Instr.fill place (splice cells.toList off v.cells.toList).toArray rest:=by
 have hs':v.cells.size=size:=by simpa using hs
 have hc:(v.cells.size≠size||off+v.cells.size > cells.size)=false:=by
  simp only[A7,KB];constructor
  ·simp[hs']
  ·omega
 simp only[Instr.fill,hp];rw[hc];simp only[FY,wD]
 congr 1
 rw[←Array.foldl_toList,Array.toList_zipIdx];have:=zK off v.cells.toList 0 cells (by rw[hs];omega);simpa using this
theorem Gl{w:World}{I:Nat→Nat→Prop}{u:Ty}{y:u.den}{es:List Value}(he:bt w I u y es):∀{t:Ty} {x x':t.den} {cs:List Value} {k o:Nat},
  bt w I t x cs→gk t k=some o→zj t x k u y=some x'→bt w I t x' (splice cs o es)∧o+es.length≤cs.length:=by
 intro t;induction t with
 | pair a b gy iu =>
   intro x x' cs k o h ho hp;obtain⟨c1,c2,rfl,h1,h2⟩:=h;cases k with
   | zero =>
     simp only[gk,jU] at ho;subst ho;simp only[zj] at hp;split at hp
     ·rename_i y' hy;obtain⟨q,hq⟩:=Ty.gL hy;subst q;subst hq;obtain rfl:=ax hp;have hl:es.length=c1.length:=by rw[he.length,h1.length]
      refine⟨⟨es,c2,?_,he,h2⟩,by rw[pM];omega⟩;simp only[splice,Ec,CG,oY];rw[hl,ue]
     ·cases hp
   | succ k =>
     simp only[gk] at ho;cases hb:gk b k with
     | none=>rw[hb] at ho;cases ho
     | some o' =>
       rw[hb] at ho;simp only[wu,jU] at ho;simp only[zj] at hp;split at hp
       ·rename_i z hz;obtain rfl:=ax hp;obtain⟨r1,r2⟩:=iu h2 hb hz;have hl:=h1.length;refine⟨⟨c1,splice c2 o' es,?_,h1,r1⟩,by rw[pM];omega⟩;subst ho;rw[←hl];simp only[splice];first
         | (rw[M7,nH,nH,wB,←qm,ue];simp[nH];done)
         | (rw[HS o' c1.length,M7,nH,nH,wB,←qm,ue];simp[nH])
       ·cases hp
 | _=>intro x x' cs k o h ho;cases k<;>simp[gk] at ho
theorem yo:∀{t:Ty} {k:Nat} {u:Ty},nI t k=some u→∃o,gk t k=some o:=by
 intro t;induction t with
 | pair a b gy iu =>
   intro k u h;cases k with
   | zero=>exact⟨0,rfl⟩
   | succ k =>
     obtain⟨o,ho⟩:=iu (show nI b k=some u from h);simp only[gk,ho];exact⟨_,rfl⟩
 | _=>intro k u h;cases k<;>cases h
section
variable {P:Program} {B:ld} {N:Nat} {γ:Gh} {σ σ':St} {a:Act} {w:World} {d:Option Nat} {cx:Ctx}
theorem wO{place:Nat→Option (Nat×Nat)}{t:Ty}(hpl:∀k u o,nI t k=some u→gk t k=some o→place k=some (o,u.size)) :
  ∀{parts:List (Nat×Operand)} {x x':t.den} {cells:Array Value} {σ σ':St} {γ:Gh},bZ B N γ σ a w→bt w γ.I t x cells.toList→eL σ t x parts=some (x',σ') →
   ∃cells' γ',Instr.fill place cells (parts.map fun p=>(p.1,a.eval p.2))=some cells'∧bZ B N γ' σ' a w∧Ext B γ σ.mem w γ' σ'.mem w∧bt w γ'.I t x' cells'.toList:=by
 intro parts;induction parts with
 | nil =>
   intro x x' cells σ σ' γ h hx hb;obtain⟨rfl,rfl⟩:=cr (ax hb);exact⟨cells,γ,rfl,h,Ext.refl _ _ _ _,hx⟩
 | cons p r ih =>
   obtain⟨k,o⟩:=p;intro x x' cells σ σ' γ h hx hb;simp only[eL] at hb;split at hb
   ·rename_i u hu;split at hb
    ·rename_i y σ1 hg;split at hb
     ·rename_i x1 hx1;obtain⟨ff,s1,s2,cs,c1,c2⟩:=iL h (h.bN o) hg;obtain hval:a.eval o=_:=by simpa using c2
      have Ke:(a.eval o).cells.toList=cs:=by rw[hval];exact lG c1
      obtain⟨off,hoff⟩:=yo hu;obtain⟨r1,r2⟩:=Gl c1 (bt.mono s2.I s2.cells hx) hoff hx1;have hsz:=c1.length;obtain⟨cells',tG,k1,k2,k3,k4⟩:=ih (cells:=(splice cells.toList off cs).toArray) s1 (by simpa using r1) hb;refine⟨cells',tG,?_,k2,s2.trans k3,k4⟩;simp only[mT];rw[sQ (hpl k u off hu hoff) (by rw[Ke];exact hsz) (by rw[hsz] at r2;simpa using r2),Ke];exact k1
     ·cases hb
    ·cases hb
   ·cases hb
theorem ri{n:Nat}{e:Ty}{place:Nat→Option (Nat×Nat)}(hpl:∀k,place k=some (k*e.size,e.size)) :
  ∀{parts:List (Nat×Operand)} {l l':List e.den} {cells:Array Value} {σ σ':St} {γ:Gh},bZ B N γ σ a w→bt w γ.I (.arr n e) l cells.toList→eF σ e l parts=some (l',σ') →
   ∃cells' γ',Instr.fill place cells (parts.map fun p=>(p.1,a.eval p.2))=some cells'∧bZ B N γ' σ' a w∧Ext B γ σ.mem w γ' σ'.mem w∧bt w γ'.I (.arr n e) l' cells'.toList:=by
 intro parts;induction parts with
 | nil =>
   intro l l' cells σ σ' γ h hx hb;obtain⟨rfl,rfl⟩:=cr (ax hb);exact⟨cells,γ,rfl,h,Ext.refl _ _ _ _,hx⟩
 | cons p r ih =>
   obtain⟨k,o⟩:=p;intro l l' cells σ σ' γ h hx hb;simp only[eF] at hb;split at hb
   ·rename_i y σ1 hg;cases hlt:Nat.blt k l.length with
    | false=>rw[hlt] at hb;cases hb
    | true =>
      rw[hlt] at hb;simp only[jk] at hb;have hlt':k<l.length:=by simpa using hlt
      obtain⟨ff,s1,s2,cs,c1,c2⟩:=iL h (h.bN o) hg;obtain hval:a.eval o=_:=by simpa using c2
      have Ke:(a.eval o).cells.toList=cs:=by rw[hval];exact lG c1
      obtain⟨j1,j2,j3⟩:=bt.mono s2.I s2.cells hx;have Ue:l.length=n:=j1;have hsz:=c1.length;have hm:(k+1)*e.size≤n*e.size:=lT _ (by omega);rw[rF] at hm;have hle:k*e.size+cs.length≤cells.toList.length:=by rw[hsz,j2];exact hm
      have hnew:bt w ff.I (.arr n e) (l.set k y) (splice cells.toList (k*e.size) cs) :=
       ⟨(@List.length_set _ l _ _).trans j1,by rw[b5 hle];exact j2,zB Ue (by rw[j2];exact kS _) j3 (by omega) c1⟩
      obtain⟨cells',tG,k1,k2,k3,k4⟩:=ih (cells:=(splice cells.toList (k*e.size) cs).toArray) s1 (by simpa using hnew) hb;refine⟨cells',tG,?_,k2,s2.trans k3,k4⟩;simp only[mT];rw[sQ (hpl k) (by rw[Ke];exact hsz) (by rw[hsz] at hle;simpa using hle),Ke];exact k1
   ·cases hb
theorem jV.places{t:Ty}:∀{off:Nat} {fs:List Field},jV P t off fs→∃places:List (Nat×Nat),fs.mapM (fun f=>(P.info? f.type).map fun i=>(f.offset,i.size))=some places ∧
  ∀k u o,nI t k=some u→gk t k=some o→places[k]?=some (off+o,u.size):=by
 induction t with
 | pair a b gy iu =>
   intro off fs h;obtain⟨f,r,rfl,h1,h2,h3,h4,h5⟩:=h.cons;obtain⟨pl,p1,p2⟩:=iu h5;obtain⟨i,z,i1,i2,_⟩:=h3.info;refine⟨(f.offset,i.size)::pl,by simp[i1,p1],fun k u o hu ho=>?_⟩;cases k with
   | zero =>
     simp only[nI,gk,jU] at hu ho;subst hu ho;simp[h1,i2]
   | succ k =>
     simp only[nI,gk] at hu ho;cases hb:gk b k with
     | none=>rw[hb] at ho;cases ho
     | some o' =>
       rw[hb] at ho;simp only[wu,jU] at ho;have:=p2 k u o' hu hb;rw[KA,this]
       congr 2;omega
 | unit =>
   intro off fs h;cases fs with
   | nil=>exact⟨[],rfl,fun k u o hu=>by cases k<;>cases hu⟩
   | cons f r=>simp[jV,eE] at h
 | _=>intro off fs h;cases fs<;>simp[jV,eE] at h
theorem xK{mem:Nat→Option aY}:∀{fs:List jl} {v:ay},lE fs=some v→bH γ mem w v .cells (zy fs):=by
 intro fs;induction fs with
 | nil=>intro v h;obtain rfl:=ax h;rfl
 | cons f r ih =>
   intro v h;cases f with
   | dat t =>
     simp only[lE] at h;split at h
     ·rename_i u hu;obtain rfl:=ax h;exact⟨_,_,rfl,jN _ _ t,ih hu⟩
     ·cases h
   | buf e i =>
     simp only[lE] at h;split at h
     ·rename_i u hu;obtain rfl:=ax h;exact⟨[.slice none 0 0],_,rfl,rfl,ih hu⟩
     ·cases h
   | one =>
     simp only[lE] at h;split at h
     ·rename_i u hu;obtain rfl:=ax h;exact⟨[.pointer none],_,rfl,rfl,ih hu⟩
     ·cases h
   | self=>cases h
theorem rV{place:Nat→Option (Nat×Nat)}{fs:List jl}(hpl:∀k o f,qt fs k=some o→fs[k]?=some f→place k=some (o,f.size))(h:bZ B N γ σ a w) :
  ∀{parts:List (Nat×Operand)} {v v':ay} {cells:Array Value},bH γ σ.mem w v .cells cells.toList→iG σ fs v parts=some v' →
   ∃cells',Instr.fill place cells (parts.map fun p=>(p.1,a.eval p.2))=some cells'∧bH γ σ.mem w v' .cells cells'.toList:=by
 intro parts;induction parts with
 | nil=>intro v v' cells hv hb;obtain rfl:=ax hb;exact⟨cells,rfl,hv⟩
 | cons p r ih =>
   obtain⟨k,x⟩:=p;intro v v' cells hv hb;simp only[iG] at hb;split at hb
   case h_2=>cases hb
   rename_i o t y0 o' f hf ho Uf;cases hc:Nat.beq o o'&&Nat.beq t.size f.size with
   | false=>rw[hc] at hb;cases hb
   | true =>
     rw[hc] at hb;simp only[jk] at hb;simp only[cP] at hc;obtain rfl:=dz hc.1;have hsz:=dz hc.2;split at hb
     case h_2=>cases hb
     rename_i y hy;split at hb
     case h_2=>cases hb
     rename_i v1 hv1;have hx:bH γ σ.mem w (bN σ x) .cells (a.eval x).cells.toList:=(h.bN x).gP (fun u e=>by rw[e] at hy;cases hy) (fun e=>by rw[e] at hy;cases hy);have Rx:bt w γ.I t y (a.eval x).cells.toList:=yT hy hx;obtain⟨b1,_⟩:=wN hv hf;have To:o+t.size≤cells.toList.length:=b1;have hl:(a.eval x).cells.toList.length=t.size:=Rx.length;have hn:=zz (f:=fun _=>.ret (.data t y)) hv hf (fun z hz=>by obtain rfl:=ax hz;exact Rx) hv1 hl;obtain⟨cells',k1,k2⟩:=ih (cells:=(splice cells.toList o (a.eval x).cells.toList).toArray) (by simpa using hn) hb;refine⟨cells',?_,k2⟩;simp only[mT];rw[sQ (hpl k o f ho Uf) (by rw[hl];exact hsz) (by rw[←hsz];simpa using To)];exact k1
theorem yp(hc:eo P cx){t:TypeId}{fs:List jl}{z0 p q:ay}{parts:Array (Nat×Operand)}(h:bZ B N γ σ a w)(hd:∀k,d=some k→k<N)(hO:find cx.mU t=some fs)
  (OM:lE fs=some z0) (hb:iG σ fs z0 parts.toList=some (.mix p q)) :
  jn P B N γ σ a w d (Instr.build t (parts.map fun(i,x)=>(i,a.eval x))) (σ.aD d (.mix p q)):=by
 have hB:=hc.mU _ _ hO;simp only[Bb,cP] at hB;obtain⟨h1,h2⟩:=hB;obtain⟨i,z,i1,i2,i3,i4⟩:=gp h2;split at h1
 case h_2=>cases h1
 rename_i gs hg;obtain⟨pl,p1,p2⟩:=vf h1;obtain⟨cells',k1,c1,c2,e1,e2,e3⟩:=rV (place:=fun k=>pl.toArray[k]?) (fun k o f ho hf=>by have:=p2 k o f ho hf;simpa using this) h
  (v:=z0) (cells:=z.cells) (by rw[i4];exact xK OM) hb
 have hrun:(Instr.build t (parts.map fun(i,x)=>(i,a.eval x))).run P w=.ok (.agg cells') w:=by
  refine run_build w t _ _ ?_;unfold Program.built;simp only[i1,hg,i3,p1];simpa using k1
 exact bk h hd hrun ⟨c1,c2,by rw[←e1],e2,e3⟩
theorem wP(hc:eo P cx){t:TypeId}{fs:List jl}{z0:ay}{u:Ty.unit.den}{parts:Array (Nat×Operand)}(h:bZ B N γ σ a w)(hd:∀k,d=some k→k<N)(hO:find cx.mU t=some fs)
  (OM:lE fs=some z0) (hb:iG σ fs z0 parts.toList=some (.data .unit u)) :
  jn P B N γ σ a w d (Instr.build t (parts.map fun(i,x)=>(i,a.eval x))) (σ.aD d (.data .unit ())):=by
 have hB:=hc.mU _ _ hO;simp only[Bb,cP] at hB;obtain⟨h1,h2⟩:=hB;obtain⟨i,z,i1,i2,i3,i4⟩:=gp h2;split at h1
 case h_2=>cases h1
 rename_i gs hg;obtain⟨pl,p1,p2⟩:=vf h1;obtain⟨cells',k1,k2⟩:=rV (place:=fun k=>pl.toArray[k]?) (fun k o f ho hf=>by have:=p2 k o f ho hf;simpa using this) h
  (v:=z0) (cells:=z.cells) (by rw[i4];exact xK OM) hb
 have hrun:(Instr.build t (parts.map fun(i,x)=>(i,a.eval x))).run P w=.ok (.agg cells') w:=by
  refine run_build w t _ _ ?_;unfold Program.built;simp only[i1,hg,i3,p1];simpa using k1
 have e:cells'.toList=[]:=k2;exact bk h hd hrun ⟨[],rfl,by rw[show cells'=#[] from Eg e];rfl⟩
theorem uu(hc:eo P cx){t:TypeId}{u v:Ty}{parts:Array (Nat×Operand)}{x:(Ty.pair u v).den}(h:bZ B N γ σ a w)(hd:∀k,d=some k→k<N)(hT:find cx.T t=some (.pair u v))
  (hb:eL σ (.pair u v) (Ty.pair u v).zero parts.toList=some (x,σ')) :
  jn P B N γ σ a w d (Instr.build t (parts.map fun(i,x)=>(i,a.eval x))) (σ'.aD d (.data (.pair u v) x)):=by
 have hD:=hc.T _ _ hT;obtain⟨fs,f1,f2,_⟩:=hD.pair;obtain⟨pl,p1,p2⟩:=f2.places;obtain⟨i,z,i1,i2,i3,i4⟩:=hD.info;obtain⟨cells',γ',k1,k2,k3,k4⟩:=wO (place:=fun k=>pl.toArray[k]?) (fun k u o hu ho=>by have:=p2 k u o hu ho;simpa using this) h
  (x:=(Ty.pair u v).zero) (cells:=z.cells) (by rw[i4];exact jN w γ.I _) hb
 have hrun:(Instr.build t (parts.map fun(i,x)=>(i,a.eval x))).run P w=.ok (.agg cells') w:=by
  refine run_build w t _ _ ?_;unfold Program.built;simp only[i1,f1,i3,p1];simpa using k1
 exact⟨_,_,γ',hrun,k2.nR hd ⟨_,k4,rfl⟩,by cases d<;>exact k3⟩
theorem vn(hc:eo P cx){t:TypeId}{n:Nat}{e:Ty}{parts:Array (Nat×Operand)}{l:List e.den}(h:bZ B N γ σ a w)(hd:∀k,d=some k→k<N)(hT:find cx.T t=some (.arr n e))
  (hb:eF σ e (List.replicate n e.zero) parts.toList=some (l,σ')) :
  jn P B N γ σ a w d (Instr.build t (parts.map fun(i,x)=>(i,a.eval x))) (σ'.aD d (.data (.arr n e) l)):=by
 have hD:=hc.T _ _ hT;obtain⟨cq,f1,f2,f3⟩:=hD.arr;obtain⟨ie,ze,e1,e2,e3,e4⟩:=f2.info;obtain⟨i,z,i1,i2,i3,i4⟩:=hD.info;obtain⟨cells',γ',k1,k2,k3,k4⟩:=ri (n:=n) (place:=fun k=>some (k*ie.size,ie.size)) (fun k=>by rw[e2]) h
  (l:=List.replicate n e.zero) (cells:=z.cells) (by rw[i4];exact jN w γ.I (.arr n e)) hb
 have hrun:(Instr.build t (parts.map fun(i,x)=>(i,a.eval x))).run P w=.ok (.agg cells') w:=by
  refine run_build w t _ _ ?_;unfold Program.built;simp only[i1,f1,i3,e1];simpa using k1
 exact⟨_,_,γ',hrun,k2.nR hd ⟨_,k4,rfl⟩,by cases d<;>exact k3⟩
theorem nT{e:Ty}{z:Value}(hz:z.cells.toList=dU e)(he:0<e.size)(n:Nat):(madeCells z.cells (n*e.size)).toList=dU (.arr n e):=by
 have hzl:z.cells.size=e.size:=by rw[←dx e,←hz];simp
 apply D6;intro j;have hlen:(dU (.arr n e)).length=n*e.size:=by rw[dx];rfl
 rcases wC j (n*e.size) with hj|hj
 ·have h1:(madeCells z.cells (n*e.size)).toList[j]?=some (z.cells[j % z.cells.size]!):=by simp[madeCells,hj]
  rw[h1];have hdiv:j / e.size<n:=by rw[KC he];exact hj
  have hk:=dm (dU e) n (j / e.size) hdiv;rw[dx] at hk;have hmod:=CK j he;have hkk:j / e.size*e.size+j % e.size=j:=by rw[Nat.mul_comm];exact KL j e.size
  have h2:(dU (.arr n e))[j]?=(dU e)[j % e.size]?:=by
   conv=>rhs;rw[←hk]
   rw[lU,ek hmod,rz,hkk];rfl
  rw[h2,←hz,hzl];have hm:j % e.size<z.cells.size:=by omega
  simp[hm]
 ·rw[IG (by simp[madeCells];omega),IG (by omega)]
theorem C0{w:World}{I:Nat→Nat→Prop}{e:Ty}{n:Nat}{l:List e.den}{cells:Array Value}{t:TypeId}{blk:Nat}{fr:Nat×Nat}(h:bt w I (.arr n e) l cells.toList)(hg:w.heap[blk]?=some (.cells cells t fr))
  (hI:∀o,I blk o) (hn:n≤maxLen):bt w I (.slice e) l [.slice (some ⟨blk,0,none⟩) n n]:=by
 obtain⟨h1,h2,h3⟩:=h;have h1':l.length=n:=h1;refine .inr ⟨blk,0,n,by rw[←h1'],by rw[←h1'];exact kS _,hn,fun i x hx=>?_⟩;have hx':l[i]?=some x:=hx;have hi:i<n:=by have:=(List.getElem?_eq_some_iff.1 hx').1;omega
 have hr:=h3 i x hx';refine⟨_,hr.length,fun j c hj=>⟨?_,hI _⟩,hr⟩;rw[cell_of_heap hg];rw[lU] at hj;split at hj
 ·rw[rz] at hj;rw[oY];simpa using hj
 ·cases hj
theorem wQ(hc:eo P cx){t:TypeId}{n:Nat}{e:Ty}{parts:Array (Nat×Operand)}{l:List e.den}(h:bZ B N γ σ a w)(hd:∀k,d=some k→k<N)(hT:find cx.T t=some (.slice e))
  (hn:Nat.ble (n*e.size) 65536=true) (hb:eF σ e (List.replicate n e.zero) parts.toList=some (l,σ')) :
  jn P B N γ σ a w d (Instr.buildSlice t n (parts.map fun(i,x)=>(i,a.eval x))) (σ'.aD d (.data (.slice e) l)):=by
 have hD:=hc.T _ _ hT;have hn:n*e.size≤65536:=ya hn;obtain⟨cq,f1,f2,f3,f4⟩:=hD.slice;obtain⟨ie,ze,e1,e2,e3,e4⟩:=f2.info;obtain⟨cells',γ',k1,k2,k3,k4⟩:=ri (n:=n) (place:=fun k=>some (k*ie.size,ie.size)) (fun k=>by rw[e2]) h
  (l:=List.replicate n e.zero) (cells:=madeCells ze.cells (n*e.size)) (by rw[nT e4 f4];exact jN w γ.I (.arr n e)) hb
 obtain⟨m1,m2⟩:=k2.ok.Pg cells' cq;have hrun:(Instr.buildSlice t n (parts.map fun(i,x)=>(i,a.eval x))).run P w=.ok (.slice (some ⟨w.heap.size,0,none⟩) n n) (w.alloc (.cells cells' cq)):=by
  have Qg:Instr.fill (fun i=>some (i*ie.size,ie.size)) (madeCells ze.cells (n*ie.size)) (parts.map fun(i,x)=>(i,a.eval x)).toList=some cells':=by rw[e2] at k1⊢;simpa using k1
  by_cases h0:n*ie.size=0
  ·have OM:madeCells ze.cells (n*ie.size)=#[]:=by rw[h0];simp[madeCells]
   rw[OM] at Qg;simp only[Kx] at Qg;simp[Instr.buildSlice,run_underlying f1,Go.sizeOf,typeInfo,zeroValue,e1,e3,h0,newRow];have hz:(Array.map (fun x:Nat=>(default:Value)) (Array.range 0))=#[]:=by simp[Array.range]
   rw[hz,Qg];rfl
  ·exact run_buildSlice w t cq n _ cells' ie ze f1 e1 e3 (by rw[e2];omega) h0 Qg
 refine⟨_,_,_,hrun,k2.aD m2 m1 hd (v:=.data (.slice e) l) ⟨[.slice (some ⟨w.heap.size,0,none⟩) n n],?_,rfl⟩,by cases d<;>exact k3.trans m2⟩;refine C0 (bt.mono m2.I m2.cells k4) (heap_alloc_new w _) (fun o=>.inr rfl) ?_;have:n*1≤n*e.size:=Nat.mul_le_mul_left _ f4;have:(65536:Nat)≤maxLen:=by decide
 omega
theorem C1{α:Type}{l r:List α}{c:α}{j:Nat}(h:l.length=j):(l++([c]++r)).take (j+1)=l++[c]:=by
 subst h;rw[List.take_append,CE (by omega)];simp
theorem C2{place:Nat→Option (Nat×Nat)}(hpl:∀k,place k=some (k,1))(h:bZ B N γ σ a w) :
  ∀{parts:List (Nat×Operand)} {k:Nat} {v:ay} {cells:Array Value},cells.size=k+parts.length→rJ σ k parts=some v →
   ∃vals:List Value,Instr.fill place cells (parts.map fun p=>(p.1,a.eval p.2))=some (cells.toList.take k++vals).toArray∧bH γ σ.mem w v .cells vals:=by
 intro parts;induction parts with
 | nil =>
   intro k v cells hs hv;obtain rfl:=ax hv;refine⟨[],?_,rfl⟩;have:cells.toList.take k=cells.toList:=CE (by simp only[oX,uf] at hs;simp[hs]);rw[this];simp[Instr.fill]
 | cons p r ih =>
   obtain⟨j,x⟩:=p;intro k v cells hs hv;simp only[rJ] at hv;cases hj:Nat.beq j k with
   | false=>rw[hj] at hv;cases hv
   | true =>
     rw[hj] at hv;simp only[jk] at hv;obtain rfl:=dz hj;simp only[kV] at hs;have key:∀(u u':ay) (c:Value),(∀t,u≠.om t)→u≠.undef→bN σ x=u→rJ σ (j+1) r=some u'→v=.mix u u'→(a.eval x).cells.toList=[c] →
       ∃vals:List Value,Instr.fill place cells (((j,x)::r).map fun p=>(p.1,a.eval p.2))=some (cells.toList.take j++vals).toArray∧bH γ σ.mem w v .cells vals:=by
      intro u u' c h1 h2 hu Nv Rw hcell;have hx:=h.bN x;rw[hu] at hx;have hx':=hx.gP h1 (fun e=>absurd e h2);have hlen:(splice cells.toList j [c]).length=cells.toList.length:=b5 (by simp;omega);obtain⟨vals,k1,k2⟩:=ih (k:=j+1) (cells:=(splice cells.toList j [c]).toArray) (by simp only[KJ,hlen,Ku];omega) Nv;have ht:(splice cells.toList j [c]).take (j+1)=cells.toList.take j++[c]:=by
       have:(cells.toList.take j).length=j:=by rw[iA,Ku];omega
       simp only[splice];rw[nH,C1 this]
      refine⟨c::vals,?_,?_⟩
      ·simp only[mT];rw[sQ (hpl j) (by rw[hcell];rfl) (by omega),hcell,k1];rw[ht];simp
      ·rw[Rw];exact⟨[c],vals,rfl,by rw[hcell] at hx';exact hx',k2⟩
     split at hv
     ·rename_i u' hu Nv;obtain rfl:=ax hv;have hx:=h.bN x;rw[hu] at hx;obtain hx:a.eval x=_:=by simpa [bH] using hx
      exact key .kW u' (.pointer none) (fun t e=>by cases e) (fun e=>by cases e) hu Nv rfl (by rw[hx];rfl)
     ·rename_i b aj q u' hu Nv;obtain rfl:=ax hv;have hx:=h.bN x;rw[hu] at hx;obtain⟨⟨y,hy,ho⟩,_⟩:=hx;obtain rfl:a.eval x=y:=by simpa using hy
      refine key (.ptr b aj q) u' (a.eval x) (fun t e=>by cases e) (fun e=>by cases e) hu Nv rfl ?_;generalize a.eval x=y at ho⊢;cases y<;>first|rfl|(simp[Value.oneCell'] at ho)
     ·rename_i f c u' hu Nv;obtain rfl:=ax hv;have hx:=h.bN x;rw[hu] at hx;obtain⟨arr,hx,_,_⟩:=hx;obtain hx:a.eval x=_:=by simpa using hx
      exact key (.fn f c) u' _ (fun t e=>by cases e) (fun e=>by cases e) hu Nv rfl (by rw[hx];rfl)
     ·cases hv
theorem Bh(hc:eo P cx){t:TypeId}{nb n:Nat}{parts:Array (Nat×Operand)}(h:bZ B N γ σ a w)(hd:∀k,d=some k→k<N)
  (hr:(sM cx nb d t n parts.toList σ).run=some σ'):jn P B N γ σ a w d (Instr.buildSlice t n (parts.map fun(i,x)=>(i,a.eval x))) σ':=by
 unfold sM at hr;split at hr
 case h_2=>cases hr
 rename_i k e v he hv;obtain⟨hb,gE⟩:=aq hr;simp only[cP] at hb;obtain⟨⟨hn,h0⟩,ED⟩:=hb;obtain rfl:=dz hn;have h0':0<parts.toList.length:=by simpa using h0
 have Nw:parts.toList.length≤64:=ya ED;obtain⟨k1,k2⟩:=qA hc he;obtain⟨_,hs,z,hz,_⟩:=hc.lW _ k2;obtain⟨ie,i1,i2⟩:∃ie,P.info? e=some ie∧ie.size=1:=by
  have:=hs w;cases hi:P.info? e with
  | none=>simp[Go.sizeOf,typeInfo,hi] at this
  | some ie=>simp[Go.sizeOf,typeInfo,hi] at this;exact⟨ie,rfl,this⟩
 obtain⟨z',i3⟩:∃z',ie.zero=some z':=by
  have:=hz w;cases hi:ie.zero with
  | none=>simp[zeroValue,typeInfo,i1,hi] at this
  | some z'=>exact⟨z',rfl⟩
 obtain⟨aj,aI,hr2⟩:=cv gE;obtain rfl:=ax hr2;obtain⟨vals,f1,f2⟩:=C2 (place:=fun i=>some (i*ie.size,ie.size)) (fun j=>by rw[i2];simp) h (k:=0) (cells:=(Array.range (parts.toList.length*ie.size)).map (z'.cells[· % z'.cells.size]!)) (by simp[i2]) hv;have hrun:=run_buildSlice w t e parts.toList.length (parts.map fun(i,x)=>(i,a.eval x)) _ ie z' k1 i1 i3 (by rw[i2];omega) (by rw[i2];omega) (by rw[Kx];exact f1);obtain⟨m1,m2⟩:=h.ok.newVar (b:=nb+k) (v:=v) (tid:=0) aI (cs:=((((Array.range (parts.toList.length*ie.size)).map (z'.cells[· % z'.cells.size]!)).toList.take 0)++vals).toArray) e (.inl rfl) (by simpa using f2);refine⟨_,_,_,hrun,h.step m2 m1 (hd k rfl) ?_,m2⟩;refine⟨⟨_,rfl,rfl⟩,cZ (aU _ _) rfl ⟨by simp,w.heap.size,0,by simp[bh],by omega,by omega,by omega,_,_,rfl,by simp,.inr ?_⟩⟩;simp[bR]
theorem wR(hc:eo P cx){t:TypeId}{e:Ty}{nb k:Nat}(h:bZ B N γ σ a w)(hd:k<N)(hT:find cx.T t=some (.slice e))
  (hr:(σ.aA (nb+k) (.data (.slice e) ([]:List e.den)) 0 true fun aj σ=>.ret (σ.put k (.whole (nb+k) aj))).run=some σ') :
  jn P B N γ σ a w (some k) (Instr.buildSlice t 0 #[]) σ':=by
 obtain⟨cq,f1,f2,f3,f4⟩:=(hc.T _ _ hT).slice;obtain⟨ie,ze,e1,e2,e3,e4⟩:=f2.info;obtain⟨aj,aI,hr2⟩:=cv hr;obtain rfl:=ax hr2;have hrun:(Instr.buildSlice t 0 #[]).run P w=.ok (.slice (some ⟨w.heap.size,0,none⟩) 0 0) (w.alloc (.cells #[] cq)):=by
  simp[Instr.buildSlice,run_underlying f1,Go.sizeOf,typeInfo,zeroValue,e1,e3,newRow,Instr.fill];have hz:(Array.map (fun x:Nat=>(default:Value)) (Array.range 0))=#[]:=by simp[Array.range]
  rw[hz]
 obtain⟨n1,n2⟩:=h.ok.CV (w':=w.alloc (.cells #[] cq)) (b:=nb+k) (e:=e) (l:=([]:List e.den)) (tid:=0) (aj:=aj) (cap:=0) aI f4
  ((nD.refl _ _).alloc h.ok.base _) (cu w _) (heap_alloc_new w _) (rQ _ _) (.inl rfl) (kS _) (oZ _) (by simp) (fun i z hz=>by cases hz)
 refine⟨_,_,_,hrun,h.step n2 n1 hd ?_,n2⟩;exact⟨⟨_,rfl,rfl⟩,cZ (aU _ _) rfl ⟨e,0,rfl,rfl,.inr ⟨w.heap.size,0,by simp[bh],rfl⟩⟩⟩
end
end Go.Ge
namespace Go.Ge
open RowKit
section
variable {P:Program} {B:ld} {N:Nat} {γ:Gh} {σ σ':St} {a:Act} {w w':World} {d:Option Nat} {cx:Ctx}
theorem uv:(4294967296:Nat)≤maxLen:=by decide
theorem EE{n:Nat}(h:fits (n:Int)=true):n≤4294967296:=by simp[fits] at h;omega
theorem xL{cq:TypeId}{ie:TypeInfo}(hb:zw P cq=true)(hi:P.info? cq=some ie):ie.bytes≤32768:=by
 unfold zw at hb;rw[hi] at hb;exact ya hb
theorem pZ{mem:Nat→Option aY}{b cap blk:Nat}{bx:aY}{e:Ty}{n:Nat}(aW:bx.buf=true)(hrow:bx.row=some (e,n)) :
  bH (bh γ b (some (blk,cap))) (bS mem b bx) w' (.whole b bx.aj) .val [.slice (some ⟨blk,0,none⟩) n cap] :=
 ⟨⟨_,rfl,rfl⟩,cZ (aU _ _) rfl ⟨e,n,aW,hrow,.inr ⟨blk,cap,by simp[bh],rfl⟩⟩⟩
theorem yq(hc:eo P cx){t:TypeId}{nb k:Nat}{e:Ty}{x y:Operand}{kl kc:IntKind}{l c:Int}(h:bZ B N γ σ a w)(hd:k<N)(hT:find cx.T t=some (.slice e))
  (hx:bN σ x=.data (.int kl) l) (hy:bN σ y=.data (.int kc) c) (hin:inside 0 l c=true) (hf:fits c=true)
  (hr:(σ.aA (nb+k) (.data (.slice e) (CL l e.zero)) 0 true fun aj σ=>.ret (σ.put k (.whole (nb+k) aj))).run=some σ') :
  jn P B N γ σ a w (some k) (Instr.makeSlice t (a.eval x) (a.eval y)) σ':=by
 obtain⟨aj,aI,hr2⟩:=cv hr;obtain rfl:=ax hr2;obtain⟨_,h0,h1⟩:=iJ hin;have Ug:c≤4294967296:=by simpa [fits] using hf
 have Ry:=h.bN x;have Tp:=h.bN y;rw[hx] at Ry;rw[hy] at Tp;obtain⟨ex,_⟩:=mK Ry;obtain⟨ey,_⟩:=mK Tp;obtain⟨cq,f1,f2,f3,f4⟩:=(hc.T _ _ hT).slice;obtain⟨ie,ze,e1,e2,e3,e4⟩:=f2.info;have hb:=xL f3 e1;have hbytes:(ie.bytes:Int)*c≤281474976710656:=by
  have:(ie.bytes:Int)*c≤32768*c:=Int.mul_le_mul_of_nonneg_right (by omega) (by omega);omega
 have hrun:=run_make (P:=P) w t cq ie ze f1 e1 e3 kl kc l c h0 h1 hbytes (by omega);have hcells:(madeCells ze.cells (c.toNat*ie.size)).toList=dU (.arr c.toNat e):=by rw[e2];exact nT e4 f4 _
 have hlen:(CL l e.zero).length=l.toNat:=by simp[CL]
 obtain⟨m1,m2⟩:=h.ok.CV (w':=w.alloc (.cells (madeCells ze.cells (c.toNat*ie.size)) cq)) (b:=nb+k) (e:=e) (l:=CL l e.zero) (tid:=0) (aj:=aj) (cap:=c.toNat) aI f4
  ((nD.refl _ _).alloc h.ok.base _) (cu w _) (heap_alloc_new w _) (rQ _ _) (.inl rfl) (by rw[hlen];omega) (by have:=uv;omega)
  (by rw[e2];exact size_madeCells _ _) (fun i z hz=>by
   rw[hcells];have Kh:(List.replicate l.toNat e.zero)[i]?=some z:=hz;rw[Ky] at Kh;split at Kh
   ·rename_i hi;obtain rfl:e.zero=z:=by simpa using Kh
    have:=dm (dU e) c.toNat i (by omega);rw[dx] at this;rw[show dU (.arr c.toNat e)=(List.replicate c.toNat (dU e)).flatten from rfl,this];exact jN _ _ _
   ·cases Kh)
 refine⟨_,_,_,by rw[ex,ey];exact hrun,h.step m2 m1 hd ?_,m2⟩;have:=pZ (γ:=γ) (w':=w.alloc (.cells (madeCells ze.cells (c.toNat*ie.size)) cq)) (mem:=σ.mem) (b:=nb+k) (cap:=c.toNat) (blk:=w.heap.size)
  (bx:={ val:=.data (.slice e) (CL l e.zero),tid:=0,buf:=true,ro:=false,lk:=false,aj }) (e:=e) (n:=l.toNat) rfl (by rw[←hlen];rfl)
 exact this
theorem C3(b:UInt8):IntKind.u8.min≤((b.toNat:Int))∧((b.toNat:Int))≤IntKind.u8.max:=u8_in b
theorem C4(l:List Int):(⟨(aG l).toArray⟩:ByteArray)=strOfNums l:=rfl
theorem Jc{I:Nat→Nat→Prop}{l:List Int}{v:Value}{src dst e:TypeId}(h:rT w I (.int .u8) l v)(hs:P.underlying src=some (.slice e))(he:P.underlying e=some (.int .u8))(hd:P.underlying dst=some .string) :
  (convert src dst v).run P w=.ok (.string ⟨(aG l).toArray⟩) w∧l.length≤maxLen:=by
 rcases h with ⟨rfl,base,cap,r1,r2,r3⟩|⟨blk,off,cap,r1,r2,r3,r4⟩
 ·rcases r3 with rfl|⟨blk,off,rfl⟩
  ·rw[r1];refine⟨?_,oZ _⟩;cases base with
   | none=>exact run_convert_bytes_nil w src e hs he 0 0 dst hd
   | some ad =>
     rw[run_convert_bytes_string w src dst e _ _ _ hs he hd];have hl:(loadCells ad 0).run P w=.ok #[] w:=run_loadCells_list (P:=P) w ad [] (fun j v hv=>by cases hv);simp[Conv.bytesToString,Sem.run_bind,hl,aG];rfl
  ·rw[r1];refine⟨?_,oZ _⟩;exact run_convert_bytes_arg w src e hs he blk off 0 cap [] rfl (fun i hi=>by omega) dst hd
 ·rw[r1];refine⟨?_,jq r2 r3⟩;rw[C4];refine run_convert_bytes_arg w src e hs he blk off l.length cap l rfl (fun i hi=>?_) dst hd;obtain⟨es,g1,g2,g3⟩:=r4 i l[i] (qV hi);obtain⟨rfl,_⟩:=g3;have:=g2 0 _ rfl;simp only[Ty.size,F0,uf] at this;rw[this];simp[List.getD,qV hi]
theorem wS(l:List Int):(aG l).length=l.length:=by simp[aG]
theorem bytesRow_at{s:List UInt8}{cap i:Nat}{b:UInt8}(hb:s[i]?=some b):((bytesRow ⟨s.toArray⟩ cap).toList.drop (i*1)).take 1=[.int .u8 (b.toNat:Int)]:=by
 have hi:=(List.getElem?_eq_some_iff.1 hb).1;apply D6;intro j;rw[lU];split
 ·rename_i hj;obtain rfl:j=0:=by omega
  rw[rz];simp only[bytesRow,F0,uf,Kv,Kx];rw[M8 (by simpa using hi)];simp[hb]
 ·rename_i hj;rw[IG (by simp;omega)]
theorem Bi(s:ByteArray){cap:Nat}(h:s.size≤cap):(bytesRow s cap).size=cap:=by
 simp only[bytesRow,KK,Array.size_map,Array.size_replicate];have:s.data.size=s.size:=rfl;omega
theorem zL(hc:eo P cx){nb k:Nat}{src dst:TypeId}{x:Operand}{s:List UInt8}(h:bZ B N γ σ a w)(hd:k<N)(hs:find cx.T src=some .str)(hd':find cx.T dst=some (.slice (.int .u8)))
  (hx:bN σ x=.data .str s) (hr:(σ.aA (nb+k) (.data (.slice (.int .u8)) (ak s)) 0 true fun aj σ=>.ret (σ.put k (.whole (nb+k) aj))).run=some σ') :
  jn P B N γ σ a w (some k) (convert src dst (a.eval x)) σ':=by
 have hv:=h.bN x;rw[hx] at hv;obtain⟨ex,hl⟩:=o9 hv;obtain⟨aj,aI,fQ⟩:=cv hr;obtain rfl:=ax fQ;obtain⟨cq,f1,f2,f3,f4⟩:=(hc.T _ _ hd').slice;have hrun:=run_bytes_of_string (P:=P) w src dst cq ⟨s.toArray⟩ (hc.T _ _ hs).str f1 f2.int;have hsz:(⟨s.toArray⟩:ByteArray).size=s.length:=by simp[ByteArray.size]
 rw[hsz] at hrun;have hge:=grownCap_ge w s.length 0 cq;have hle:=grownCap_le_maxLen w s.length 0 cq hl;have hrs:=Bi ⟨s.toArray⟩ (cap:=grownCap w s.length 0 cq) (by rw[hsz];exact hge);have hlen:(ak s).length=s.length:=by simp[ak]
 generalize hcap:grownCap w s.length 0 cq=cap at *;obtain⟨m1,m2⟩:=h.ok.CV (b:=nb+k) (e:=.int .u8) (l:=(ak s:List Int)) (tid:=0) (aj:=aj) (cap:=cap)
  (w':=w.drew.alloc (.cells (bytesRow ⟨s.toArray⟩ cap) cq ((bytesRow ⟨s.toArray⟩ cap).size,(bytesRow ⟨s.toArray⟩ cap).size+1)))
  aI (by decide) ((nD.refl B w).drew.alloc h.ok.base _) (cu w.drew _) (heap_alloc_new w.drew _) ⟨fun o ho hh=>by omega,fun he=>by cases he⟩ (.inl rfl) (jq (CJ hlen) hge) hle
  (by rw[hrs];exact(F0 _).symm) (fun i z hz=>by
   have Kh:(ak s)[i]?=some z:=hz;simp only[ak,zb] at Kh;cases hb:s[i]? with
   | none=>rw[hb] at Kh;cases Kh
   | some b =>
     rw[hb] at Kh;obtain rfl:(b.toNat:Int)=z:=ax Kh;exact⟨bytesRow_at (cap:=cap) hb,C3 b⟩)
 refine⟨_,_,_,by rw[ex];exact hrun,h.step m2 m1 hd ?_,m2⟩;have:=pZ (γ:=γ) (mem:=σ.mem) (b:=nb+k) (cap:=cap) (blk:=w.heap.size)
  (bx:={ val:=.data (.slice (.int .u8)) (ak s),tid:=0,buf:=true,ro:=false,lk:=false,aj }) (e:=.int .u8) (n:=s.length)
  (w':=w.drew.alloc (.cells (bytesRow ⟨s.toArray⟩ cap) cq ((bytesRow ⟨s.toArray⟩ cap).size,(bytesRow ⟨s.toArray⟩ cap).size+1))) rfl (by rw[←hlen];rfl)
 exact this
theorem vo(hc:eo P cx){nb:Nat}{src dst:TypeId}{x:Operand}(h:bZ B N γ σ a w)(hd:∀k,d=some k→k<N)(hr:(eW cx nb d src dst (bN σ x) σ).run=some σ') :
  jn P B N γ σ a w d (convert src dst (a.eval x)) σ':=by
 have hv:=h.bN x;unfold eW at hr;split at hr
 ·rename_i ks k kx n hs hd' hx;rw[hx] at hv;obtain⟨ex,_⟩:=mK hv;obtain rfl:=ax hr;refine bk h hd (x:=.int k (k.wrap n)) ?_ (mkInt (dQ _ _));rw[ex];simp[convert,run_underlying (hc.T _ _ hs).int,run_underlying (hc.T _ _ hd').int,Conv.intToInt]
 ·rename_i s hs hd' hx;rw[hx] at hv;obtain rfl:=ax hr;obtain⟨ex,hl⟩:=o9 hv;refine bk h hd (x:=a.eval x) ?_ hv;rw[ex];simp[convert,run_underlying (hc.T _ _ hs).str,run_underlying (hc.T _ _ hd').str]
 ·rename_i s hs hd' hx;split at hr
  ·rename_i k;obtain⟨hf,hr2⟩:=bK hr;exact zL hc h (hd k rfl) hs hd' hx hr2
  ·exact absurd hr (by intro k;cases k)
 ·rename_i x0 hs hd';split at hr
  ·rename_i l hl;obtain rfl:=ax hr;obtain⟨cq,f1,f2,f3,f4⟩:=(hc.T _ _ hs).slice;obtain⟨r1,r2⟩:=Jc (dst:=dst) (lg h.ok hv hl) f1 f2.int (hc.T _ _ hd').str;refine bk h hd r1 ⟨_,⟨rfl,?_⟩,rfl⟩;exact jq (CJ (wS l)) r2
  ·exact absurd hr (by intro k;cases k)
 ·exact absurd hr (by intro k;cases k)
end
end Go.Ge
namespace Go.Ge
open RowKit
section
variable {P:Program} {B:ld} {N:Nat} {γ:Gh} {σ σ':St} {a:Act} {w w':World} {d:Option Nat} {cx:Ctx}
def ef(w:World)(I:Nat→Nat→Prop)(e:Ty)(l:List e.den)(cs:List Value):Prop :=
 ∀(i:Nat) (x:e.den),l[i]?=some x→bt w I e x ((cs.drop (i*e.size)).take e.size)
theorem je{α:Type}{a b:List α}{i s:Nat}(h:(i+1)*s≤a.length):((a++b).drop (i*s)).take s=(a.drop (i*s)).take s:=by
 rw[rF] at h;rw[Kp (by omega),O5 (by rw[ou];omega)]
theorem ef.append{I:Nat→Nat→Prop}{e:Ty}{l m:List e.den}{c1 c2 rest:List Value}(h1:ef w I e l c1)(h2:ef w I e m c2)(R7:c1.length=l.length*e.size)(FP:c2.length=m.length*e.size) :
  ef w I e (l++m) (c1++c2++rest):=by
 intro i x hx;rw[KG] at hx;split at hx
 ·rename_i hi;have hm:(i+1)*e.size≤l.length*e.size:=lT _ hi;rw[nH,je (by omega)];exact h1 i x hx
 ·rename_i hi;have hj:i-l.length<m.length:=(List.getElem?_eq_some_iff.1 hx).1;have hm:(i-l.length+1)*e.size≤m.length*e.size:=lT _ hj;have e1:i*e.size=c1.length+(i-l.length)*e.size:=by rw[R7,←qn];congr 1;omega
  rw[nH,e1,←qm,ue,je (by omega)];exact h2 _ x hx
theorem ef.front{I:Nat→Nat→Prop}{e:Ty}{l:List e.den}{cs:List Value}{n:Nat}(h:ef w I e l cs)(hn:l.length*e.size≤n)(hc:n≤cs.length):ef w I e l (cs.take n):=by
 intro i x hx;have hi:i<l.length:=(List.getElem?_eq_some_iff.1 hx).1;have hm:(i+1)*e.size≤l.length*e.size:=lT _ hi;have:(((cs.take n)++cs.drop n).drop (i*e.size)).take e.size=((cs.take n).drop (i*e.size)).take e.size:=je (by rw[iA];omega);rw[←this,A6];exact h i x hx
theorem Nx{I:Nat→Nat→Prop}{e:Ty}{m:List e.den}{v:Value}{tx t0 e':TypeId}(ON:(∃e',P.underlying tx=some (.slice e'))∨P.underlying tx=some .string)(hk:P.underlying t0=some (.slice e'))(h:rT w I e m v) :
  ∃news,Src P e.size tx v m.length news w∧ef w I e m news:=by
 suffices ∃news,Src P e.size t0 v m.length news w∧ef w I e m news by
  obtain⟨news,n1,n2⟩:=this;exact⟨news,⟨ON,n1.len,n1.cells,n1.cellsD,n1.newsLen,n1.one⟩,n2⟩
 rcases h with ⟨rfl,base,cap,r1,r2,r3⟩|⟨blk,off,cap,r1,r2,r3,r4⟩
 ·refine⟨[],?_,fun i x hx=>by cases hx⟩;rcases r3 with rfl|⟨blk,off,rfl⟩
  ·rw[r1];cases base with
   | none=>exact Src.ofNil w hk 0
   | some ad=>exact Src.ofSlice w hk ad 0 0 [] (by simp) (fun j u hj=>by cases hj) (fun u hu=>by cases hu)
  ·rw[r1];exact Src.ofSlice w hk _ 0 cap [] (by simp) (fun j u hj=>by cases hj) (fun u hu=>by cases hu)
 ·obtain⟨news,n1,n2,n3,n4⟩:=zI (w:=w) r4;refine⟨news,?_,n4⟩;rw[r1];exact Src.ofSlice w hk _ m.length cap news n1 (fun j u hj=>by rw[addr_add];exact n2 j u hj) n3
theorem Ny{I:Nat→Nat→Prop}{s:List UInt8}{tx:TypeId}(hk:(∃e',P.underlying tx=some (.slice e'))∨P.underlying tx=some .string) :
  ∃news,Src P 1 tx (.string ⟨s.toArray⟩) (ak s).length news w∧ef w I (.int .u8) (ak s:List Int) news:=by
 have hlen:(ak s).length=(⟨s.toArray⟩:ByteArray).size:=by simp[ak,ByteArray.size]
 refine⟨byteCells ⟨s.toArray⟩,by rw[hlen];exact⟨hk,fun _=>rfl,firstCells_string _ w,firstCells_string _ w.drew,by rw[byteCells_length,F0],fun u hu=>by
  obtain⟨_,_,rfl⟩:=List.mem_map.1 hu;rfl⟩,fun i x hx=>?_⟩
 have hx':(ak s)[i]?=some x:=hx;simp only[ak,zb] at hx';cases hb:s[i]? with
 | none=>rw[hb] at hx';cases hx'
 | some b =>
   rw[hb] at hx';obtain rfl:(b.toNat:Int)=x:=ax hx';refine⟨?_,C3 b⟩;apply D6;intro j;rw[lU];split
   ·rename_i hj;obtain rfl:j=0:=by simp[Ty.size] at hj;exact hj
    rw[rz];simp[byteCells,Ty.size,hb]
   ·rename_i hj;rw[IG (by simp[Ty.size] at hj⊢;omega)]
theorem zM{I:Nat→Nat→Prop}{t tx ty cq:TypeId}{e:Ty}{l m:List e.den}{base:Option Addr}{sCap:Nat}{olds news:List Value}{x:Value}(ht:P.underlying t=some (.slice cq))(he:Den P e cq)(hb:zw P cq=true)
  (hold:(Builtin.firstCells e.size l.length (.slice base l.length sCap)).run P w.drew=.ok olds.toArray w.drew) (hol:olds.length=l.length*e.size) (ho:ef w I e l olds)
  (hs:Src P e.size tx x m.length news w) (hn:ef w I e m news) (hg:sCap<l.length+m.length) (hf:l.length+m.length≤4294967296) :
  ∃(cap:Nat) (cells:Array Value),(Builtin.append_ #[t,tx] ty #[.slice base l.length sCap,x]).run P w=.ok (.slice (some ⟨w.heap.size,0,none⟩) (l.length+m.length) cap) (w.drew.alloc (.cells cells cq)) ∧
   l.length+m.length≤cap∧cap≤maxLen∧cells.size=cap*e.size∧ef w I e (l++m) cells.toList:=by
 obtain⟨ie,ze,e1,e2,e3,e4⟩:=he.info;have hby:=xL hb e1;have hfit:=growslice_fits (need:=l.length+m.length) (old:=sCap) (bytes:=ie.bytes) hg (by
  have:(l.length+m.length)*ie.bytes≤4294967296*32768:=Nat.mul_le_mul hf hby;omega)
 have hrun:=run_append_grow_src (P:=P) w t tx ty cq ie ze ht e1 e3 base l.length sCap olds (by rw[e2];exact hold) x m.length news (by rw[e2];exact hs) hg (by omega) hfit;have hge:=grownCap_ge w (l.length+m.length) sCap cq;have hle:=grownCap_le_maxLen w (l.length+m.length) sCap cq (by have:=uv;omega);have hzl:ze.cells.size=e.size:=by rw[←dx e,←e4];simp
 refine⟨_,_,hrun,hge,hle,?_,?_⟩
 ·have Qh:=hs.newsLen;have hsz:(Builtin.zeroCells ze.cells (grownCap w (l.length+m.length) sCap cq-(l.length+m.length))).size=(grownCap w (l.length+m.length) sCap cq-(l.length+m.length))*e.size:=by
   simp[Builtin.zeroCells,hzl]
  rw[KK,hsz];simp only[KJ,pM,hol,Qh];rw[←qn,←qn]
  congr 1;omega
 ·rw[Kv];exact ho.append hn hol hs.newsLen
theorem aV.grow{mem:Nat→Option aY}(h:aV B γ mem w){b:Nat}{bx:aY}(hb:mem b=some bx){e:Ty}{l l':List e.den}(aW:bx.buf=true)(hval:bx.val=.data (.slice e) l){blk cap:Nat}(hl:γ.loc b=some (blk,cap))
  {cur cur':Array Value} {t:TypeId} {fr:Nat×Nat} (hg:w.heap[blk]?=some (.cells cur t fr)) (Kb:MY e cur fr) (ez:bx.tid=0∨t=bx.tid) (hs:cur'.size=cur.size) (hsame:∀o,o<l.length*e.size→cur'[o]?=cur[o]?)
  (he:0<e.size) (hle:l.length≤l'.length) (hcap:l'.length≤cap) (hmax:cap≤maxLen) (hsz:cur.size=cap*e.size) (hel:ef w γ.I e l' cur'.toList) :
  let fM:aY:={ bx with val:=.data (.slice e) l',aj:=bx.aj+1 }
  aV B γ (bS mem b fM) (w.setRow blk cur')∧Ext B γ mem w γ (bS mem b fM) (w.setRow blk cur'):=by
 intro fM;have hf:=h.fresh b blk cap (by rw[hb];simp) hl;have I4:=setRow_heap w blk cur cur' t fr hg;have o8:∀i,i≠blk→(w.setRow blk cur').heap[i]?=w.heap[i]?:=fun i hi=>setRow_other w blk i cur' (fun e=>hi e);have hrow:=aY.b7 aW hval;have hx:Ext B γ mem w γ (bS mem b fM) (w.setRow blk cur') :=
  { below:=⟨rfl,rfl,rfl,by simp,fun i hi=>o8 i (fun e=>hi (by rw[e];exact hf.1))⟩
    I:=fun _ _ x=>x
    mX:=fun _ _ x=>.inl x
    cells:=fun c o x=>by
     by_cases e':c=blk
     ·subst e';have:=(h.sep b bx c cap o hb hl x).2 aW e l.length hrow;rw[cell_of_heap I4,cell_of_heap hg];exact hsame o this
     ·exact ep (o8 c e')
    boxes:=fun c cx hc=>by
     by_cases e':c=b
     ·subst e';obtain rfl:cx=bx:=ax (hc.symm.trans hb);exact⟨fM,aU _ _,Nat.le_succ _,fun k=>absurd k (by simp[fM])⟩
     ·exact⟨cx,by rw[aB _ e'];exact hc,kS _,fun _=>⟨rfl,rfl,rfl⟩⟩ }
 refine⟨?_,hx⟩;exact
  { bG:=h.va hx
    base:=by have:=h.base;simpa using this
    boxes:=fun c cx hc=>by
     by_cases e':c=b
     ·subst e';rw[aU] at hc;obtain rfl:=ax hc;unfold bQ;simp only[fM,aW];exact⟨e,l',rfl,he,.inr ⟨blk,cap,cur',t,fr,hl,I4,Kb.same hs,ez,hcap,hmax,by rw[hs];exact hsz,fun i x hi=>bt.mono hx.I hx.cells (hel i x hi)⟩⟩
     ·rw[aB _ e'] at hc;refine(h.boxes c cx hc).keep hx rfl fun cB k' hl'=>o8 cB fun e2=>e' ?_;subst e2;exact h.inj c b cB k' cap (by rw[hc];simp) (by rw[hb];simp) hl' hl
    inj:=fun c d cB k1 k2 hc hd h1 h2=>h.inj c d cB k1 k2 (by
     by_cases e:c=b
     ·subst e;rw[hb];simp
     ·rwa [aB _ e] at hc) (by
     by_cases e:d=b
     ·subst e;rw[hb];simp
     ·rwa [aB _ e] at hd) h1 h2
    fresh:=fun c cB k' hc h1=>by
     have:=h.fresh c cB k' (by
      by_cases e:c=b
      ·subst e;rw[hb];simp
      ·rwa [aB _ e] at hc) h1
     exact⟨this.1,by simpa using this.2⟩
    mW:=fun cB off hi=>by have:=h.mW cB off hi;simpa using this
    sep:=fun c cx cB k' off hc h1 hi=>by
     by_cases e':c=b
     ·subst e';rw[aU] at hc;obtain rfl:=ax hc;obtain⟨s1,s2⟩:=h.sep c bx cB k' off hb h1 hi;refine⟨s1,fun _ u n hr=>?_⟩;have hr2:fM.row=some (e,l'.length):=aY.b7 (bx:=fM) aW rfl;rw[hr2] at hr;obtain⟨rfl,rfl⟩:=cr (ax hr);have:=s2 aW e l.length hrow;exact ud this (lT _ hle)
     ·rw[aB _ e'] at hc;exact h.sep c cx cB k' off hc h1 hi }
theorem Lg(hm:aV B γ σ.mem w){e:Ty}{m:List e.den}{x:ay}{v:Value}{tx t0 e':TypeId}(ON:(∃e',P.underlying tx=some (.slice e'))∨P.underlying tx=some .string)(hk:P.underlying t0=some (.slice e'))
  (hv:bH γ σ.mem w x .val [v]) (h:nK e σ x=some m):∃news,Src P e.size tx v m.length news w∧ef w γ.I e m news:=by
 unfold nK at h;split at h
 ·rename_i t;obtain⟨q,hq⟩:=gA h;subst q;subst hq;obtain⟨ev,_⟩:=o9 hv;rw[ev];exact Ny ON
 ·exact Nx ON hk (lg hm hv h)
theorem qC{α:Type}{c:Bool}{t:Tree α}{y:α}(h:(bif c then .fail else t).run=some y):c=false∧t.run=some y:=by
 cases c with
 | true=>cases h
 | false=>exact⟨rfl,h⟩
theorem kg{base:Option Addr}{t tx ty cq:TypeId}{size:Nat}{x:Value}{news:List Value}(ht:P.underlying t=some (.slice cq))(hsz:(Go.sizeOf cq).run P w=.ok size w)(hs:Src P size tx x 0 news w) :
  (Builtin.append_ #[t,tx] ty #[.slice base 0 0,x]).run P w=.ok (.slice base 0 0) w:=by
 cases base with
 | none=>rcases hs.kind with ⟨e',hk⟩|hk<;>simp[Builtin.append_,run_underlying ht,run_underlying hk,hsz,hs.len,hs.cells]
 | some ad =>
   have hn:news=[]:=by have:=hs.newsLen;simpa using this
   subst hn;rcases hs.kind with ⟨e',hk⟩|hk<;>simp[Builtin.append_,run_underlying ht,run_underlying hk,hsz,hs.len,hs.cells,storeCells]
theorem tj(size:Nat)(base:Option Addr):(Builtin.firstCells size 0 (.slice base 0 0)).run P w=.ok #[] w:=by
 cases base with
 | none=>exact run_firstCells_none w size 0 0 0
 | some ad=>exact run_firstCells_some w size 0 ad 0 0 [] (by simp) (fun j v hj=>by cases hj)
theorem qD{t tx ty cq:TypeId}{size:Nat}{x:Value}{news:List Value}{n sLen sCap blk:Nat}{cur:Array Value}{tt:TypeId}{fr:Nat×Nat}(ht:P.underlying t=some (.slice cq))(hsz:(Go.sizeOf cq).run P w=.ok size w)
  (hs:Src P size tx x n news w) (hg:w.heap[blk]?=some (.cells cur tt fr)) (Kb:jm cur fr) (hroom:sLen+n≤sCap) (hle:sLen*size+news.length≤cur.size) :
  (Builtin.append_ #[t,tx] ty #[.slice (some ⟨blk,0,none⟩) sLen sCap,x]).run P w=.ok (.slice (some ⟨blk,0,none⟩) (sLen+n) sCap) (w.setRow blk (splice cur.toList (sLen*size) news).toArray):=by
 have hst:=cN (P:=P) blk (sLen*size) tt fr news 0 cur w hg Kb (by omega) hs.one;simp only[uf] at hst;rcases hs.kind with ⟨e',hk⟩|hk<;>simp[Builtin.append_,run_underlying ht,run_underlying hk,hsz,hs.len,hroom,hs.cells,addr_add,hst]
theorem uw{cs es:List Value}{k o:Nat}(h:o<k)(hk:k≤cs.length):(splice cs k es)[o]?=cs[o]?:=by
 rw[splice,nH,M8 (by rw[iA];omega),lU,ek h]
theorem wT(hc:eo P cx){nb:Nat}{t tx ty:TypeId}{s x:Operand}(h:bZ B N γ σ a w)(hd:∀k,d=some k→k<N)(ON:(∃e',P.underlying tx=some (.slice e'))∨P.underlying tx=some .string)
  (hr:(fh cx nb d t (bN σ s) (bN σ x) σ).run=some σ'):jn P B N γ σ a w d (Builtin.append_ #[t,tx] ty #[a.eval s,a.eval x]) σ':=by
 have hvs:=h.bN s;have Ry:=h.bN x;unfold fh at hr;split at hr
 case h_2=>exact absurd hr (by intro k;cases k)
 rename_i _ _ k e hT;obtain⟨cq,f1,f2,f3,f4⟩:=(hc.T _ _ hT).slice;have hsz:=f2.sizeOf w;split at hr
 case h_2=>exact absurd hr (by intro k;cases k)
 rename_i m hm;have hm:nK e σ (bN σ x)=some m:=hm;obtain⟨news,n1,n2⟩:=Lg h.ok ON f1 Ry hm;split at hr
 ·rename_i hs;rw[hs] at hvs;obtain MZ:a.eval s=_:=by simpa [bH] using hvs
  obtain⟨hf,hr2⟩:=bK hr;have hf:m.length≤4294967296:=EE hf;obtain⟨aj,aI,fQ⟩:=cv hr2;obtain rfl:=ax fQ;rw[MZ];rcases Kw m.length with h0|h0
  ·obtain rfl:m=[]:=List.length_eq_zero_iff.1 h0;obtain⟨m1,m2⟩:=h.ok.zC (b:=nb+k) (tid:=0) aI f4;refine⟨_,_,_,kg f1 hsz n1,h.step m2 m1 (hd k rfl) ?_,m2⟩;exact⟨⟨_,rfl,rfl⟩,cZ (aU _ _) rfl ⟨e,0,rfl,rfl,.inl ⟨by simp[bh],rfl⟩⟩⟩
  ·obtain⟨cap,cells,g1,g2,g3,g4,g5⟩:=zM (I:=γ.I) (ty:=ty) (l:=([]:List e.den)) (base:=none) (sCap:=0) (olds:=[]) f1 f2 f3 (by simpa using run_firstCells_none w.drew e.size 0 0 0) (by simp) (fun i x hx=>by cases hx) n1 n2
    (by simpa using h0) (by simpa using hf)
   simp only[oX,oY,CG] at g1 g2 g5;obtain⟨m1,m2⟩:=h.ok.CV (b:=nb+k) (e:=e) (l:=m) (tid:=0) (aj:=aj) (cap:=cap) aI f4 ((nD.refl B w).drew.alloc h.ok.base _) (cu w.drew _) (heap_alloc_new w.drew _) (rQ _ _) (.inl rfl) g2 g3 g4 g5;refine⟨_,_,_,g1,h.step m2 m1 (hd k rfl) ?_,m2⟩;exact pZ (bx:={ val:=.data (.slice e) m,tid:=0,buf:=true,ro:=false,lk:=false,aj }) (e:=e) (n:=m.length) rfl rfl
 ·rename_i b aj hs;rw[hs] at hvs;split at hr
  case h_2=>exact absurd hr (by intro k;cases k)
  rename_i bx l hb hl;obtain⟨fM,hb',aI,aW,iZ⟩:∃bx,σ.mem b=some bx∧bx.aj=aj∧bx.buf=true∧bx.val=.data (.slice e) l:=by
   rcases iK hl with q|⟨q,_⟩|⟨b',Ew,fM,q,h1,h2,h3,h4⟩|⟨_,_,_,_,_,q,_⟩
   ·cases q
   ·cases q
   ·cases q;exact⟨fM,h1,h2,h3,h4⟩
   ·cases q
  obtain rfl:bx=fM:=ax (hb.symm.trans hb')
  ·obtain⟨hlk,gE⟩:=qC hr;obtain⟨hf,hr2⟩:=bK gE;obtain rfl:=ax hr2;have hf:l.length+m.length≤4294967296:=by
    have:fits (((l.length+m.length:Nat)):Int)=true:=by rw[←hf];simp[plus,len]
    exact EE this
   have ez:bx.tid=0∨cq=bx.tid:=by
    simp only[A7,Bool.not_eq_false'] at hlk;have h2:=hlk.2;unfold O8 at h2;simp only[zd] at h2;rcases h2 with h2|h2
    ·exact .inl (dz h2)
    ·split at h2
     ·rename_i e' he';have:=hc.els _ _ he';rw[f1] at this;have h4:cq=e':=by injection this with this;injection this
      exact .inr (h4.trans (dz h2))
     ·cases h2
   subst aI;obtain⟨e2,Vz,g1,g2,g3⟩:=aJ hb rfl hvs.2;rw[aY.b7 aW iZ] at g2;obtain⟨rfl,rfl⟩:=cr (ax g2);have gi:=h.ok.boxes b bx hb;rw[bQ,aW] at gi;obtain⟨e3,l3,q1,q2,q3⟩:=gi;rw[iZ] at q1;cases q1;have Gm:(app (α:=e.den) l m).length=l.length+m.length:=pM;rcases g3 with ⟨g3,g4⟩|⟨blk,cap,g3,g4⟩
   ·obtain MZ:a.eval s=_:=by simpa using g4
    have Kf:l=[]:=by
     rcases q3 with ⟨_,q3⟩|⟨blk,cap,cur,tid,fr,q3,_⟩
     ·exact q3
     ·rw[g3] at q3;cases q3
    subst Kf;rw[MZ];rcases Kw m.length with h0|h0
    ·obtain rfl:m=[]:=List.length_eq_zero_iff.1 h0;have jW:bQ (bh γ b none) (bS σ.mem b { bx with val:=.data (.slice e) ([]:List e.den),aj:=bx.aj+1 }) w b { bx with val:=.data (.slice e) ([]:List e.den),aj:=bx.aj+1 }:=by
      unfold bQ;simp only[aW];exact⟨e,[],rfl,f4,.inl ⟨by simp[bh],rfl⟩⟩
     have Ki:∀cc,σ.mem b=some cc→cc.aj<bx.aj+1:=fun cc h0=>by rw[hb] at h0;obtain rfl:=ax h0;omega
     have m1:=h.ok.add (L:=none) Ki (nD.refl B w) (fun _ _=>rfl) (fun blk k e=>by cases e) jW;have m2:=mY (L:=none) h.ok (bx:={ bx with val:=.data (.slice e) ([]:List e.den),aj:=bx.aj+1 }) Ki (nD.refl B w) (fun _ _=>rfl);refine⟨_,_,_,kg f1 hsz n1,h.step m2 m1 (hd k rfl) ?_,m2⟩;exact⟨⟨_,rfl,rfl⟩,cZ (aU _ _) rfl ⟨e,0,aW,aY.b7 (bx:={ bx with val:=.data (.slice e) ([]:List e.den),aj:=bx.aj+1 }) aW rfl,.inl ⟨by simp[bh],rfl⟩⟩⟩
    ·obtain⟨cap,cells,j1,j2,j3,j4,j5⟩:=zM (I:=γ.I) (ty:=ty) (l:=([]:List e.den)) (base:=none) (sCap:=0) (olds:=[]) f1 f2 f3 (by simpa using tj (w:=w.drew) e.size none) (by simp) (fun i x hx=>by cases hx) n1 n2
      (by simpa using h0) (by simpa using hf)
     have Ki:∀cc,σ.mem b=some cc→cc.aj<bx.aj+1:=fun cc h0=>by rw[hb] at h0;obtain rfl:=ax h0;omega
     have hw:nD B w (w.drew.alloc (.cells cells cq)):=(nD.refl B w).drew.alloc h.ok.base _;have m2:=mY (L:=some (w.heap.size,cap)) h.ok (bx:={ bx with val:=.data (.slice e) (app (α:=e.den) [] m),aj:=bx.aj+1 }) Ki hw (cu w.drew _);have jW:bQ (bh γ b (some (w.heap.size,cap))) (bS σ.mem b { bx with val:=.data (.slice e) (app (α:=e.den) [] m),aj:=bx.aj+1 }) (w.drew.alloc (.cells cells cq)) b { bx with val:=.data (.slice e) (app (α:=e.den) [] m),aj:=bx.aj+1 }:=by
      unfold bQ;simp only[aW];exact⟨e,_,rfl,f4,.inr ⟨w.heap.size,cap,cells,cq,(0,0),by simp[bh],heap_alloc_new w.drew _,rQ _ _,ez,by rw[Gm];exact j2,j3,j4,fun i x hi=>bt.mono m2.I m2.cells (j5 i x hi)⟩⟩
     have m1:=h.ok.add (L:=some (w.heap.size,cap)) Ki hw (cu w.drew _) (fun blk k e=>by obtain⟨rfl,rfl⟩:=cr (ax e);exact⟨kS _,(Array.getElem?_eq_some_iff.1 (heap_alloc_new w.drew _)).1⟩) jW;refine⟨_,_,_,j1,h.step m2 m1 (hd k rfl) ?_,m2⟩;exact pZ (bx:={ bx with val:=.data (.slice e) (app (α:=e.den) [] m),aj:=bx.aj+1 }) (e:=e) (n:=List.length (α:=e.den) []+m.length) aW (by rw[←Gm];exact aY.b7 (bx:={ bx with val:=.data (.slice e) (app (α:=e.den) [] m),aj:=bx.aj+1 }) aW rfl)
   ·obtain MZ:a.eval s=_:=by simpa using g4
    rw[MZ];rcases q3 with ⟨q3,_⟩|⟨cB,cap',cur,tid,fr,q3,q4,q5,QG,q6,q7,q8,q9⟩
    ·rw[g3] at q3;cases q3
    rw[g3] at q3;obtain⟨rfl,rfl⟩:=cr (ax q3);have hcl:cur.toList.length=cap*e.size:=by simpa using q8
    have hlc:l.length*e.size≤cap*e.size:=lT _ q6;rcases wC cap (l.length+m.length) with hgt|hle
    ·have Uh:=run_firstCells_some (P:=P) w.drew e.size l.length ⟨blk,0,none⟩ l.length cap (cur.toList.take (l.length*e.size)) (by rw[iA];omega) (fun j v hj=>by
      rw[addr_add];show w.cell? ⟨blk,0+j,none⟩=some v
      rw[cell_of_heap q4];rw[lU] at hj;split at hj
      ·simpa using hj
      ·cases hj)
     obtain⟨cap2,cells,j1,j2,j3,j4,j5⟩:=zM (I:=γ.I) (ty:=ty) (l:=l) (base:=some ⟨blk,0,none⟩) (sCap:=cap) f1 f2 f3 Uh (by rw[iA];omega) (ef.front q9 (kS _) (by omega)) n1 n2 hgt hf;have Ki:∀cc,σ.mem b=some cc→cc.aj<bx.aj+1:=fun cc h0=>by rw[hb] at h0;obtain rfl:=ax h0;omega
     have hw:nD B w (w.drew.alloc (.cells cells cq)):=(nD.refl B w).drew.alloc h.ok.base _;have m2:=mY (L:=some (w.heap.size,cap2)) h.ok (bx:={ bx with val:=.data (.slice e) (app (α:=e.den) l m),aj:=bx.aj+1 }) Ki hw (cu w.drew _);have jW:bQ (bh γ b (some (w.heap.size,cap2))) (bS σ.mem b { bx with val:=.data (.slice e) (app (α:=e.den) l m),aj:=bx.aj+1 }) (w.drew.alloc (.cells cells cq)) b { bx with val:=.data (.slice e) (app (α:=e.den) l m),aj:=bx.aj+1 }:=by
      unfold bQ;simp only[aW];exact⟨e,_,rfl,f4,.inr ⟨w.heap.size,cap2,cells,cq,(0,0),by simp[bh],heap_alloc_new w.drew _,rQ _ _,ez,by rw[Gm];exact j2,j3,j4,fun i x hi=>bt.mono m2.I m2.cells (j5 i x hi)⟩⟩
     have m1:=h.ok.add (L:=some (w.heap.size,cap2)) Ki hw (cu w.drew _) (fun blk k e=>by obtain⟨rfl,rfl⟩:=cr (ax e);exact⟨kS _,(Array.getElem?_eq_some_iff.1 (heap_alloc_new w.drew _)).1⟩) jW;refine⟨_,_,_,j1,h.step m2 m1 (hd k rfl) ?_,m2⟩;exact pZ (bx:={ bx with val:=.data (.slice e) (app (α:=e.den) l m),aj:=bx.aj+1 }) (e:=e) (n:=l.length+m.length) aW (by rw[←Gm];exact aY.b7 (bx:={ bx with val:=.data (.slice e) (app (α:=e.den) l m),aj:=bx.aj+1 }) aW rfl)
    ·have Qh:=n1.newsLen;have hmul:(l.length+m.length)*e.size≤cap*e.size:=lT _ hle;rw[qn] at hmul;have hlen:l.length*e.size+news.length≤cur.toList.length:=by rw[Qh,hcl];exact hmul
     have hrun:=qD (P:=P) (t:=t) (tx:=tx) (ty:=ty) (sCap:=cap) f1 hsz n1 q4 q5.th hle (by simpa using hlen);have Ld:(splice cur.toList (l.length*e.size) news).toArray.size=cur.size:=by have:=b5 hlen;simpa using this
     obtain⟨m1,m2⟩:=h.ok.grow hb aW iZ g3 q4 q5 QG (cur':=(splice cur.toList (l.length*e.size) news).toArray) (l':=app (α:=e.den) l m) Ld (fun o ho=>by
      have:=uw (es:=news) ho (by omega:l.length*e.size≤cur.toList.length);simpa using this) f4 (by rw[Gm];omega) (by rw[Gm];exact hle) q7 q8 (by
      have:=(ef.front q9 (kS _) (by omega:l.length*e.size≤cur.toList.length)).append (rest:=cur.toList.drop (l.length*e.size+news.length)) n2 (by rw[iA];omega) Qh;exact this)
     refine⟨_,_,γ,hrun,h.step m2 m1 (hd k rfl) ?_,m2⟩;exact⟨⟨_,rfl,rfl⟩,cZ (aU _ _) rfl ⟨e,l.length+m.length,aW,by rw[←Gm];exact aY.b7 (bx:={ bx with val:=.data (.slice e) (app (α:=e.den) l m),aj:=bx.aj+1 }) aW rfl,.inr ⟨blk,cap,g3,rfl⟩⟩⟩
 ·exact absurd hr (by intro k;cases k)
end
end Go.Ge
