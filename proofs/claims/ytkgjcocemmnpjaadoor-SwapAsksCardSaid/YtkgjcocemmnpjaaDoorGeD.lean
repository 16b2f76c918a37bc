/- A ghost interpreter of the model's code, and that it tells the truth: part 4. It says of a function of plain data what a call of it comes to. -/
import Derived.Test.YtkgjcocemmnpjaaDoorGeC
import Derived.Great.BuildSlice
import Derived.Laws.IdiomStrings
import Derived.Laws.BytesArg
import Derived.Laws.MakeOwn
import Derived.Deep.AppendSrc
set_option linter.unusedVariables false
set_option linter.unusedSimpArgs false
set_option linter.unusedSectionVars false
namespace Go.Ge
open RowKit
section
variable {P:Program} {B:iy} {N:Nat} {γ:Gh} {σ σ':St} {a:Act} {w:World} {d:Option Nat} {cx:Ctx}
theorem Ae{bx:aR}{k:Nat}{c v:au}{f:au→Tree au}(hb:bx.buf=false)(hv:bx.val=v)(h:(ql v k f).run=some c):({ bx with val:=c }:aR).row=bx.row:=by
 obtain⟨val,tid,buf,ro,lk,ag⟩:=bx;subst hb;subst hv;cases val with
 | data t x =>
   obtain⟨y,h1,h2⟩:=bind_some (show((sA t x k f).bind fun y=>.ret (.data t y)).run=some c from h);obtain rfl:=aq h2;cases t with
   | arr n e=>cases k<;>exact absurd h1 (by intro k;cases k)
   | _=>rfl
 | mix p q =>
   cases k with
   | zero =>
     obtain⟨y,h1,h2⟩:=bind_some (show((f p).bind fun v=>.ret (.mix v q)).run=some c from h);obtain rfl:=aq h2;rfl
   | succ k =>
     obtain⟨y,h1,h2⟩:=bind_some (show((ql q k f).bind fun v=>.ret (.mix p v)).run=some c from h);obtain rfl:=aq h2;rfl
 | _=>exact absurd h (by intro k;cases k)
theorem Fb{bx:aR}{e:Ty}{l:List e.den}{i:Int}{y:e.den}(hb:bx.buf=true)(hv:bx.val=.data (.slice e) l):({ bx with val:=.data (.slice e) (x5 l i y) }:aR).row=bx.row:=by
 rw[aR.bQ hb hv,aR.bQ (bx:={ bx with val:=.data (.slice e) (x5 l i y) }) (l:=x5 l i y) hb rfl];simp[x5]
theorem ri{bx:aR}{p:List oz}{v c:au}(h:(sB bx.buf p bx.val v).run=some c)(h0:p=[]→bx.buf=false→({ bx with val:=v }:aR).row=bx.row) :
  ({ bx with val:=c }:aR).row=bx.row:=by
 unfold sB at h;split at h
 ·rename_i aQ;cases p with
  | nil=>obtain rfl:=aq h;exact h0 rfl aQ
  | cons s p =>
    cases s with
    | wK k off=>exact Ae aQ rfl h
    | idx i size =>
      simp only[kG] at h;split at h
      ·rename_i n e l hv;obtain⟨x,hx,h2⟩:=bg h;obtain⟨z,hz,h3⟩:=bind_some h2;split at h3
       ·obtain rfl:=aq h3;rw[aR.gU aQ hv];exact aR.gU (bx:={ bx with val:=_ }) aQ rfl
       ·exact absurd h3 (by intro k;cases k)
      ·exact absurd h (by intro k;cases k)
 ·rename_i aQ;split at h
  ·rename_i i size p e l hv;obtain⟨x,hx,h2⟩:=bg h;obtain⟨z,hz,h3⟩:=bind_some h2;split at h3
   ·obtain rfl:=aq h3;exact Fb aQ hv
   ·exact absurd h3 (by intro k;cases k)
  ·exact absurd h (by intro k;cases k)
theorem nZ(h:bP B N γ σ a w){b ag:Nat}{p:List oz}{fit:au→Bool}{u:au}{es:List Value}(hr:(storeAt b ag p fit u σ).run=some σ')(hu:br γ σ.mem w u .cells es)
  (hlen:∀old,fit old=true→es.length=bL old) (hrow:∀bx:aR,fit bx.val=true→bx.buf=false→({ bx with val:=u }:aR).row=bx.row)
  {blk cap:Nat} (hl:γ.loc b=some (blk,cap)) :
  ∃w',(storeCells ⟨blk,bC p,none⟩ es).run P w=.ok () w'∧bP B N γ σ' a w'∧Ext B γ σ.mem w γ σ'.mem w':=by
 unfold storeAt at hr;split at hr
 case h_2=>exact absurd hr (by intro k;cases k)
 rename_i bx hb;obtain⟨hc,hr2⟩:=ah hr;simp only[cA,ny] at hc;obtain⟨⟨aE,hlk⟩,hro⟩:=hc;obtain⟨old,hn,eu⟩:=bind_some hr2;obtain⟨hfit,fS⟩:=ah eu;obtain⟨c,hs,u7⟩:=bind_some fS;obtain rfl:=aq u7;have hel:=hlen old hfit;have hrw:({ bx with val:=c }:aR).row=bx.row:=ri hs fun hp aQ=>by
  subst hp;rw[aQ] at hn;obtain rfl:=aq hn;exact hrow bx hfit aQ
 have eH:=h.ok.boxes b bx hb;unfold bB at eH;unfold BU at hn;unfold sB at hs;have KT:bx.buf=false∨bx.buf=true:=by cases bx.buf<;>simp
 rcases KT with aQ|aQ
 ·rw[aQ] at eH hn hs;obtain⟨b7,cap',cur,tid,fr,h1,h2,h3,de,h4⟩:=eH;rw[hl] at h1;obtain⟨rfl,rfl⟩:=bY (aq h1);obtain⟨k1,k2⟩:=jW h4 hn;have Gq:bC p+es.length≤cur.toList.length:=by rw[hel];exact k1
  have hst:=cm (P:=P) blk (bC p) tid fr es 0 cur w h2 h3 (by simpa using Gq) (fun v hv=>hu.one v hv);rw[ow] at hst;have hsz:(splice cur.toList (bC p) es).toArray.size=cur.size:=by have:=bM Gq;simpa using this
  obtain⟨m1,m2⟩:=h.ok.write hb hro hl h2 (cur':=(splice cur.toList (bC p) es).toArray) (v:=c) hsz hrw
   (fun w' mem' hx hg=>by
    show bB γ mem' w' b { bx with val:=c }
    unfold bB;simp only[aQ];exact⟨blk,cap,_,tid,fr,hl,hg,h3.same hsz,de,by simpa using lQ (h4.ext hx) hn hs (hu.ext hx) hel⟩)
  exact⟨_,hst,h.go m2 m1,m2⟩
 ·rw[aQ] at eH hn hs;obtain⟨e,l,h1,h2,h3⟩:=eH;rw[h1] at hn hs;rcases h3 with ⟨h3,_⟩|⟨b7,cap',cur,tid,fr,h3,h4,h5,de,h6,h7,h8,h9⟩
  ·rw[hl] at h3;cases h3
  ·rw[hl] at h3;obtain⟨rfl,rfl⟩:=bY (aq h3);cases p with
   | nil=>cases hn
   | cons s p =>
     cases s with
     | wK k off=>cases hn
     | idx i size =>
       obtain⟨hsb,hn2⟩:=ah hn;have hsz:=cK hsb;obtain⟨x,hx,E4⟩:=bg hn2;obtain⟨x',hx',hs2⟩:=bg hs;obtain rfl:x=x':=aq (hx.symm.trans hx');obtain⟨z,hq,hs3⟩:=bind_some hs2;cases hz:toS e z with
       | none=>rw[hz] at hs3;cases hs3
       | some y =>
         rw[hz] at hs3;obtain rfl:=aq hs3;obtain⟨h0,hx2⟩:=iR hx;have hr:=h9 _ x hx2;have hrl:=hr.length;have hi:i.toNat<l.length:=(List.getElem?_eq_some_iff.1 hx2).1;have hm2:(i.toNat+1)*e.size≤cap*e.size:=iN _ (by omega);rw[mD] at hm2;have Ik:br γ σ.mem w (.data e x) .cells ((cur.toList.drop (i.toNat*e.size)).take e.size):=hr;obtain⟨k1,k2⟩:=jW Ik E4;rw[hrl] at k1;have hcs:cur.toList.length=cap*e.size:=by simpa using h8
         have hoff:bC (.idx i size::p)=i.toNat*e.size+bC p:=by simp only[bC,hsz]
         have Gq:bC (.idx i size::p)+es.length≤cur.toList.length:=by rw[hoff,hel,hcs];omega
         have hst:=cm (P:=P) blk (bC (.idx i size::p)) tid fr es 0 cur w h4 h5.th (by simpa using Gq) (fun v hv=>hu.one v hv);rw[ow] at hst;have Dw:(splice cur.toList (bC (.idx i size::p)) es).toArray.size=cur.size:=by have:=bM Gq;simpa using this
         have e1:=iJ cur.toList (i.toNat*e.size) (bC p) e.size es (by rw[hel];exact k1) (by rw[hcs];omega);obtain⟨m1,m2⟩:=h.ok.write hb hro hl h4 (cur':=(splice cur.toList (bC (.idx i size::p)) es).toArray) (v:=.data (.slice e) (x5 (α:=e.den) l i y)) Dw hrw
          (fun w' mem' hx hg=>by
           show bB γ mem' w' b { bx with val:=.data (.slice e) (x5 (α:=e.den) l i y) }
           unfold bB;simp only[aQ];refine⟨e,_,rfl,h2,.inr ⟨blk,cap,_,tid,fr,hl,hg,h5.same Dw,de,?_,h7,by rw[Dw];exact h8,?_⟩⟩
           ·exact gj (wI List.length_set) h6
           ·have Jr:=sK hz (lQ (Ik.ext hx) E4 hq (hu.ext hx) hel);have:=tq (w:=w') (I:=γ.I) (l:=l) (n:=l.length) (cs:=cur.toList) rfl (by rw[hcs];exact iN _ h6)
             (fun j x hj=>aX.mono hx.I hx.cells (h9 j x hj)) hi Jr
            rw[e1,←hoff] at this;exact this)
         exact⟨_,hst,h.go m2 m1,m2⟩
theorem B5{mem:Nat→Option aR}:∀{t:Ty} {x:t.den} {cs:List Value},aX w γ.I t x cs→br γ mem w (De t x) .cells cs:=by
 intro t;induction t with
 | pair a b eN fE=>intro x cs h;obtain⟨c1,c2,e,h1,h2⟩:=h;exact⟨c1,c2,e,h1,fE h2⟩
 | _=>intro x cs h;exact h
theorem vQ{mem:Nat→Option aR}{v:au}{cs:List Value}(h:br γ mem w v .cells cs):br γ mem w (Df v) .cells cs:=by
 cases v with
 | data t x=>exact B5 h
 | _=>exact h
theorem yu{bx:aR}(hb:bx.buf=false)(hv:Dh bx.val=true):bx.row=none:=by
 unfold aR.row;rw[hb];obtain⟨val,tid,buf,ro,lk,ag⟩:=bx;cases val with
 | data t x=>cases t<;>first|rfl|cases hv
 | mix p q=>rfl
 | _=>cases hv
theorem u9(h:bP B N γ σ a w){b ag:Nat}{p:List oz}{n:Nat}{u:au}{es:List Value}(hr:(iE b ag p n u σ).run=some σ')(hu:br γ σ.mem w u .cells es)
  (hlen:es.length=n) {blk cap:Nat} (hl:γ.loc b=some (blk,cap)) :
  ∃w',(storeCells ⟨blk,bC p,none⟩ es).run P w=.ok () w'∧bP B N γ σ' a w'∧Ext B γ σ.mem w γ σ'.mem w':=by
 unfold iE at hr;split at hr
 case h_2=>exact absurd hr (by intro k;cases k)
 rename_i bx hb;obtain⟨hc,hr2⟩:=ah hr;simp only[cA,ny] at hc;obtain⟨⟨⟨⟨aE,hlk⟩,hro⟩,aQ⟩,KU⟩:=hc;obtain⟨old,hn,eu⟩:=bind_some hr2;obtain⟨hfit,fS⟩:=ah eu;obtain⟨c,hs,u7⟩:=bind_some fS;obtain⟨JA,Ip⟩:=ah u7;obtain rfl:=aq Ip;have hel:es.length=bL old:=hlen.trans (cK hfit).symm;have hrw:({ bx with val:=c }:aR).row=bx.row:=(yu (bx:={ bx with val:=c }) aQ JA).trans (yu aQ KU).symm;have eH:=h.ok.boxes b bx hb;unfold bB at eH;rw[aQ] at eH;obtain⟨b7,cap',cur,tid,fr,h1,h2,h3,de,h4⟩:=eH;rw[hl] at h1;obtain⟨rfl,rfl⟩:=bY (aq h1);obtain⟨k1,k2⟩:=jW (vQ h4) hn;have Gq:bC p+es.length≤cur.toList.length:=by rw[hel];exact k1
 have hst:=cm (P:=P) blk (bC p) tid fr es 0 cur w h2 h3 (by simpa using Gq) (fun v hv=>hu.one v hv);rw[ow] at hst;have hsz:(splice cur.toList (bC p) es).toArray.size=cur.size:=by have:=bM Gq;simpa using this
 obtain⟨m1,m2⟩:=h.ok.write hb hro hl h2 (cur':=(splice cur.toList (bC p) es).toArray) (v:=c) hsz hrw
  (fun w' mem' hx hg=>by
   show bB γ mem' w' b { bx with val:=c }
   unfold bB;simp only[aQ];exact⟨blk,cap,_,tid,fr,hl,hg,h3.same hsz,de,by simpa using lQ (vQ (h4.ext hx)) hn hs (hu.ext hx) hel⟩)
 exact⟨_,hst,h.go m2 m1,m2⟩
theorem mQ{ty:TypeId}{blk off n:Nat}{v:Value}{w':World}(hs:(Go.sizeOf ty).run P w=.ok n w)(hn:v.cells.toList.length=n)(hst:(storeCells ⟨blk,off,none⟩ v.cells.toList).run P w=.ok () w') :
  (Instr.storeAt ty (.pointer (some ⟨blk,off,none⟩)) v).run P w=.ok () w':=by
 have hn':v.cells.size=n:=by simpa using hn
 simp only[Instr.storeAt,Instr.sureAddr,storeVar,Sem.run_bind,Sem.run_pure,Result.andThen_ok,hs,hn',ne_eq,not_true_eq_false,sS];exact hst
theorem rY(hc:dy P cx){bf:List Nat}{ty:TypeId}{x y:Operand}(h:bP B N γ σ a w)(hr:(fh cx bf ty (bz σ x) (bz σ y) σ).run=some σ') :
  ∃w' γ',(Instr.storeAt ty (a.eval x) (a.eval y)).run P w=.ok () w'∧bP B N γ' σ' a w'∧Ext B γ σ.mem w γ' σ'.mem w':=by
 have hv:=h.bz x;have hy:=h.bz y;unfold fh at hr;split at hr
 case h_2=>exact absurd hr (by intro k;cases k)
 rename_i b ag p hx;rw[hx] at hv;split at hr
 case h_2=>exact absurd hr (by intro k;cases k)
 rename_i bx hb;obtain⟨aE,hr2⟩:=ah hr;have aE:=cK aE;obtain⟨old,hn,eu⟩:=bind_some hr2;obtain⟨blk,cap,hl,hval⟩:=aF hb aE hv.2;obtain hval:a.eval x=_:=by simpa using hval
 rw[hval];split at eu
 ·rename_i u z;obtain⟨hT,fS⟩:=ah eu;have hT:=ek hT;have hD:=hc.T _ _ hT;cases hq:bN bf 8000000&&Dg u (bz σ y) with
  | true =>
    rw[hq] at fS;have how:=(Bool.and_eq_true_iff.1 hq).2;have E8:br γ σ.mem w (bz σ y) .cells (a.eval y).cells.toList:=by
     refine hy.fX (fun u' e=>?_) (fun e=>?_)
     ·rw[e] at how;cases how
     ·rw[e] at how;cases how
    have hsz:bL (bz σ y)=u.size:=by
     unfold Dg at how;split at how
     ·rename_i e;rw[e];exact B2 how
     ·rename_i e;rw[e];exact tD how
     ·cases how
    have vR:(a.eval y).cells.toList.length=u.size:=by rw[E8.length,hsz]
    obtain⟨w',k1,k2,k3⟩:=u9 (P:=P) h fS E8 vR hl;exact⟨w',γ,mQ (hD.sizeOf w) vR k1,k2,k3⟩
  | false =>
  rw[hq] at fS;replace fS:(match kU σ u (bz σ y) with|some (y,σ)=>storeAt b ag p (BW u) (.data u y) σ|none=>.fail).run=some σ':=fS;split at fS
  ·rename_i y0 σ1 hg;obtain⟨dX,s1,s2,s3⟩:=fM h hy hg;obtain⟨cs,c1,c2⟩:=s3;obtain G0:a.eval y=_:=by simpa using c2
   have CK:(a.eval y).cells.toList=cs:=by rw[G0];exact iI c1
   obtain⟨eg,g1,g2,g3⟩:=s2.boxes b bx hb;have JB:dX.loc b=some (blk,cap):=by
    have I5:eg.ag=bx.ag:=by
     unfold storeAt at fS;split at fS
     ·rename_i L0 hb2;rw[g1] at hb2;obtain rfl:=aq hb2;obtain⟨hc,_⟩:=ah fS;simp only[cA] at hc;have:=cK hc.1.1;omega
     ·exact absurd fS (by intro k;cases k)
    rw[(g3 I5).1];exact hl
   obtain⟨w',k1,k2,k3⟩:=nZ (P:=P) s1 fS (u:=.data u y0) (es:=cs) c1 (fun old hf=>by
    unfold BW at hf;split at hf
    ·rename_i t q;obtain rfl:=Ty.eq_of_beq hf;exact c1.length
    ·cases hf) (fun bx hf aQ=>by
    unfold BW at hf;split at hf
    ·rename_i t q fT;obtain rfl:=Ty.eq_of_beq hf;cases t with
     | arr n e=>rw[aR.gU aQ fT];exact aR.gU (bx:={ bx with val:=_ }) aQ rfl
     | _=>unfold aR.row;rw[aQ,fT]
    ·cases hf) JB
   refine⟨w',dX,mQ (hD.sizeOf w) ?_ ?_,k2,s2.trans k3⟩
   ·rw[CK];exact c1.length
   ·rw[CK];exact k1
  ·exact absurd fS (by intro k;cases k)
 ·obtain⟨hT,fS⟩:=ah eu;simp only[cA] at hT;obtain⟨xU,HN⟩:=hT;have key:∀{v:au},kH cx ty v=true→isRef v=true→bL v=1∧(Go.sizeOf ty).run P w=.ok 1 w:=by
   intro v h1 h2;unfold kH at h1;split at h1
   ·cases h2
   ·split at h1
    ·rename_i e hT;exact⟨rfl,(hc.T _ _ hT).sizeOf w⟩
    ·cases h1
   ·exact⟨rfl,(hc.iY _ h1).2.1 w⟩
   ·exact⟨rfl,(hc.iY _ h1).2.1 w⟩
   ·exact⟨rfl,(hc.iY _ h1).2.1 w⟩
   ·cases h1
  obtain⟨h1,hsz⟩:=key xU HN;have E8:br γ σ.mem w (bz σ y) .cells (a.eval y).cells.toList:=by
   refine hy.fX (fun u e=>?_) (fun e=>?_)
   ·rw[e] at HN;cases HN
   ·rw[e] at HN;cases HN
  have vR:(a.eval y).cells.toList.length=1:=by rw[E8.length,h1]
  obtain⟨w',k1,k2,k3⟩:=nZ (P:=P) h fS E8 (fun old hf=>by
   simp only[sR,cA] at hf;rcases hf with hf|hf
   ·rw[vR,(key hf.1 hf.2).1]
   ·rw[vR];cases old<;>first|rfl|cases hf) (fun bx hf aQ=>by
   simp only[sR,cA] at hf;have e1:∀{v:au} {bx:aR},(isRef v=true∨Bl v=true)→bx.buf=false→bx.val=v→bx.row=none:=by
    intro v bx h1 h2 h3;unfold aR.row;rw[h2,h3];cases v<;>first|rfl|(rcases h1 with h1|h1<;>cases h1)
   rw[e1 (hf.elim (fun q=>.inl q.2) .inr) aQ rfl];exact e1 (bx:={ bx with val:=bz σ y }) (.inl HN) aQ rfl) hl
  exact⟨w',γ,mQ hsz vR k1,k2,k3⟩
theorem iB(t:TypeId)(v:Value):(newVar t v).run P w=.ok ⟨w.heap.size,0,none⟩ (w.alloc (.cells v.cells t)):=by
 simp[newVar,newRow]
theorem nE{mem:Nat→Option aR}{w':World}{b:Nat}{bx:aR}{cap:Nat}:br (aT γ b (some (w.heap.size,cap))) (bD mem b bx) w' (.ptr b bx.ag []) .val [.pointer (some ⟨w.heap.size,0,none⟩)] :=
 ⟨⟨_,rfl,rfl⟩,cJ (aP _ _) rfl ⟨w.heap.size,cap,by simp[aT],rfl⟩⟩
theorem yw(hc:dy P cx){elem:TypeId}{nb k:Nat}{t:Ty}(h:bP B N γ σ a w)(hd:k<N)(hT:find cx.T elem=some t)
  (hr:(σ.ay (nb+k) (.data t t.zero) 0 false fun ag σ=>.ret (σ.put k (.ptr (nb+k) ag []))).run=some σ') :
  gh P B N γ σ a w (some k) (Instr.alloc elem true (.tuple #[])) σ':=by
 obtain⟨ag,aE,hr2⟩:=cc hr;obtain rfl:=aq hr2;obtain⟨z,hz,HO⟩:=(hc.T _ _ hT).zero w;obtain⟨m1,m2⟩:=h.ok.newVar (b:=nb+k) (v:=.data t t.zero) (tid:=0) aE (cs:=z.cells) elem (.inl rfl) (by rw[HO];exact gG w γ.I t);refine⟨.pointer (some ⟨w.heap.size,0,none⟩),_,_,?_,h.step m2 m1 hd nE,m2⟩;simp only[Instr.alloc,Sem.run_bind,hz,Result.andThen_ok,iB,Sem.run_pure]
theorem rZ(hc:dy P cx){elem:TypeId}{nb k:Nat}(h:bP B N γ σ a w)(hd:k<N)(hT:bN cx.iY elem=true)
  (hr:(σ.ay (nb+k) .undef 0 false fun ag σ=>.ret (σ.put k (.ptr (nb+k) ag []))).run=some σ') :
  gh P B N γ σ a w (some k) (Instr.alloc elem true (.tuple #[])) σ':=by
 obtain⟨ag,aE,hr2⟩:=cc hr;obtain rfl:=aq hr2;obtain⟨z,hz,hone⟩:=(hc.iY _ hT).2.2;have hz:=hz w;obtain⟨m1,m2⟩:=h.ok.newVar (b:=nb+k) (v:=.undef) (tid:=0) aE (cs:=z.cells) elem (.inl rfl) ⟨z,by cases z<;>first|rfl|(simp[Value.oneCell'] at hone),hone⟩;refine⟨.pointer (some ⟨w.heap.size,0,none⟩),_,_,?_,h.step m2 m1 hd nE,m2⟩;simp only[Instr.alloc,Sem.run_bind,hz,Result.andThen_ok,iB,Sem.run_pure]
theorem yx{b ag:Nat}:∀{fs:List gf} {j:Nat} {σ:St} {γ:Gh} {r:au×St},aN B γ σ.mem w→(mkObj b ag fs j σ).run=some r →
  ∃dX,aN B dX r.2.mem w∧Ext B γ σ.mem w dX r.2.mem w∧r.2.slots=σ.slots ∧
   ∀γ' mem' w',Ext B dX r.2.mem w γ' mem' w'→(∃bx blk cap,mem' b=some bx∧ag≤bx.ag∧γ'.loc b=some (blk,cap))→br γ' mem' w' r.1 .cells (tg fs):=by
 intro fs;induction fs with
 | nil=>intro j σ γ r h hr;obtain rfl:=aq hr;exact⟨γ,h,Ext.refl _ _ _ _,rfl,fun _ _ _ _ _=>rfl⟩
 | cons f r ih =>
   intro j σ γ q h hr;cases f with
   | dat t =>
     obtain⟨y,h1,h2⟩:=bind_some hr;obtain rfl:=aq h2;obtain⟨dX,k1,k2,k3,k4⟩:=ih h h1;exact⟨dX,k1,k2,k3,fun γ' mem' w' hx hb=>⟨_,_,rfl,gG _ _ t,k4 γ' mem' w' hx hb⟩⟩
   | one =>
     obtain⟨y,h1,h2⟩:=bind_some hr;obtain rfl:=aq h2;obtain⟨dX,k1,k2,k3,k4⟩:=ih h h1;exact⟨dX,k1,k2,k3,fun γ' mem' w' hx hb=>⟨[.pointer none],_,rfl,rfl,k4 γ' mem' w' hx hb⟩⟩
   | self =>
     obtain⟨y,h1,h2⟩:=bind_some hr;obtain rfl:=aq h2;obtain⟨dX,k1,k2,k3,k4⟩:=ih h h1;refine⟨dX,k1,k2,k3,fun γ' mem' w' hx hb=>⟨[.pointer none],_,rfl,?_,k4 γ' mem' w' hx hb⟩⟩;obtain⟨bx,blk,cap,g1,g2,g3⟩:=hb;exact⟨⟨_,rfl,rfl⟩,bx,g1,g2,fun _=>⟨blk,cap,g3,.inl rfl⟩⟩
   | buf e bX =>
     obtain⟨he,eT⟩:=ah hr;have he':0<e.size:=by simpa using he
     obtain⟨v,aE,hr2⟩:=cc eT;obtain⟨y,h1,h2⟩:=bind_some hr2;obtain rfl:=aq h2;obtain⟨m1,m2⟩:=h.tr (b:=b*1000+999-j) (e:=e) (tid:=bX) aE he';obtain⟨dX,k1,k2,k3,k4⟩:=ih m1 h1;refine⟨dX,k1,m2.trans k2,k3,fun γ' mem' w' hx hb=>⟨[.slice none 0 0],_,rfl,?_,k4 γ' mem' w' hx hb⟩⟩;refine br.ext (k2.trans hx) (v:=.whole (b*1000+999-j) v) (m:=.cells) ?_;exact⟨⟨_,rfl,rfl⟩,cJ (aP _ _) rfl ⟨e,0,rfl,rfl,.inl ⟨by simp[aT],rfl⟩⟩⟩
theorem r5(hc:dy P cx){elem:TypeId}{nb k:Nat}{fs:List gf}(h:bP B N γ σ a w)(hd:k<N)(hT:find cx.jz elem=some fs)
  (hr:((mkObj (nb+k) (sE σ (nb+k)) fs 0 σ).bind fun r=>r.2.ay (nb+k) r.1 elem false fun ag σ=>.ret (σ.put k (.ptr (nb+k) ag []))).run=some σ') :
  gh P B N γ σ a w (some k) (Instr.alloc elem true (.tuple #[])) σ':=by
 obtain⟨r,h1,h2⟩:=bind_some hr;obtain⟨dX,k1,k2,k3,k4⟩:=yx h.ok h1;obtain⟨ag,aE,hr2⟩:=cc h2;obtain rfl:=aq hr2;obtain⟨z,hz,HO⟩:=BZ (hc.jz _ _ hT) w;have hle:sE σ (nb+k)≤ag:=by
  unfold sE;split
  ·rename_i bx gN;obtain⟨eg,e1,e2,_⟩:=k2.boxes _ bx gN;have:=aE eg e1;omega
  ·exact kD _
 let bx:aR:={ val:=r.1,tid:=elem,buf:=false,ro:=false,lk:=false,ag }
 have hw:jI B w (w.alloc (.cells z.cells elem)):=(jI.refl _ _).alloc k1.base _;have hx:=jm (L:=some (w.heap.size,0)) k1 (bx:=bx) aE hw (b9 w _);have eH:bB (aT dX (nb+k) (some (w.heap.size,0))) (bD r.2.mem (nb+k) bx) (w.alloc (.cells z.cells elem)) (nb+k) bx :=
  ⟨w.heap.size,0,z.cells,elem,(0,0),by simp[aT],heap_alloc_new w _,mM _,.inr rfl,by
   rw[HO];exact k4 _ _ _ hx ⟨bx,w.heap.size,0,aP _ _,hle,by simp[aT]⟩⟩
 have m1:=k1.add aE hw (b9 w _) (fun blk k e=>by obtain⟨rfl,rfl⟩:=bY (aq e);exact⟨en _,by simp⟩) eH;refine⟨.pointer (some ⟨w.heap.size,0,none⟩),_,_,?_,?_,k2.trans hx⟩
 ·simp only[Instr.alloc,Sem.run_bind,hz,Result.andThen_ok,iB,Sem.run_pure]
 ·have:=h.step (k2.trans hx) m1 hd (nE (bx:=bx));rw[←k3] at this;exact this
theorem rj{b j:Nat}{v:au}{σ:St}{r:au×St}(hr:(fU b [] j v σ).run=some r):r=(v,σ):=by
 cases v with
 | data t x=>cases t<;>first|(obtain rfl:=aq hr;rfl)|cases hr
 | _=>cases hr
theorem pI{b j:Nat}{f:gf}{q:List gf}{v:au}{σ:St}{r:au×St}(hr:(fU b (f::q) j v σ).run=some r) :
  (∃x u y,v=.mix x u∧(fU b q (j+1) u σ).run=some y∧r=(.mix x y.1,y.2)) ∨
  (∃e bX u,v=.mix .gk u∧0<e.size∧(σ.ay (b*1000+999-j) (.data (.slice e) []) bX true fun ag σ=>(fU b q (j+1) u σ).bind fun x=>.ret (.mix (.whole (b*1000+999-j) ag) x.1,x.2)).run=some r):=by
 cases v with
 | mix a u =>
   cases f with
   | dat t =>
     cases a with
     | data t' z =>
       obtain⟨y,h1,h2⟩:=bind_some (show((fU b q (j+1) u σ).bind fun x=>.ret (.mix (.data t' z) x.1,x.2)).run=some r from hr);exact .inl ⟨_,u,y,rfl,h1,(aq h2).symm⟩
     | _=>cases hr
   | one =>
     cases a with
     | ij =>
       obtain⟨y,h1,h2⟩:=bind_some (show((fU b q (j+1) u σ).bind fun x=>.ret (.mix .ij x.1,x.2)).run=some r from hr);exact .inl ⟨_,u,y,rfl,h1,(aq h2).symm⟩
     | _=>cases hr
   | buf e bX =>
     cases a with
     | gk =>
       obtain⟨he,eT⟩:=ah hr;exact .inr ⟨e,bX,u,rfl,by simpa using he,eT⟩
     | _=>cases hr
   | self=>cases a<;>cases hr
 | _=>cases f<;>cases hr
theorem r6(hc:dy P cx){elem:TypeId}{nb k:Nat}{bf:List Nat}{t:Ty}(h:bP B N γ σ a w)(hd:k<N)(hT:find cx.T elem=some t)
  (hr:(ju nb bf k t σ).run=some σ'):gh P B N γ σ a w (some k) (Instr.alloc elem true (.tuple #[])) σ':=by
 unfold ju at hr;split at hr
 ·rename_i e _;obtain⟨he,eT⟩:=ah hr;have he':0<e.size:=by simpa using he
  obtain⟨v,aE,hr2⟩:=cc eT;obtain⟨m1,m2⟩:=h.ok.tr (b:=(nb+k)*1000+999) (e:=e) (tid:=0) aE he';obtain⟨ag,Iq,eu⟩:=cc hr2;obtain rfl:=aq eu;obtain⟨i,z,i1,i2,i3,i4⟩:=(hc.T _ _ hT).info;have hz:(zeroValue elem).run P w=.ok z w:=by simp[zeroValue,typeInfo,i1,i3]
  have qw:br (aT γ ((nb+k)*1000+999) none) (bD σ.mem ((nb+k)*1000+999) { val:=.data (.slice e) ([]:List e.den),tid:=0,buf:=true,ro:=false,lk:=false,ag:=v }) w (.whole ((nb+k)*1000+999) v) .cells z.cells.toList:=by
   rw[i4];exact⟨⟨_,rfl,rfl⟩,cJ (aP _ _) rfl ⟨e,0,rfl,rfl,.inl ⟨by simp[aT],rfl⟩⟩⟩
  obtain⟨n1,n2⟩:=m1.newVar (b:=nb+k) (v:=.whole ((nb+k)*1000+999) v) (tid:=0) Iq (cs:=z.cells) elem (.inl rfl) qw;refine⟨.pointer (some ⟨w.heap.size,0,none⟩),_,_,?_,h.step (m2.trans n2) n1 hd nE,m2.trans n2⟩;simp only[Instr.alloc,Sem.run_bind,hz,Result.andThen_ok,iB,Sem.run_pure]
 ·exact yw hc h hd hT hr
theorem va{b:Nat}:∀{fs:List gf} {j:Nat} {v:au} {σ:St} {γ:Gh} {r:au×St} {cs:List Value},aN B γ σ.mem w→br γ σ.mem w v .cells cs→(fU b fs j v σ).run=some r →
  ∃dX,aN B dX r.2.mem w∧Ext B γ σ.mem w dX r.2.mem w∧r.2.slots=σ.slots∧br dX r.2.mem w r.1 .cells cs:=by
 intro fs;induction fs with
 | nil =>
   intro j v σ γ r cs h hv hr;obtain rfl:=rj hr;exact⟨γ,h,Ext.refl _ _ _ _,rfl,hv⟩
 | cons f q ih =>
   intro j v σ γ r cs h hv hr;rcases pI hr with ⟨x,u,y,rfl,h1,rfl⟩|⟨e,bX,u,rfl,he,eT⟩
   ·obtain⟨c1,c2,rfl,v1,v2⟩:=hv;obtain⟨dX,k1,k2,k3,k4⟩:=ih h v2 h1;exact⟨dX,k1,k2,k3,c1,c2,rfl,v1.ext k2,k4⟩
   ·obtain⟨k,aE,hr2⟩:=cc eT;obtain⟨y,h1,h2⟩:=bind_some hr2;obtain rfl:=aq h2;obtain⟨c1,c2,rfl,v1,v2⟩:=hv;obtain⟨m1,m2⟩:=h.tr (b:=b*1000+999-j) (e:=e) (tid:=bX) aE he;obtain⟨dX,k1,k2,k3,k4⟩:=ih m1 (v2.ext m2) h1;obtain rfl:c1=[.slice none 0 0]:=v1;refine⟨dX,k1,m2.trans k2,k3,[.slice none 0 0],c2,rfl,?_,k4⟩;refine br.ext k2 (v:=.whole (b*1000+999-j) k) (m:=.cells) ?_;exact⟨⟨_,rfl,rfl⟩,cJ (aP _ _) rfl ⟨e,0,rfl,rfl,.inl ⟨by simp[aT],rfl⟩⟩⟩
theorem ve{elem:TypeId}{nb k:Nat}{x:Operand}{fs:List gf}(h:bP B N γ σ a w)(hd:k<N)(hu:bz σ x≠.undef)(ht:∀u,bz σ x≠.jT u)
  (hr:((fU (nb+k) fs 0 (bz σ x) σ).bind fun r=>r.2.ay (nb+k) r.1 elem false fun ag σ=>.ret (σ.put k (.ptr (nb+k) ag []))).run=some σ') :
  gh P B N γ σ a w (some k) (Instr.box elem (a.eval x)) σ':=by
 obtain⟨r,h1,h2⟩:=bind_some hr;obtain⟨dX,k1,k2,k3,k4⟩:=va h.ok ((h.bz x).fX ht (fun e=>absurd e hu)) h1;obtain⟨ag,aE,hr2⟩:=cc h2;obtain rfl:=aq hr2;obtain⟨m1,m2⟩:=k1.newVar (b:=nb+k) (v:=r.1) (tid:=elem) aE (cs:=(a.eval x).cells) elem (.inr rfl) k4;refine⟨.pointer (some ⟨w.heap.size,0,none⟩),_,_,?_,?_,k2.trans m2⟩
 ·simp only[Instr.box,Sem.run_bind,iB,Result.andThen_ok,Sem.run_pure]
 ·have:=h.step (k2.trans m2) m1 hd nE;rw[←k3] at this;exact this
theorem B6{elem:TypeId}{nb k:Nat}{x:Operand}(h:bP B N γ σ a w)(hd:k<N)(hu:bz σ x≠.undef)(ht:∀u,bz σ x≠.jT u)
  (hr:(σ.ay (nb+k) (bz σ x) 0 false fun ag σ=>.ret (σ.put k (.ptr (nb+k) ag []))).run=some σ') :
  gh P B N γ σ a w (some k) (Instr.box elem (a.eval x)) σ':=by
 obtain⟨ag,aE,hr2⟩:=cc hr;obtain rfl:=aq hr2;obtain⟨m1,m2⟩:=h.ok.newVar (b:=nb+k) (v:=bz σ x) (tid:=0) aE (cs:=(a.eval x).cells) elem (.inl rfl) ((h.bz x).fX ht (fun e=>absurd e hu));refine⟨.pointer (some ⟨w.heap.size,0,none⟩),_,_,?_,h.step m2 m1 hd nE,m2⟩;simp only[Instr.box,Sem.run_bind,iB,Result.andThen_ok,Sem.run_pure]
theorem Fc{mem:Nat→Option aR}:∀{u v:au} {k:Nat} {vs:List Value},br γ mem w u .many vs→nth u k=some v→∃x,vs[k]?=some x∧br γ mem w v .val [x]:=by
 intro u;induction u with
 | mix p q lq kO =>
   intro v k vs h hn;obtain⟨c,r,rfl,h1,h2⟩:=h;cases k with
   | zero=>obtain rfl:=aq hn;exact⟨c,rfl,h1⟩
   | succ k=>obtain⟨x,hx,hr⟩:=kO h2 hn;exact⟨x,by simpa using hx,hr⟩
 | _=>intro v k vs h hn;exact absurd hn (by intro k;cases k)
theorem vf{x:Operand}{k:Nat}{vs v:au}(h:bP B N γ σ a w)(hd:∀k,d=some k→k<N)(hx:bz σ x=.jT vs)(hn:nth vs k=some v) :
  gh P B N γ σ a w d (Instr.extract (a.eval x) k) (σ.aD d v):=by
 have hv:=h.bz x;rw[hx] at hv;obtain⟨arr,h1,h2⟩:=hv;obtain h1:a.eval x=_:=by simpa using h1
 obtain⟨y,hy,hr⟩:=Fc h2 hn;refine aU h hd (x:=y) ?_ hr;rw[h1];have:arr[k]?=some y:=by simpa using hy
 simp only[Instr.extract,this,Sem.run_pure]
theorem Dx:∀{ops:List Operand} {cs:List (Nat×Nat)},bP B N γ σ a w→qo (ops.map (bz σ))=some cs→cs.length=ops.length ∧
  ∀(i:Nat) b ag,cs[i]?=some (b,ag)→fI σ.mem b ag fun _=>∃blk cap,γ.loc b=some (blk,cap)∧(ops.map a.eval)[i]?=some (.pointer (some ⟨blk,0,none⟩)):=by
 intro ops;induction ops with
 | nil=>intro cs h hc;obtain rfl:=aq hc;exact⟨rfl,fun i b ag hi=>by cases hi⟩
 | cons o r ih =>
   intro cs h hc;have ho:=h.bz o;simp only[jj] at hc;unfold qo at hc;split at hc
   ·rename_i heq;cases heq
   ·rename_i b0 Fe r0 heq;injection heq with q1 q2
    subst q2;rw[q1] at ho;cases hr:qo (r.map (bz σ)) with
    | none=>rw[hr] at hc;cases hc
    | some cs' =>
      rw[hr] at hc;obtain rfl:=aq hc;obtain⟨i1,i2⟩:=ih h hr;refine⟨by simp[i1],fun i b ag hi=>?_⟩;cases i with
      | zero =>
        obtain⟨rfl,rfl⟩:=bY (aq hi);obtain⟨bx,k1,k2,k3⟩:=ho.2;refine⟨bx,k1,k2,fun e=>?_⟩;obtain⟨blk,cap,j1,j2⟩:=k3 e;obtain j2:a.eval o=_:=by simpa using j2
        exact⟨blk,cap,j1,by simp[j2,bC]⟩
      | succ i =>
        have:=i2 i b ag (by simpa using hi);simpa using this
   ·cases hc
theorem tG{f:Nat}{caps:Array Operand}{cs:List (Nat×Nat)}(h:bP B N γ σ a w)(hd:∀k,d=some k→k<N)(hcs:qo (caps.toList.map (bz σ))=some cs) :
  gh P B N γ σ a w d (Instr.makeFunc (.func f) #[] (caps.map a.eval)) (σ.aD d (.fn f cs)):=by
 obtain⟨h1,h2⟩:=Dx h hcs;refine aU h hd (x:=.func (.func f) #[] (caps.map a.eval)) rfl ?_;refine⟨caps.map a.eval,rfl,by rw[h1];simp,fun i b ag hi=>?_⟩;obtain⟨bx,k1,k2,k3⟩:=h2 i b ag hi;refine⟨bx,k1,k2,fun e=>?_⟩;obtain⟨blk,cap,j1,j2⟩:=k3 e;exact⟨blk,cap,j1,by simpa using j2⟩
end
end Go.Ge
namespace Go.Ge
open RowKit
def Af(γ:Gh)(blk:Nat):Gh:={ γ with I:=fun b o=>γ.I b o∨b=blk }
theorem aN.G1{B:iy}{γ:Gh}{mem:Nat→Option aR}{w:World}(h:aN B γ mem w)(cs:Array Value)(t':TypeId) :
  aN B (Af γ w.heap.size) mem (w.alloc (.cells cs t'))∧Ext B γ mem w (Af γ w.heap.size) mem (w.alloc (.cells cs t')):=by
 have hx:Ext B γ mem w (Af γ w.heap.size) mem (w.alloc (.cells cs t')) :=
  { below:=(jI.refl _ _).alloc h.base _
    I:=fun _ _ x=>.inl x
    jK:=fun blk o x=>by
     rcases x with x|x
     ·exact .inl x
     ·exact .inr (.inl (by rw[x];exact h.base))
    cells:=fun blk o x=>dD (b9 w _ blk (h.jJ blk o x))
    boxes:=fun b bx hb=>⟨bx,hb,en _,fun _=>⟨rfl,rfl,rfl⟩⟩ }
 refine⟨?_,hx⟩;have hsz:(w.alloc (.cells cs t')).heap.size=w.heap.size+1:=by simp
 exact
  { b6:=h.pe hx
    base:=by rw[hsz];exact Nat.le_succ_of_le h.base
    boxes:=fun b bx hb=>(h.boxes b bx hb).keep hx rfl fun blk k hl=>b9 w _ blk (h.fresh b blk k (by rw[hb];simp) hl).2
    inj:=h.inj
    fresh:=fun b blk k hb hl=>by have:=h.fresh b blk k hb hl;exact⟨this.1,by rw[hsz];omega⟩
    jJ:=fun blk off hi=>by
     rw[hsz];rcases hi with hi|hi
     ·have:=h.jJ blk off hi;omega
     ·omega
    sep:=fun b bx blk k off hb hl hi=>by
     rcases hi with hi|hi
     ·exact h.sep b bx blk k off hb hl hi
     ·have:=(h.fresh b blk k (by rw[hb];simp) hl).2;omega }
theorem tH(off:Nat):∀(l:List Value) (k:Nat) (cells:Array Value),off+k+l.length≤cells.size →
  (l.zipIdx k).foldl (fun cs (x:Value×Nat)=>cs.setIfInBounds (off+x.2) x.1) cells=(splice cells.toList (off+k) l).toArray
 | [],k,cells,h=>by simp[splice]
 | v::r,k,cells,h=>by
   simp only[List.zipIdx_cons,List.foldl_cons];rw[tH off r (k+1) _ (by simp at h⊢;omega)];have e:=list_seg_step cells.toList (off+k) v r (by simp at h⊢;omega)
   congr 1
   simpa [splice,F3,qj] using e
theorem nF{place:Nat→Option (Nat×Nat)}{cells:Array Value}{i off size:Nat}{v:Value}{rest:List (Nat×Value)}(hp:place i=some (off,size))(hs:v.cells.toList.length=size)
  (hle:off+size≤cells.size):Instr.fill place cells ((i,v)::rest)=Instr.fill place (splice cells.toList off v.cells.toList).toArray rest:=by
 have hs':v.cells.size=size:=by simpa using hs
 have hc:(v.cells.size≠size||off+v.cells.size > cells.size)=false:=by
  simp only[uZ,Gb];constructor
  ·simp[hs']
  ·omega
 simp only[Instr.fill,hp];rw[hc];simp only[zM,sS]
 congr 1
 rw[←Array.foldl_toList,Array.toList_zipIdx];have:=tH off v.cells.toList 0 cells (by rw[hs];omega);simpa using this
theorem Ag{w:World}{I:Nat→Nat→Prop}{u:Ty}{y:u.den}{es:List Value}(he:aX w I u y es):∀{t:Ty} {x x':t.den} {cs:List Value} {k o:Nat},
  aX w I t x cs→eE t k=some o→sW t x k u y=some x'→aX w I t x' (splice cs o es)∧o+es.length≤cs.length:=by
 intro t;induction t with
 | pair a b eN fE =>
   intro x x' cs k o h ho hp;obtain⟨c1,c2,rfl,h1,h2⟩:=h;cases k with
   | zero =>
     simp only[eE,iX] at ho;subst ho;simp only[sW] at hp;split at hp
     ·rename_i y' hy;obtain⟨q,hq⟩:=Ty.eW hy;subst q;subst hq;obtain rfl:=aq hp;have hl:es.length=c1.length:=by rw[he.length,h1.length]
      refine⟨⟨es,c2,?_,he,h2⟩,by rw[ji];omega⟩;simp only[splice,Bf,zP,kS];rw[hl,ou]
     ·cases hp
   | succ k =>
     simp only[eE] at ho;cases hb:eE b k with
     | none=>rw[hb] at ho;cases ho
     | some o' =>
       rw[hb] at ho;simp only[rT,iX] at ho;simp only[sW] at hp;split at hp
       ·rename_i z hz;obtain rfl:=aq hp;obtain⟨r1,r2⟩:=fE h2 hb hz;have hl:=h1.length;refine⟨⟨c1,splice c2 o' es,?_,h1,r1⟩,by rw[ji];omega⟩;subst ho;rw[←hl];simp only[splice];first
         | (rw[EK,mC,mC,qj,←lH,ou];simp[mC];done)
         | (rw[Bi o' c1.length,EK,mC,mC,qj,←lH,ou];simp[mC])
       ·cases hp
 | _=>intro x x' cs k o h ho;cases k<;>simp[eE] at ho
theorem r7:∀{t:Ty} {k:Nat} {u:Ty},jA t k=some u→∃o,eE t k=some o:=by
 intro t;induction t with
 | pair a b eN fE =>
   intro k u h;cases k with
   | zero=>exact⟨0,rfl⟩
   | succ k =>
     obtain⟨o,ho⟩:=fE (show jA b k=some u from h);simp only[eE,ho];exact⟨_,rfl⟩
 | _=>intro k u h;cases k<;>cases h
section
variable {P:Program} {B:iy} {N:Nat} {γ:Gh} {σ σ':St} {a:Act} {w:World} {d:Option Nat} {cx:Ctx}
theorem qx{place:Nat→Option (Nat×Nat)}{t:Ty}(hpl:∀k u o,jA t k=some u→eE t k=some o→place k=some (o,u.size)) :
  ∀{parts:List (Nat×Operand)} {x x':t.den} {cells:Array Value} {σ σ':St} {γ:Gh},bP B N γ σ a w→aX w γ.I t x cells.toList→dx σ t x parts=some (x',σ') →
   ∃cells' γ',Instr.fill place cells (parts.map fun p=>(p.1,a.eval p.2))=some cells'∧bP B N γ' σ' a w∧Ext B γ σ.mem w γ' σ'.mem w∧aX w γ'.I t x' cells'.toList:=by
 intro parts;induction parts with
 | nil =>
   intro x x' cells σ σ' γ h hx hb;obtain⟨rfl,rfl⟩:=bY (aq hb);exact⟨cells,γ,rfl,h,Ext.refl _ _ _ _,hx⟩
 | cons p r ih =>
   obtain⟨k,o⟩:=p;intro x x' cells σ σ' γ h hx hb;simp only[dx] at hb;split at hb
   ·rename_i u hu;split at hb
    ·rename_i y σ1 hg;split at hb
     ·rename_i x1 hx1;obtain⟨dX,s1,s2,cs,c1,c2⟩:=fM h (h.bz o) hg;obtain hval:a.eval o=_:=by simpa using c2
      have CK:(a.eval o).cells.toList=cs:=by rw[hval];exact iI c1
      obtain⟨off,hoff⟩:=r7 hu;obtain⟨r1,r2⟩:=Ag c1 (aX.mono s2.I s2.cells hx) hoff hx1;have hsz:=c1.length;obtain⟨cells',nY,k1,k2,k3,k4⟩:=ih (cells:=(splice cells.toList off cs).toArray) s1 (by simpa using r1) hb;refine⟨cells',nY,?_,k2,s2.trans k3,k4⟩;simp only[jj];rw[nF (hpl k u off hu hoff) (by rw[CK];exact hsz) (by rw[hsz] at r2;simpa using r2),CK];exact k1
     ·cases hb
    ·cases hb
   ·cases hb
theorem mh{n:Nat}{e:Ty}{place:Nat→Option (Nat×Nat)}(hpl:∀k,place k=some (k*e.size,e.size)) :
  ∀{parts:List (Nat×Operand)} {l l':List e.den} {cells:Array Value} {σ σ':St} {γ:Gh},bP B N γ σ a w→aX w γ.I (.arr n e) l cells.toList→dh σ e l parts=some (l',σ') →
   ∃cells' γ',Instr.fill place cells (parts.map fun p=>(p.1,a.eval p.2))=some cells'∧bP B N γ' σ' a w∧Ext B γ σ.mem w γ' σ'.mem w∧aX w γ'.I (.arr n e) l' cells'.toList:=by
 intro parts;induction parts with
 | nil =>
   intro l l' cells σ σ' γ h hx hb;obtain⟨rfl,rfl⟩:=bY (aq hb);exact⟨cells,γ,rfl,h,Ext.refl _ _ _ _,hx⟩
 | cons p r ih =>
   obtain⟨k,o⟩:=p;intro l l' cells σ σ' γ h hx hb;simp only[dh] at hb;split at hb
   ·rename_i y σ1 hg;cases hlt:Nat.blt k l.length with
    | false=>rw[hlt] at hb;cases hb
    | true =>
      rw[hlt] at hb;simp only[gD] at hb;have hlt':k<l.length:=by simpa using hlt
      obtain⟨dX,s1,s2,cs,c1,c2⟩:=fM h (h.bz o) hg;obtain hval:a.eval o=_:=by simpa using c2
      have CK:(a.eval o).cells.toList=cs:=by rw[hval];exact iI c1
      obtain⟨j1,j2,j3⟩:=aX.mono s2.I s2.cells hx;have KV:l.length=n:=j1;have hsz:=c1.length;have hm:(k+1)*e.size≤n*e.size:=iN _ (by omega);rw[mD] at hm;have hle:k*e.size+cs.length≤cells.toList.length:=by rw[hsz,j2];exact hm
      have hnew:aX w dX.I (.arr n e) (l.set k y) (splice cells.toList (k*e.size) cs) :=
       ⟨(@List.length_set _ l _ _).trans j1,by rw[bM hle];exact j2,tq KV (by rw[j2];exact en _) j3 (by omega) c1⟩
      obtain⟨cells',nY,k1,k2,k3,k4⟩:=ih (cells:=(splice cells.toList (k*e.size) cs).toArray) s1 (by simpa using hnew) hb;refine⟨cells',nY,?_,k2,s2.trans k3,k4⟩;simp only[jj];rw[nF (hpl k) (by rw[CK];exact hsz) (by rw[hsz] at hle;simpa using hle),CK];exact k1
   ·cases hb
theorem gL.places{t:Ty}:∀{off:Nat} {fs:List Field},gL P t off fs→∃places:List (Nat×Nat),fs.mapM (fun f=>(P.info? f.type).map fun i=>(f.offset,i.size))=some places ∧
  ∀k u o,jA t k=some u→eE t k=some o→places[k]?=some (off+o,u.size):=by
 induction t with
 | pair a b eN fE =>
   intro off fs h;obtain⟨f,r,rfl,h1,h2,h3,h4,h5⟩:=h.cons;obtain⟨pl,p1,p2⟩:=fE h5;obtain⟨i,z,i1,i2,_⟩:=h3.info;refine⟨(f.offset,i.size)::pl,by simp[i1,p1],fun k u o hu ho=>?_⟩;cases k with
   | zero =>
     simp only[jA,eE,iX] at hu ho;subst hu ho;simp[h1,i2]
   | succ k =>
     simp only[jA,eE] at hu ho;cases hb:eE b k with
     | none=>rw[hb] at ho;cases ho
     | some o' =>
       rw[hb] at ho;simp only[rT,iX] at ho;have:=p2 k u o' hu hb;rw[GM,this]
       congr 2;omega
 | unit =>
   intro off fs h;cases fs with
   | nil=>exact⟨[],rfl,fun k u o hu=>by cases k<;>cases hu⟩
   | cons f r=>simp[gL,dc] at h
 | _=>intro off fs h;cases fs<;>simp[gL,dc] at h
theorem rm{mem:Nat→Option aR}:∀{fs:List gf} {v:au},iG fs=some v→br γ mem w v .cells (tg fs):=by
 intro fs;induction fs with
 | nil=>intro v h;obtain rfl:=aq h;rfl
 | cons f r ih =>
   intro v h;cases f with
   | dat t =>
     simp only[iG] at h;split at h
     ·rename_i u hu;obtain rfl:=aq h;exact⟨_,_,rfl,gG _ _ t,ih hu⟩
     ·cases h
   | buf e i =>
     simp only[iG] at h;split at h
     ·rename_i u hu;obtain rfl:=aq h;exact⟨[.slice none 0 0],_,rfl,rfl,ih hu⟩
     ·cases h
   | one =>
     simp only[iG] at h;split at h
     ·rename_i u hu;obtain rfl:=aq h;exact⟨[.pointer none],_,rfl,rfl,ih hu⟩
     ·cases h
   | self=>cases h
theorem mR{place:Nat→Option (Nat×Nat)}{fs:List gf}(hpl:∀k o f,lM fs k=some o→fs[k]?=some f→place k=some (o,f.size))(h:bP B N γ σ a w) :
  ∀{parts:List (Nat×Operand)} {v v':au} {cells:Array Value},br γ σ.mem w v .cells cells.toList→fH σ fs v parts=some v' →
   ∃cells',Instr.fill place cells (parts.map fun p=>(p.1,a.eval p.2))=some cells'∧br γ σ.mem w v' .cells cells'.toList:=by
 intro parts;induction parts with
 | nil=>intro v v' cells hv hb;obtain rfl:=aq hb;exact⟨cells,rfl,hv⟩
 | cons p r ih =>
   obtain⟨k,x⟩:=p;intro v v' cells hv hb;simp only[fH] at hb;split at hb
   case h_2=>cases hb
   rename_i o t y0 o' f hf ho KW;cases hc:Nat.beq o o'&&Nat.beq t.size f.size with
   | false=>rw[hc] at hb;cases hb
   | true =>
     rw[hc] at hb;simp only[gD] at hb;simp only[cA] at hc;obtain rfl:=cK hc.1;have hsz:=cK hc.2;split at hb
     case h_2=>cases hb
     rename_i y hy;split at hb
     case h_2=>cases hb
     rename_i v1 hv1;have hx:br γ σ.mem w (bz σ x) .cells (a.eval x).cells.toList:=(h.bz x).fX (fun u e=>by rw[e] at hy;cases hy) (fun e=>by rw[e] at hy;cases hy);have I6:aX w γ.I t y (a.eval x).cells.toList:=sK hy hx;obtain⟨b1,_⟩:=qv hv hf;have KX:o+t.size≤cells.toList.length:=b1;have hl:(a.eval x).cells.toList.length=t.size:=I6.length;have hn:=tj (f:=fun _=>.ret (.data t y)) hv hf (fun z hz=>by obtain rfl:=aq hz;exact I6) hv1 hl;obtain⟨cells',k1,k2⟩:=ih (cells:=(splice cells.toList o (a.eval x).cells.toList).toArray) (by simpa using hn) hb;refine⟨cells',?_,k2⟩;simp only[jj];rw[nF (hpl k o f ho KW) (by rw[hl];exact hsz) (by rw[←hsz];simpa using KX)];exact k1
theorem r8(hc:dy P cx){t:TypeId}{fs:List gf}{z0 p q:au}{parts:Array (Nat×Operand)}(h:bP B N γ σ a w)(hd:∀k,d=some k→k<N)(hO:find cx.jz t=some fs)
  (Gr:iG fs=some z0) (hb:fH σ fs z0 parts.toList=some (.mix p q)) :
  gh P B N γ σ a w d (Instr.build t (parts.map fun(i,x)=>(i,a.eval x))) (σ.aD d (.mix p q)):=by
 have hB:=hc.jz _ _ hO;simp only[u6,cA] at hB;obtain⟨h1,h2⟩:=hB;obtain⟨i,z,i1,i2,i3,i4⟩:=eG h2;split at h1
 case h_2=>cases h1
 rename_i gs hg;obtain⟨pl,p1,p2⟩:=pn h1;obtain⟨cells',k1,c1,c2,e1,e2,e3⟩:=mR (place:=fun k=>pl.toArray[k]?) (fun k o f ho hf=>by have:=p2 k o f ho hf;simpa using this) h
  (v:=z0) (cells:=z.cells) (by rw[i4];exact rm Gr) hb
 have hrun:(Instr.build t (parts.map fun(i,x)=>(i,a.eval x))).run P w=.ok (.agg cells') w:=by
  refine run_build w t _ _ ?_;unfold Program.built;simp only[i1,hg,i3,p1];simpa using k1
 exact aU h hd hrun ⟨c1,c2,by rw[←e1],e2,e3⟩
theorem qy(hc:dy P cx){t:TypeId}{fs:List gf}{z0:au}{u:Ty.unit.den}{parts:Array (Nat×Operand)}(h:bP B N γ σ a w)(hd:∀k,d=some k→k<N)(hO:find cx.jz t=some fs)
  (Gr:iG fs=some z0) (hb:fH σ fs z0 parts.toList=some (.data .unit u)) :
  gh P B N γ σ a w d (Instr.build t (parts.map fun(i,x)=>(i,a.eval x))) (σ.aD d (.data .unit ())):=by
 have hB:=hc.jz _ _ hO;simp only[u6,cA] at hB;obtain⟨h1,h2⟩:=hB;obtain⟨i,z,i1,i2,i3,i4⟩:=eG h2;split at h1
 case h_2=>cases h1
 rename_i gs hg;obtain⟨pl,p1,p2⟩:=pn h1;obtain⟨cells',k1,k2⟩:=mR (place:=fun k=>pl.toArray[k]?) (fun k o f ho hf=>by have:=p2 k o f ho hf;simpa using this) h
  (v:=z0) (cells:=z.cells) (by rw[i4];exact rm Gr) hb
 have hrun:(Instr.build t (parts.map fun(i,x)=>(i,a.eval x))).run P w=.ok (.agg cells') w:=by
  refine run_build w t _ _ ?_;unfold Program.built;simp only[i1,hg,i3,p1];simpa using k1
 have e:cells'.toList=[]:=k2;exact aU h hd hrun ⟨[],rfl,by rw[show cells'=#[] from x4 e];rfl⟩
theorem oE(hc:dy P cx){t:TypeId}{u v:Ty}{parts:Array (Nat×Operand)}{x:(Ty.pair u v).den}(h:bP B N γ σ a w)(hd:∀k,d=some k→k<N)(hT:find cx.T t=some (.pair u v))
  (hb:dx σ (.pair u v) (Ty.pair u v).zero parts.toList=some (x,σ')) :
  gh P B N γ σ a w d (Instr.build t (parts.map fun(i,x)=>(i,a.eval x))) (σ'.aD d (.data (.pair u v) x)):=by
 have hD:=hc.T _ _ hT;obtain⟨fs,f1,f2,_⟩:=hD.pair;obtain⟨pl,p1,p2⟩:=f2.places;obtain⟨i,z,i1,i2,i3,i4⟩:=hD.info;obtain⟨cells',γ',k1,k2,k3,k4⟩:=qx (place:=fun k=>pl.toArray[k]?) (fun k u o hu ho=>by have:=p2 k u o hu ho;simpa using this) h
  (x:=(Ty.pair u v).zero) (cells:=z.cells) (by rw[i4];exact gG w γ.I _) hb
 have hrun:(Instr.build t (parts.map fun(i,x)=>(i,a.eval x))).run P w=.ok (.agg cells') w:=by
  refine run_build w t _ _ ?_;unfold Program.built;simp only[i1,f1,i3,p1];simpa using k1
 exact⟨_,_,γ',hrun,k2.lf hd ⟨_,k4,rfl⟩,by cases d<;>exact k3⟩
theorem pJ(hc:dy P cx){t:TypeId}{n:Nat}{e:Ty}{parts:Array (Nat×Operand)}{l:List e.den}(h:bP B N γ σ a w)(hd:∀k,d=some k→k<N)(hT:find cx.T t=some (.arr n e))
  (hb:dh σ e (List.replicate n e.zero) parts.toList=some (l,σ')) :
  gh P B N γ σ a w d (Instr.build t (parts.map fun(i,x)=>(i,a.eval x))) (σ'.aD d (.data (.arr n e) l)):=by
 have hD:=hc.T _ _ hT;obtain⟨bX,f1,f2,f3⟩:=hD.arr;obtain⟨ie,ze,e1,e2,e3,e4⟩:=f2.info;obtain⟨i,z,i1,i2,i3,i4⟩:=hD.info;obtain⟨cells',γ',k1,k2,k3,k4⟩:=mh (n:=n) (place:=fun k=>some (k*ie.size,ie.size)) (fun k=>by rw[e2]) h
  (l:=List.replicate n e.zero) (cells:=z.cells) (by rw[i4];exact gG w γ.I (.arr n e)) hb
 have hrun:(Instr.build t (parts.map fun(i,x)=>(i,a.eval x))).run P w=.ok (.agg cells') w:=by
  refine run_build w t _ _ ?_;unfold Program.built;simp only[i1,f1,i3,e1];simpa using k1
 exact⟨_,_,γ',hrun,k2.lf hd ⟨_,k4,rfl⟩,by cases d<;>exact k3⟩
theorem jM{e:Ty}{z:Value}(hz:z.cells.toList=cP e)(he:0<e.size)(n:Nat):(madeCells z.cells (n*e.size)).toList=cP (.arr n e):=by
 have hzl:z.cells.size=e.size:=by rw[←cG e,←hz];simp
 apply zN;intro j;have hlen:(cP (.arr n e)).length=n*e.size:=by rw[cG];rfl
 rcases qk j (n*e.size) with hj|hj
 ·have h1:(madeCells z.cells (n*e.size)).toList[j]?=some (z.cells[j % z.cells.size]!):=by simp[madeCells,hj]
  rw[h1];have hdiv:j / e.size<n:=by rw[Gc he];exact hj
  have hk:=cC (cP e) n (j / e.size) hdiv;rw[cG] at hk;have hmod:=Nat.mod_lt j he;have hkk:j / e.size*e.size+j % e.size=j:=by rw[Nat.mul_comm];exact Nat.div_add_mod j e.size
  have h2:(cP (.arr n e))[j]?=(cP e)[j % e.size]?:=by
   conv=>rhs;rw[←hk]
   rw[iO,fF hmod,mz,hkk];rfl
  rw[h2,←hz,hzl];have hm:j % e.size<z.cells.size:=by omega
  simp[hm]
 ·rw[BH (by simp[madeCells];omega),BH (by omega)]
theorem wX{w:World}{I:Nat→Nat→Prop}{e:Ty}{n:Nat}{l:List e.den}{cells:Array Value}{t:TypeId}{blk:Nat}{fr:Nat×Nat}(h:aX w I (.arr n e) l cells.toList)(hg:w.heap[blk]?=some (.cells cells t fr))
  (hI:∀o,I blk o) (hn:n≤maxLen):aX w I (.slice e) l [.slice (some ⟨blk,0,none⟩) n n]:=by
 obtain⟨h1,h2,h3⟩:=h;have h1':l.length=n:=h1;refine .inr ⟨blk,0,n,by rw[←h1'],by rw[←h1'];exact en _,hn,fun i x hx=>?_⟩;have hx':l[i]?=some x:=hx;have hi:i<n:=by have:=(List.getElem?_eq_some_iff.1 hx').1;omega
 have hr:=h3 i x hx';refine⟨_,hr.length,fun j c hj=>⟨?_,hI _⟩,hr⟩;rw[cell_of_heap hg];rw[iO] at hj;split at hj
 ·rw[mz] at hj;rw[kS];simpa using hj
 ·cases hj
theorem qz(hc:dy P cx){t:TypeId}{n:Nat}{e:Ty}{parts:Array (Nat×Operand)}{l:List e.den}(h:bP B N γ σ a w)(hd:∀k,d=some k→k<N)(hT:find cx.T t=some (.slice e))
  (hn:Nat.ble (n*e.size) 65536=true) (hb:dh σ e (List.replicate n e.zero) parts.toList=some (l,σ')) :
  gh P B N γ σ a w d (Instr.buildSlice t n (parts.map fun(i,x)=>(i,a.eval x))) (σ'.aD d (.data (.slice e) l)):=by
 have hD:=hc.T _ _ hT;have hn:n*e.size≤65536:=rR hn;obtain⟨bX,f1,f2,f3,f4⟩:=hD.slice;obtain⟨ie,ze,e1,e2,e3,e4⟩:=f2.info;obtain⟨cells',γ',k1,k2,k3,k4⟩:=mh (n:=n) (place:=fun k=>some (k*ie.size,ie.size)) (fun k=>by rw[e2]) h
  (l:=List.replicate n e.zero) (cells:=madeCells ze.cells (n*e.size)) (by rw[jM e4 f4];exact gG w γ.I (.arr n e)) hb
 obtain⟨m1,m2⟩:=k2.ok.G1 cells' bX;have hrun:(Instr.buildSlice t n (parts.map fun(i,x)=>(i,a.eval x))).run P w=.ok (.slice (some ⟨w.heap.size,0,none⟩) n n) (w.alloc (.cells cells' bX)):=by
  have I7:Instr.fill (fun i=>some (i*ie.size,ie.size)) (madeCells ze.cells (n*ie.size)) (parts.map fun(i,x)=>(i,a.eval x)).toList=some cells':=by rw[e2] at k1⊢;simpa using k1
  by_cases h0:n*ie.size=0
  ·have Gr:madeCells ze.cells (n*ie.size)=#[]:=by rw[h0];simp[madeCells]
   rw[Gr] at I7;simp only[CW] at I7;simp[Instr.buildSlice,run_underlying f1,Go.sizeOf,typeInfo,zeroValue,e1,e3,h0,newRow];have hz:(Array.map (fun x:Nat=>(default:Value)) (Array.range 0))=#[]:=by simp[Array.range]
   rw[hz,I7];rfl
  ·exact run_buildSlice w t bX n _ cells' ie ze f1 e1 e3 (by rw[e2];omega) h0 I7
 refine⟨_,_,_,hrun,k2.aD m2 m1 hd (v:=.data (.slice e) l) ⟨[.slice (some ⟨w.heap.size,0,none⟩) n n],?_,rfl⟩,by cases d<;>exact k3.trans m2⟩;refine wX (aX.mono m2.I m2.cells k4) (heap_alloc_new w _) (fun o=>.inr rfl) ?_;have:n*1≤n*e.size:=Nat.mul_le_mul_left _ f4;have:(65536:Nat)≤maxLen:=by decide
 omega
theorem wY{α:Type}{l r:List α}{c:α}{j:Nat}(h:l.length=j):(l++([c]++r)).take (j+1)=l++[c]:=by
 subst h;rw[List.take_append,EN (by omega)];simp
theorem wZ{place:Nat→Option (Nat×Nat)}(hpl:∀k,place k=some (k,1))(h:bP B N γ σ a w) :
  ∀{parts:List (Nat×Operand)} {k:Nat} {v:au} {cells:Array Value},cells.size=k+parts.length→mI σ k parts=some v →
   ∃vals:List Value,Instr.fill place cells (parts.map fun p=>(p.1,a.eval p.2))=some (cells.toList.take k++vals).toArray∧br γ σ.mem w v .cells vals:=by
 intro parts;induction parts with
 | nil =>
   intro k v cells hs hv;obtain rfl:=aq hv;refine⟨[],?_,rfl⟩;have:cells.toList.take k=cells.toList:=EN (by simp only[BJ,ow] at hs;simp[hs]);rw[this];simp[Instr.fill]
 | cons p r ih =>
   obtain⟨j,x⟩:=p;intro k v cells hs hv;simp only[mI] at hv;cases hj:Nat.beq j k with
   | false=>rw[hj] at hv;cases hv
   | true =>
     rw[hj] at hv;simp only[gD] at hv;obtain rfl:=cK hj;simp only[CV] at hs;have key:∀(u u':au) (c:Value),(∀t,u≠.jT t)→u≠.undef→bz σ x=u→mI σ (j+1) r=some u'→v=.mix u u'→(a.eval x).cells.toList=[c] →
       ∃vals:List Value,Instr.fill place cells (((j,x)::r).map fun p=>(p.1,a.eval p.2))=some (cells.toList.take j++vals).toArray∧br γ σ.mem w v .cells vals:=by
      intro u u' c h1 h2 hu Ff I5 hcell;have hx:=h.bz x;rw[hu] at hx;have hx':=hx.fX h1 (fun e=>absurd e h2);have hlen:(splice cells.toList j [c]).length=cells.toList.length:=bM (by simp;omega);obtain⟨vals,k1,k2⟩:=ih (k:=j+1) (cells:=(splice cells.toList j [c]).toArray) (by simp only[C4,hlen,EO];omega) Ff;have ht:(splice cells.toList j [c]).take (j+1)=cells.toList.take j++[c]:=by
       have:(cells.toList.take j).length=j:=by rw[ig,EO];omega
       simp only[splice];rw[mC,wY this]
      refine⟨c::vals,?_,?_⟩
      ·simp only[jj];rw[nF (hpl j) (by rw[hcell];rfl) (by omega),hcell,k1];rw[ht];simp
      ·rw[I5];exact⟨[c],vals,rfl,by rw[hcell] at hx';exact hx',k2⟩
     split at hv
     ·rename_i u' hu Ff;obtain rfl:=aq hv;have hx:=h.bz x;rw[hu] at hx;obtain hx:a.eval x=_:=by simpa [br] using hx
      exact key .ij u' (.pointer none) (fun t e=>by cases e) (fun e=>by cases e) hu Ff rfl (by rw[hx];rfl)
     ·rename_i b ag q u' hu Ff;obtain rfl:=aq hv;have hx:=h.bz x;rw[hu] at hx;obtain⟨⟨y,hy,ho⟩,_⟩:=hx;obtain rfl:a.eval x=y:=by simpa using hy
      refine key (.ptr b ag q) u' (a.eval x) (fun t e=>by cases e) (fun e=>by cases e) hu Ff rfl ?_;generalize a.eval x=y at ho⊢;cases y<;>first|rfl|(simp[Value.oneCell'] at ho)
     ·rename_i f c u' hu Ff;obtain rfl:=aq hv;have hx:=h.bz x;rw[hu] at hx;obtain⟨arr,hx,_,_⟩:=hx;obtain hx:a.eval x=_:=by simpa using hx
      exact key (.fn f c) u' _ (fun t e=>by cases e) (fun e=>by cases e) hu Ff rfl (by rw[hx];rfl)
     ·cases hv
theorem vg(hc:dy P cx){t:TypeId}{nb n:Nat}{parts:Array (Nat×Operand)}(h:bP B N γ σ a w)(hd:∀k,d=some k→k<N)
  (hr:(nB cx nb d t n parts.toList σ).run=some σ'):gh P B N γ σ a w d (Instr.buildSlice t n (parts.map fun(i,x)=>(i,a.eval x))) σ':=by
 unfold nB at hr;split at hr
 case h_2=>cases hr
 rename_i k e v he hv;obtain⟨hb,eT⟩:=ah hr;simp only[cA] at hb;obtain⟨⟨hn,h0⟩,KY⟩:=hb;obtain rfl:=cK hn;have h0':0<parts.toList.length:=by simpa using h0
 have KZ:parts.toList.length≤64:=rR KY;obtain⟨k1,k2⟩:=lS hc he;obtain⟨_,hs,z,hz,_⟩:=hc.iY _ k2;obtain⟨ie,i1,i2⟩:∃ie,P.info? e=some ie∧ie.size=1:=by
  have:=hs w;cases hi:P.info? e with
  | none=>simp[Go.sizeOf,typeInfo,hi] at this
  | some ie=>simp[Go.sizeOf,typeInfo,hi] at this;exact⟨ie,rfl,this⟩
 obtain⟨z',i3⟩:∃z',ie.zero=some z':=by
  have:=hz w;cases hi:ie.zero with
  | none=>simp[zeroValue,typeInfo,i1,hi] at this
  | some z'=>exact⟨z',rfl⟩
 obtain⟨ag,aE,hr2⟩:=cc eT;obtain rfl:=aq hr2;obtain⟨vals,f1,f2⟩:=wZ (place:=fun i=>some (i*ie.size,ie.size)) (fun j=>by rw[i2];simp) h (k:=0) (cells:=(Array.range (parts.toList.length*ie.size)).map (z'.cells[· % z'.cells.size]!)) (by simp[i2]) hv;have hrun:=run_buildSlice w t e parts.toList.length (parts.map fun(i,x)=>(i,a.eval x)) _ ie z' k1 i1 i3 (by rw[i2];omega) (by rw[i2];omega) (by rw[CW];exact f1);obtain⟨m1,m2⟩:=h.ok.newVar (b:=nb+k) (v:=v) (tid:=0) aE (cs:=((((Array.range (parts.toList.length*ie.size)).map (z'.cells[· % z'.cells.size]!)).toList.take 0)++vals).toArray) e (.inl rfl) (by simpa using f2);refine⟨_,_,_,hrun,h.step m2 m1 (hd k rfl) ?_,m2⟩;refine⟨⟨_,rfl,rfl⟩,cJ (aP _ _) rfl ⟨by simp,w.heap.size,0,by simp[aT],by omega,by omega,by omega,_,_,rfl,by simp,.inr ?_⟩⟩;simp[bC]
theorem qA(hc:dy P cx){t:TypeId}{e:Ty}{nb k:Nat}(h:bP B N γ σ a w)(hd:k<N)(hT:find cx.T t=some (.slice e))
  (hr:(σ.ay (nb+k) (.data (.slice e) ([]:List e.den)) 0 true fun ag σ=>.ret (σ.put k (.whole (nb+k) ag))).run=some σ') :
  gh P B N γ σ a w (some k) (Instr.buildSlice t 0 #[]) σ':=by
 obtain⟨bX,f1,f2,f3,f4⟩:=(hc.T _ _ hT).slice;obtain⟨ie,ze,e1,e2,e3,e4⟩:=f2.info;obtain⟨ag,aE,hr2⟩:=cc hr;obtain rfl:=aq hr2;have hrun:(Instr.buildSlice t 0 #[]).run P w=.ok (.slice (some ⟨w.heap.size,0,none⟩) 0 0) (w.alloc (.cells #[] bX)):=by
  simp[Instr.buildSlice,run_underlying f1,Go.sizeOf,typeInfo,zeroValue,e1,e3,newRow,Instr.fill];have hz:(Array.map (fun x:Nat=>(default:Value)) (Array.range 0))=#[]:=by simp[Array.range]
  rw[hz]
 obtain⟨n1,n2⟩:=h.ok.wS (w':=w.alloc (.cells #[] bX)) (b:=nb+k) (e:=e) (l:=([]:List e.den)) (tid:=0) (ag:=ag) (cap:=0) aE f4
  ((jI.refl _ _).alloc h.ok.base _) (b9 w _) (heap_alloc_new w _) (mN _ _) (.inl rfl) (en _) (kD _) (by simp) (fun i z hz=>by cases hz)
 refine⟨_,_,_,hrun,h.step n2 n1 hd ?_,n2⟩;exact⟨⟨_,rfl,rfl⟩,cJ (aP _ _) rfl ⟨e,0,rfl,rfl,.inr ⟨w.heap.size,0,by simp[aT],rfl⟩⟩⟩
end
end Go.Ge
namespace Go.Ge
open RowKit
section
variable {P:Program} {B:iy} {N:Nat} {γ:Gh} {σ σ':St} {a:Act} {w w':World} {d:Option Nat} {cx:Ctx}
theorem tI:(4294967296:Nat)≤maxLen:=by decide
theorem yy{n:Nat}(h:fits (n:Int)=true):n≤4294967296:=by simp[fits] at h;omega
theorem rq{bX:TypeId}{ie:TypeInfo}(hb:td P bX=true)(hi:P.info? bX=some ie):ie.bytes≤32768:=by
 unfold td at hb;rw[hi] at hb;exact rR hb
theorem lu{mem:Nat→Option aR}{b cap blk:Nat}{bx:aR}{e:Ty}{n:Nat}(aQ:bx.buf=true)(hrow:bx.row=some (e,n)) :
  br (aT γ b (some (blk,cap))) (bD mem b bx) w' (.whole b bx.ag) .val [.slice (some ⟨blk,0,none⟩) n cap] :=
 ⟨⟨_,rfl,rfl⟩,cJ (aP _ _) rfl ⟨e,n,aQ,hrow,.inr ⟨blk,cap,by simp[aT],rfl⟩⟩⟩
theorem r9(hc:dy P cx){t:TypeId}{nb k:Nat}{e:Ty}{x y:Operand}{kl kc:IntKind}{l c:Int}(h:bP B N γ σ a w)(hd:k<N)(hT:find cx.T t=some (.slice e))
  (hx:bz σ x=.data (.int kl) l) (hy:bz σ y=.data (.int kc) c) (hin:inside 0 l c=true) (hf:fits c=true)
  (hr:(σ.ay (nb+k) (.data (.slice e) (wJ l e.zero)) 0 true fun ag σ=>.ret (σ.put k (.whole (nb+k) ag))).run=some σ') :
  gh P B N γ σ a w (some k) (Instr.makeSlice t (a.eval x) (a.eval y)) σ':=by
 obtain⟨ag,aE,hr2⟩:=cc hr;obtain rfl:=aq hr2;obtain⟨_,h0,h1⟩:=fK hin;have K1:c≤4294967296:=by simpa [fits] using hf
 have I8:=h.bz x;have Kg:=h.bz y;rw[hx] at I8;rw[hy] at Kg;obtain⟨ex,_⟩:=iZ I8;obtain⟨ey,_⟩:=iZ Kg;obtain⟨bX,f1,f2,f3,f4⟩:=(hc.T _ _ hT).slice;obtain⟨ie,ze,e1,e2,e3,e4⟩:=f2.info;have hb:=rq f3 e1;have hbytes:(ie.bytes:Int)*c≤281474976710656:=by
  have:(ie.bytes:Int)*c≤32768*c:=Int.mul_le_mul_of_nonneg_right (by omega) (by omega);omega
 have hrun:=run_make (P:=P) w t bX ie ze f1 e1 e3 kl kc l c h0 h1 hbytes (by omega);have hcells:(madeCells ze.cells (c.toNat*ie.size)).toList=cP (.arr c.toNat e):=by rw[e2];exact jM e4 f4 _
 have hlen:(wJ l e.zero).length=l.toNat:=by simp[wJ]
 obtain⟨m1,m2⟩:=h.ok.wS (w':=w.alloc (.cells (madeCells ze.cells (c.toNat*ie.size)) bX)) (b:=nb+k) (e:=e) (l:=wJ l e.zero) (tid:=0) (ag:=ag) (cap:=c.toNat) aE f4
  ((jI.refl _ _).alloc h.ok.base _) (b9 w _) (heap_alloc_new w _) (mN _ _) (.inl rfl) (by rw[hlen];omega) (by have:=tI;omega)
  (by rw[e2];exact size_madeCells _ _) (fun i z hz=>by
   rw[hcells];have EH:(List.replicate l.toNat e.zero)[i]?=some z:=hz;rw[Ga] at EH;split at EH
   ·rename_i hi;obtain rfl:e.zero=z:=by simpa using EH
    have:=cC (cP e) c.toNat i (by omega);rw[cG] at this;rw[show cP (.arr c.toNat e)=(List.replicate c.toNat (cP e)).flatten from rfl,this];exact gG _ _ _
   ·cases EH)
 refine⟨_,_,_,by rw[ex,ey];exact hrun,h.step m2 m1 hd ?_,m2⟩;have:=lu (γ:=γ) (w':=w.alloc (.cells (madeCells ze.cells (c.toNat*ie.size)) bX)) (mem:=σ.mem) (b:=nb+k) (cap:=c.toNat) (blk:=w.heap.size)
  (bx:={ val:=.data (.slice e) (wJ l e.zero),tid:=0,buf:=true,ro:=false,lk:=false,ag }) (e:=e) (n:=l.toNat) rfl (by rw[←hlen];rfl)
 exact this
theorem w4(b:UInt8):IntKind.u8.min≤((b.toNat:Int))∧((b.toNat:Int))≤IntKind.u8.max:=u8_in b
theorem w5(l:List Int):(⟨(cl l).toArray⟩:ByteArray)=strOfNums l:=rfl
theorem B7{I:Nat→Nat→Prop}{l:List Int}{v:Value}{src dst e:TypeId}(h:mP w I (.int .u8) l v)(hs:P.underlying src=some (.slice e))(he:P.underlying e=some (.int .u8))(hd:P.underlying dst=some .string) :
  (convert src dst v).run P w=.ok (.string ⟨(cl l).toArray⟩) w∧l.length≤maxLen:=by
 rcases h with ⟨rfl,base,cap,r1,r2,r3⟩|⟨blk,off,cap,r1,r2,r3,r4⟩
 ·rcases r3 with rfl|⟨blk,off,rfl⟩
  ·rw[r1];refine⟨?_,kD _⟩;cases base with
   | none=>exact run_convert_bytes_nil w src e hs he 0 0 dst hd
   | some ad =>
     rw[run_convert_bytes_string w src dst e _ _ _ hs he hd];have hl:(loadCells ad 0).run P w=.ok #[] w:=run_loadCells_list (P:=P) w ad [] (fun j v hv=>by cases hv);simp[Conv.bytesToString,Sem.run_bind,hl,cl];rfl
  ·rw[r1];refine⟨?_,kD _⟩;exact run_convert_bytes_arg w src e hs he blk off 0 cap [] rfl (fun i hi=>by omega) dst hd
 ·rw[r1];refine⟨?_,gj r2 r3⟩;rw[w5];refine run_convert_bytes_arg w src e hs he blk off l.length cap l rfl (fun i hi=>?_) dst hd;obtain⟨es,g1,g2,g3⟩:=r4 i l[i] (qg hi);obtain⟨rfl,_⟩:=g3;have:=g2 0 _ rfl;simp only[Ty.size,zQ,ow] at this;rw[this];simp[List.getD,qg hi]
theorem qB(l:List Int):(cl l).length=l.length:=by simp[cl]
theorem bytesRow_at{s:List UInt8}{cap i:Nat}{b:UInt8}(hb:s[i]?=some b):((bytesRow ⟨s.toArray⟩ cap).toList.drop (i*1)).take 1=[.int .u8 (b.toNat:Int)]:=by
 have hi:=(List.getElem?_eq_some_iff.1 hb).1;apply zN;intro j;rw[iO];split
 ·rename_i hj;obtain rfl:j=0:=by omega
  rw[mz];simp only[bytesRow,zQ,ow,CU,CW];rw[EL (by simpa using hi)];simp[hb]
 ·rename_i hj;rw[BH (by simp;omega)]
theorem vh(s:ByteArray){cap:Nat}(h:s.size≤cap):(bytesRow s cap).size=cap:=by
 simp only[bytesRow,C5,Array.size_map,Array.size_replicate];have:s.data.size=s.size:=rfl;omega
theorem tJ(hc:dy P cx){nb k:Nat}{src dst:TypeId}{x:Operand}{s:List UInt8}(h:bP B N γ σ a w)(hd:k<N)(hs:find cx.T src=some .str)(hd':find cx.T dst=some (.slice (.int .u8)))
  (hx:bz σ x=.data .str s) (hr:(σ.ay (nb+k) (.data (.slice (.int .u8)) (bO s)) 0 true fun ag σ=>.ret (σ.put k (.whole (nb+k) ag))).run=some σ') :
  gh P B N γ σ a w (some k) (convert src dst (a.eval x)) σ':=by
 have hv:=h.bz x;rw[hx] at hv;obtain⟨ex,hl⟩:=kM hv;obtain⟨ag,aE,eu⟩:=cc hr;obtain rfl:=aq eu;obtain⟨bX,f1,f2,f3,f4⟩:=(hc.T _ _ hd').slice;have hrun:=run_bytes_of_string (P:=P) w src dst bX ⟨s.toArray⟩ (hc.T _ _ hs).str f1 f2.int;have hsz:(⟨s.toArray⟩:ByteArray).size=s.length:=by simp[ByteArray.size]
 rw[hsz] at hrun;have hge:=grownCap_ge w s.length 0 bX;have hle:=grownCap_le_maxLen w s.length 0 bX hl;have hrs:=vh ⟨s.toArray⟩ (cap:=grownCap w s.length 0 bX) (by rw[hsz];exact hge);have hlen:(bO s).length=s.length:=by simp[bO]
 generalize hcap:grownCap w s.length 0 bX=cap at *;obtain⟨m1,m2⟩:=h.ok.wS (b:=nb+k) (e:=.int .u8) (l:=(bO s:List Int)) (tid:=0) (ag:=ag) (cap:=cap)
  (w':=w.drew.alloc (.cells (bytesRow ⟨s.toArray⟩ cap) bX ((bytesRow ⟨s.toArray⟩ cap).size,(bytesRow ⟨s.toArray⟩ cap).size+1)))
  aE (by decide) ((jI.refl B w).drew.alloc h.ok.base _) (b9 w.drew _) (heap_alloc_new w.drew _) ⟨fun o ho hh=>by omega,fun he=>by cases he⟩ (.inl rfl) (gj (wI hlen) hge) hle
  (by rw[hrs];exact(zQ _).symm) (fun i z hz=>by
   have EH:(bO s)[i]?=some z:=hz;simp only[bO,sQ] at EH;cases hb:s[i]? with
   | none=>rw[hb] at EH;cases EH
   | some b =>
     rw[hb] at EH;obtain rfl:(b.toNat:Int)=z:=aq EH;exact⟨bytesRow_at (cap:=cap) hb,w4 b⟩)
 refine⟨_,_,_,by rw[ex];exact hrun,h.step m2 m1 hd ?_,m2⟩;have:=lu (γ:=γ) (mem:=σ.mem) (b:=nb+k) (cap:=cap) (blk:=w.heap.size)
  (bx:={ val:=.data (.slice (.int .u8)) (bO s),tid:=0,buf:=true,ro:=false,lk:=false,ag }) (e:=.int .u8) (n:=s.length)
  (w':=w.drew.alloc (.cells (bytesRow ⟨s.toArray⟩ cap) bX ((bytesRow ⟨s.toArray⟩ cap).size,(bytesRow ⟨s.toArray⟩ cap).size+1))) rfl (by rw[←hlen];rfl)
 exact this
theorem pK(hc:dy P cx){nb:Nat}{src dst:TypeId}{x:Operand}(h:bP B N γ σ a w)(hd:∀k,d=some k→k<N)(hr:(dI cx nb d src dst (bz σ x) σ).run=some σ') :
  gh P B N γ σ a w d (convert src dst (a.eval x)) σ':=by
 have hv:=h.bz x;unfold dI at hr;split at hr
 ·rename_i ks k kx n hs hd' hx;rw[hx] at hv;obtain⟨ex,_⟩:=iZ hv;obtain rfl:=aq hr;refine aU h hd (x:=.int k (k.wrap n)) ?_ (mkInt (cL _ _));rw[ex];simp[convert,run_underlying (hc.T _ _ hs).int,run_underlying (hc.T _ _ hd').int,Conv.intToInt]
 ·rename_i s hs hd' hx;rw[hx] at hv;obtain rfl:=aq hr;obtain⟨ex,hl⟩:=kM hv;refine aU h hd (x:=a.eval x) ?_ hv;rw[ex];simp[convert,run_underlying (hc.T _ _ hs).str,run_underlying (hc.T _ _ hd').str]
 ·rename_i s hs hd' hx;split at hr
  ·rename_i k;obtain⟨hf,hr2⟩:=bu hr;exact tJ hc h (hd k rfl) hs hd' hx hr2
  ·exact absurd hr (by intro k;cases k)
 ·rename_i x0 hs hd';split at hr
  ·rename_i l hl;obtain rfl:=aq hr;obtain⟨bX,f1,f2,f3,f4⟩:=(hc.T _ _ hs).slice;obtain⟨r1,r2⟩:=B7 (dst:=dst) (iA h.ok hv hl) f1 f2.int (hc.T _ _ hd').str;refine aU h hd r1 ⟨_,⟨rfl,?_⟩,rfl⟩;exact gj (wI (qB l)) r2
  ·exact absurd hr (by intro k;cases k)
 ·exact absurd hr (by intro k;cases k)
end
end Go.Ge
namespace Go.Ge
open RowKit
section
variable {P:Program} {B:iy} {N:Nat} {γ:Gh} {σ σ':St} {a:Act} {w w':World} {d:Option Nat} {cx:Ctx}
def cU(w:World)(I:Nat→Nat→Prop)(e:Ty)(l:List e.den)(cs:List Value):Prop :=
 ∀(i:Nat) (x:e.den),l[i]?=some x→aX w I e x ((cs.drop (i*e.size)).take e.size)
theorem fY{α:Type}{a b:List α}{i s:Nat}(h:(i+1)*s≤a.length):((a++b).drop (i*s)).take s=(a.drop (i*s)).take s:=by
 rw[mD] at h;rw[H7 (by omega),List.take_append_of_le_length (by rw[wD];omega)]
theorem cU.append{I:Nat→Nat→Prop}{e:Ty}{l m:List e.den}{c1 c2 rest:List Value}(h1:cU w I e l c1)(h2:cU w I e m c2)(JB:c1.length=l.length*e.size)(zH:c2.length=m.length*e.size) :
  cU w I e (l++m) (c1++c2++rest):=by
 intro i x hx;rw[GQ] at hx;split at hx
 ·rename_i hi;have hm:(i+1)*e.size≤l.length*e.size:=iN _ hi;rw[mC,fY (by omega)];exact h1 i x hx
 ·rename_i hi;have hj:i-l.length<m.length:=(List.getElem?_eq_some_iff.1 hx).1;have hm:(i-l.length+1)*e.size≤m.length*e.size:=iN _ hj;have e1:i*e.size=c1.length+(i-l.length)*e.size:=by rw[JB,←lI];congr 1;omega
  rw[mC,e1,←lH,ou,fY (by omega)];exact h2 _ x hx
theorem cU.front{I:Nat→Nat→Prop}{e:Ty}{l:List e.den}{cs:List Value}{n:Nat}(h:cU w I e l cs)(hn:l.length*e.size≤n)(hc:n≤cs.length):cU w I e l (cs.take n):=by
 intro i x hx;have hi:i<l.length:=(List.getElem?_eq_some_iff.1 hx).1;have hm:(i+1)*e.size≤l.length*e.size:=iN _ hi;have:(((cs.take n)++cs.drop n).drop (i*e.size)).take e.size=((cs.take n).drop (i*e.size)).take e.size:=fY (by rw[ig];omega);rw[←this,wC];exact h i x hx
theorem Fg{I:Nat→Nat→Prop}{e:Ty}{m:List e.den}{v:Value}{tx t0 e':TypeId}(HP:(∃e',P.underlying tx=some (.slice e'))∨P.underlying tx=some .string)(hk:P.underlying t0=some (.slice e'))(h:mP w I e m v) :
  ∃news,Src P e.size tx v m.length news w∧cU w I e m news:=by
 suffices ∃news,Src P e.size t0 v m.length news w∧cU w I e m news by
  obtain⟨news,n1,n2⟩:=this;exact⟨news,⟨HP,n1.len,n1.cells,n1.cellsD,n1.newsLen,n1.one⟩,n2⟩
 rcases h with ⟨rfl,base,cap,r1,r2,r3⟩|⟨blk,off,cap,r1,r2,r3,r4⟩
 ·refine⟨[],?_,fun i x hx=>by cases hx⟩;rcases r3 with rfl|⟨blk,off,rfl⟩
  ·rw[r1];cases base with
   | none=>exact Src.ofNil w hk 0
   | some ad=>exact Src.ofSlice w hk ad 0 0 [] (by simp) (fun j u hj=>by cases hj) (fun u hu=>by cases hu)
  ·rw[r1];exact Src.ofSlice w hk _ 0 cap [] (by simp) (fun j u hj=>by cases hj) (fun u hu=>by cases hu)
 ·obtain⟨news,n1,n2,n3,n4⟩:=tF (w:=w) r4;refine⟨news,?_,n4⟩;rw[r1];exact Src.ofSlice w hk _ m.length cap news n1 (fun j u hj=>by rw[addr_add];exact n2 j u hj) n3
theorem Fh{I:Nat→Nat→Prop}{s:List UInt8}{tx:TypeId}(hk:(∃e',P.underlying tx=some (.slice e'))∨P.underlying tx=some .string) :
  ∃news,Src P 1 tx (.string ⟨s.toArray⟩) (bO s).length news w∧cU w I (.int .u8) (bO s:List Int) news:=by
 have hlen:(bO s).length=(⟨s.toArray⟩:ByteArray).size:=by simp[bO,ByteArray.size]
 refine⟨byteCells ⟨s.toArray⟩,by rw[hlen];exact⟨hk,fun _=>rfl,firstCells_string _ w,firstCells_string _ w.drew,by rw[byteCells_length,zQ],fun u hu=>by
  obtain⟨_,_,rfl⟩:=List.mem_map.1 hu;rfl⟩,fun i x hx=>?_⟩
 have hx':(bO s)[i]?=some x:=hx;simp only[bO,sQ] at hx';cases hb:s[i]? with
 | none=>rw[hb] at hx';cases hx'
 | some b =>
   rw[hb] at hx';obtain rfl:(b.toNat:Int)=x:=aq hx';refine⟨?_,w4 b⟩;apply zN;intro j;rw[iO];split
   ·rename_i hj;obtain rfl:j=0:=by simp[Ty.size] at hj;exact hj
    rw[mz];simp[byteCells,Ty.size,hb]
   ·rename_i hj;rw[BH (by simp[Ty.size] at hj⊢;omega)]
theorem tK{I:Nat→Nat→Prop}{t tx ty bX:TypeId}{e:Ty}{l m:List e.den}{base:Option Addr}{sCap:Nat}{olds news:List Value}{x:Value}(ht:P.underlying t=some (.slice bX))(he:Den P e bX)(hb:td P bX=true)
  (hold:(Builtin.firstCells e.size l.length (.slice base l.length sCap)).run P w.drew=.ok olds.toArray w.drew) (hol:olds.length=l.length*e.size) (ho:cU w I e l olds)
  (hs:Src P e.size tx x m.length news w) (hn:cU w I e m news) (hg:sCap<l.length+m.length) (hf:l.length+m.length≤4294967296) :
  ∃(cap:Nat) (cells:Array Value),(Builtin.append_ #[t,tx] ty #[.slice base l.length sCap,x]).run P w=.ok (.slice (some ⟨w.heap.size,0,none⟩) (l.length+m.length) cap) (w.drew.alloc (.cells cells bX)) ∧
   l.length+m.length≤cap∧cap≤maxLen∧cells.size=cap*e.size∧cU w I e (l++m) cells.toList:=by
 obtain⟨ie,ze,e1,e2,e3,e4⟩:=he.info;have hby:=rq hb e1;have hfit:=growslice_fits (need:=l.length+m.length) (old:=sCap) (bytes:=ie.bytes) hg (by
  have:(l.length+m.length)*ie.bytes≤4294967296*32768:=Nat.mul_le_mul hf hby;omega)
 have hrun:=run_append_grow_src (P:=P) w t tx ty bX ie ze ht e1 e3 base l.length sCap olds (by rw[e2];exact hold) x m.length news (by rw[e2];exact hs) hg (by omega) hfit;have hge:=grownCap_ge w (l.length+m.length) sCap bX;have hle:=grownCap_le_maxLen w (l.length+m.length) sCap bX (by have:=tI;omega);have hzl:ze.cells.size=e.size:=by rw[←cG e,←e4];simp
 refine⟨_,_,hrun,hge,hle,?_,?_⟩
 ·have HQ:=hs.newsLen;have hsz:(Builtin.zeroCells ze.cells (grownCap w (l.length+m.length) sCap bX-(l.length+m.length))).size=(grownCap w (l.length+m.length) sCap bX-(l.length+m.length))*e.size:=by
   simp[Builtin.zeroCells,hzl]
  rw[C5,hsz];simp only[C4,ji,hol,HQ];rw[←lI,←lI]
  congr 1;omega
 ·rw[CU];exact ho.append hn hol hs.newsLen
theorem aN.grow{mem:Nat→Option aR}(h:aN B γ mem w){b:Nat}{bx:aR}(hb:mem b=some bx){e:Ty}{l l':List e.den}(aQ:bx.buf=true)(hval:bx.val=.data (.slice e) l){blk cap:Nat}(hl:γ.loc b=some (blk,cap))
  {cur cur':Array Value} {t:TypeId} {fr:Nat×Nat} (hg:w.heap[blk]?=some (.cells cur t fr)) (CI:EF e cur fr) (de:bx.tid=0∨t=bx.tid) (hs:cur'.size=cur.size) (hsame:∀o,o<l.length*e.size→cur'[o]?=cur[o]?)
  (he:0<e.size) (hle:l.length≤l'.length) (hcap:l'.length≤cap) (hmax:cap≤maxLen) (hsz:cur.size=cap*e.size) (hel:cU w γ.I e l' cur'.toList) :
  let eg:aR:={ bx with val:=.data (.slice e) l',ag:=bx.ag+1 }
  aN B γ (bD mem b eg) (w.setRow blk cur')∧Ext B γ mem w γ (bD mem b eg) (w.setRow blk cur'):=by
 intro eg;have hf:=h.fresh b blk cap (by rw[hb];simp) hl;have E5:=setRow_heap w blk cur cur' t fr hg;have kL:∀i,i≠blk→(w.setRow blk cur').heap[i]?=w.heap[i]?:=fun i hi=>setRow_other w blk i cur' (fun e=>hi e);have hrow:=aR.bQ aQ hval;have hx:Ext B γ mem w γ (bD mem b eg) (w.setRow blk cur') :=
  { below:=⟨rfl,rfl,rfl,by simp,fun i hi=>kL i (fun e=>hi (by rw[e];exact hf.1))⟩
    I:=fun _ _ x=>x
    jK:=fun _ _ x=>.inl x
    cells:=fun c o x=>by
     by_cases e':c=blk
     ·subst e';have:=(h.sep b bx c cap o hb hl x).2 aQ e l.length hrow;rw[cell_of_heap E5,cell_of_heap hg];exact hsame o this
     ·exact dD (kL c e')
    boxes:=fun c cx hc=>by
     by_cases e':c=b
     ·subst e';obtain rfl:cx=bx:=aq (hc.symm.trans hb);exact⟨eg,aP _ _,Nat.le_succ _,fun k=>absurd k (by simp[eg])⟩
     ·exact⟨cx,by rw[az _ e'];exact hc,en _,fun _=>⟨rfl,rfl,rfl⟩⟩ }
 refine⟨?_,hx⟩;exact
  { b6:=h.pe hx
    base:=by have:=h.base;simpa using this
    boxes:=fun c cx hc=>by
     by_cases e':c=b
     ·subst e';rw[aP] at hc;obtain rfl:=aq hc;unfold bB;simp only[eg,aQ];exact⟨e,l',rfl,he,.inr ⟨blk,cap,cur',t,fr,hl,E5,CI.same hs,de,hcap,hmax,by rw[hs];exact hsz,fun i x hi=>aX.mono hx.I hx.cells (hel i x hi)⟩⟩
     ·rw[az _ e'] at hc;refine(h.boxes c cx hc).keep hx rfl fun b7 k' hl'=>kL b7 fun e2=>e' ?_;subst e2;exact h.inj c b b7 k' cap (by rw[hc];simp) (by rw[hb];simp) hl' hl
    inj:=fun c d b7 k1 k2 hc hd h1 h2=>h.inj c d b7 k1 k2 (by
     by_cases e:c=b
     ·subst e;rw[hb];simp
     ·rwa [az _ e] at hc) (by
     by_cases e:d=b
     ·subst e;rw[hb];simp
     ·rwa [az _ e] at hd) h1 h2
    fresh:=fun c b7 k' hc h1=>by
     have:=h.fresh c b7 k' (by
      by_cases e:c=b
      ·subst e;rw[hb];simp
      ·rwa [az _ e] at hc) h1
     exact⟨this.1,by simpa using this.2⟩
    jJ:=fun b7 off hi=>by have:=h.jJ b7 off hi;simpa using this
    sep:=fun c cx b7 k' off hc h1 hi=>by
     by_cases e':c=b
     ·subst e';rw[aP] at hc;obtain rfl:=aq hc;obtain⟨s1,s2⟩:=h.sep c bx b7 k' off hb h1 hi;refine⟨s1,fun _ u n hr=>?_⟩;have hr2:eg.row=some (e,l'.length):=aR.bQ (bx:=eg) aQ rfl;rw[hr2] at hr;obtain⟨rfl,rfl⟩:=bY (aq hr);have:=s2 aQ e l.length hrow;exact qh this (iN _ hle)
     ·rw[az _ e'] at hc;exact h.sep c cx b7 k' off hc h1 hi }
theorem Dy(hm:aN B γ σ.mem w){e:Ty}{m:List e.den}{x:au}{v:Value}{tx t0 e':TypeId}(HP:(∃e',P.underlying tx=some (.slice e'))∨P.underlying tx=some .string)(hk:P.underlying t0=some (.slice e'))
  (hv:br γ σ.mem w x .val [v]) (h:jC e σ x=some m):∃news,Src P e.size tx v m.length news w∧cU w γ.I e m news:=by
 unfold jC at h;split at h
 ·rename_i t;obtain⟨q,hq⟩:=eO h;subst q;subst hq;obtain⟨ev,_⟩:=kM hv;rw[ev];exact Fh HP
 ·exact Fg HP hk (iA hm hv h)
theorem lU{α:Type}{c:Bool}{t:Tree α}{y:α}(h:(bif c then .fail else t).run=some y):c=false∧t.run=some y:=by
 cases c with
 | true=>cases h
 | false=>exact⟨rfl,h⟩
theorem gV{base:Option Addr}{t tx ty bX:TypeId}{size:Nat}{x:Value}{news:List Value}(ht:P.underlying t=some (.slice bX))(hsz:(Go.sizeOf bX).run P w=.ok size w)(hs:Src P size tx x 0 news w) :
  (Builtin.append_ #[t,tx] ty #[.slice base 0 0,x]).run P w=.ok (.slice base 0 0) w:=by
 cases base with
 | none=>rcases hs.kind with ⟨e',hk⟩|hk<;>simp[Builtin.append_,run_underlying ht,run_underlying hk,hsz,hs.len,hs.cells]
 | some ad =>
   have hn:news=[]:=by have:=hs.newsLen;simpa using this
   subst hn;rcases hs.kind with ⟨e',hk⟩|hk<;>simp[Builtin.append_,run_underlying ht,run_underlying hk,hsz,hs.len,hs.cells,storeCells]
theorem nS(size:Nat)(base:Option Addr):(Builtin.firstCells size 0 (.slice base 0 0)).run P w=.ok #[] w:=by
 cases base with
 | none=>exact run_firstCells_none w size 0 0 0
 | some ad=>exact run_firstCells_some w size 0 ad 0 0 [] (by simp) (fun j v hj=>by cases hj)
theorem lV{t tx ty bX:TypeId}{size:Nat}{x:Value}{news:List Value}{n sLen sCap blk:Nat}{cur:Array Value}{tt:TypeId}{fr:Nat×Nat}(ht:P.underlying t=some (.slice bX))(hsz:(Go.sizeOf bX).run P w=.ok size w)
  (hs:Src P size tx x n news w) (hg:w.heap[blk]?=some (.cells cur tt fr)) (CI:iw cur fr) (hroom:sLen+n≤sCap) (hle:sLen*size+news.length≤cur.size) :
  (Builtin.append_ #[t,tx] ty #[.slice (some ⟨blk,0,none⟩) sLen sCap,x]).run P w=.ok (.slice (some ⟨blk,0,none⟩) (sLen+n) sCap) (w.setRow blk (splice cur.toList (sLen*size) news).toArray):=by
 have hst:=cm (P:=P) blk (sLen*size) tt fr news 0 cur w hg CI (by omega) hs.one;simp only[ow] at hst;rcases hs.kind with ⟨e',hk⟩|hk<;>simp[Builtin.append_,run_underlying ht,run_underlying hk,hsz,hs.len,hroom,hs.cells,addr_add,hst]
theorem oF{cs es:List Value}{k o:Nat}(h:o<k)(hk:k≤cs.length):(splice cs k es)[o]?=cs[o]?:=by
 rw[splice,mC,EL (by rw[ig];omega),iO,fF h]
theorem qC(hc:dy P cx){nb:Nat}{t tx ty:TypeId}{s x:Operand}(h:bP B N γ σ a w)(hd:∀k,d=some k→k<N)(HP:(∃e',P.underlying tx=some (.slice e'))∨P.underlying tx=some .string)
  (hr:(dM cx nb d t (bz σ s) (bz σ x) σ).run=some σ'):gh P B N γ σ a w d (Builtin.append_ #[t,tx] ty #[a.eval s,a.eval x]) σ':=by
 have hvs:=h.bz s;have I8:=h.bz x;unfold dM at hr;split at hr
 case h_2=>exact absurd hr (by intro k;cases k)
 rename_i _ _ k e hT;obtain⟨bX,f1,f2,f3,f4⟩:=(hc.T _ _ hT).slice;have hsz:=f2.sizeOf w;split at hr
 case h_2=>exact absurd hr (by intro k;cases k)
 rename_i m hm;have hm:jC e σ (bz σ x)=some m:=hm;obtain⟨news,n1,n2⟩:=Dy h.ok HP f1 I8 hm;split at hr
 ·rename_i hs;rw[hs] at hvs;obtain EI:a.eval s=_:=by simpa [br] using hvs
  obtain⟨hf,hr2⟩:=bu hr;have hf:m.length≤4294967296:=yy hf;obtain⟨ag,aE,eu⟩:=cc hr2;obtain rfl:=aq eu;rw[EI];rcases ER m.length with h0|h0
  ·obtain rfl:m=[]:=List.length_eq_zero_iff.1 h0;obtain⟨m1,m2⟩:=h.ok.tr (b:=nb+k) (tid:=0) aE f4;refine⟨_,_,_,gV f1 hsz n1,h.step m2 m1 (hd k rfl) ?_,m2⟩;exact⟨⟨_,rfl,rfl⟩,cJ (aP _ _) rfl ⟨e,0,rfl,rfl,.inl ⟨by simp[aT],rfl⟩⟩⟩
  ·obtain⟨cap,cells,g1,g2,g3,g4,g5⟩:=tK (I:=γ.I) (ty:=ty) (l:=([]:List e.den)) (base:=none) (sCap:=0) (olds:=[]) f1 f2 f3 (by simpa using run_firstCells_none w.drew e.size 0 0 0) (by simp) (fun i x hx=>by cases hx) n1 n2
    (by simpa using h0) (by simpa using hf)
   simp only[BJ,kS,zP] at g1 g2 g5;obtain⟨m1,m2⟩:=h.ok.wS (b:=nb+k) (e:=e) (l:=m) (tid:=0) (ag:=ag) (cap:=cap) aE f4 ((jI.refl B w).drew.alloc h.ok.base _) (b9 w.drew _) (heap_alloc_new w.drew _) (mN _ _) (.inl rfl) g2 g3 g4 g5;refine⟨_,_,_,g1,h.step m2 m1 (hd k rfl) ?_,m2⟩;exact lu (bx:={ val:=.data (.slice e) m,tid:=0,buf:=true,ro:=false,lk:=false,ag }) (e:=e) (n:=m.length) rfl rfl
 ·rename_i b ag hs;rw[hs] at hvs;split at hr
  case h_2=>exact absurd hr (by intro k;cases k)
  rename_i bx l hb hl;obtain⟨eg,hb',aE,aQ,fT⟩:∃bx,σ.mem b=some bx∧bx.ag=ag∧bx.buf=true∧bx.val=.data (.slice e) l:=by
   rcases fL hl with q|⟨q,_⟩|⟨b',Aa,eg,q,h1,h2,h3,h4⟩|⟨_,_,_,_,_,q,_⟩
   ·cases q
   ·cases q
   ·cases q;exact⟨eg,h1,h2,h3,h4⟩
   ·cases q
  obtain rfl:bx=eg:=aq (hb.symm.trans hb')
  ·obtain⟨hlk,eT⟩:=lU hr;obtain⟨hf,hr2⟩:=bu eT;obtain rfl:=aq hr2;have hf:l.length+m.length≤4294967296:=by
    have:fits (((l.length+m.length:Nat)):Int)=true:=by rw[←hf];simp[plus,len]
    exact yy this
   have de:bx.tid=0∨bX=bx.tid:=by
    simp only[uZ,Bool.not_eq_false'] at hlk;have h2:=hlk.2;unfold GS at h2;simp only[sR] at h2;rcases h2 with h2|h2
    ·exact .inl (cK h2)
    ·split at h2
     ·rename_i e' he';have:=hc.els _ _ he';rw[f1] at this;have h4:bX=e':=by injection this with this;injection this
      exact .inr (h4.trans (cK h2))
     ·cases h2
   subst aE;obtain⟨e2,L1,g1,g2,g3⟩:=aF hb rfl hvs.2;rw[aR.bQ aQ fT] at g2;obtain⟨rfl,rfl⟩:=bY (aq g2);have eH:=h.ok.boxes b bx hb;rw[bB,aQ] at eH;obtain⟨e3,l3,q1,q2,q3⟩:=eH;rw[fT] at q1;cases q1;have Ah:(app (α:=e.den) l m).length=l.length+m.length:=ji;rcases g3 with ⟨g3,g4⟩|⟨blk,cap,g3,g4⟩
   ·obtain EI:a.eval s=_:=by simpa using g4
    have CL:l=[]:=by
     rcases q3 with ⟨_,q3⟩|⟨blk,cap,cur,tid,fr,q3,_⟩
     ·exact q3
     ·rw[g3] at q3;cases q3
    subst CL;rw[EI];rcases ER m.length with h0|h0
    ·obtain rfl:m=[]:=List.length_eq_zero_iff.1 h0;have gN:bB (aT γ b none) (bD σ.mem b { bx with val:=.data (.slice e) ([]:List e.den),ag:=bx.ag+1 }) w b { bx with val:=.data (.slice e) ([]:List e.den),ag:=bx.ag+1 }:=by
      unfold bB;simp only[aQ];exact⟨e,[],rfl,f4,.inl ⟨by simp[aT],rfl⟩⟩
     have CN:∀bT,σ.mem b=some bT→bT.ag<bx.ag+1:=fun bT h0=>by rw[hb] at h0;obtain rfl:=aq h0;omega
     have m1:=h.ok.add (L:=none) CN (jI.refl B w) (fun _ _=>rfl) (fun blk k e=>by cases e) gN;have m2:=jm (L:=none) h.ok (bx:={ bx with val:=.data (.slice e) ([]:List e.den),ag:=bx.ag+1 }) CN (jI.refl B w) (fun _ _=>rfl);refine⟨_,_,_,gV f1 hsz n1,h.step m2 m1 (hd k rfl) ?_,m2⟩;exact⟨⟨_,rfl,rfl⟩,cJ (aP _ _) rfl ⟨e,0,aQ,aR.bQ (bx:={ bx with val:=.data (.slice e) ([]:List e.den),ag:=bx.ag+1 }) aQ rfl,.inl ⟨by simp[aT],rfl⟩⟩⟩
    ·obtain⟨cap,cells,j1,j2,j3,j4,j5⟩:=tK (I:=γ.I) (ty:=ty) (l:=([]:List e.den)) (base:=none) (sCap:=0) (olds:=[]) f1 f2 f3 (by simpa using nS (w:=w.drew) e.size none) (by simp) (fun i x hx=>by cases hx) n1 n2
      (by simpa using h0) (by simpa using hf)
     have CN:∀bT,σ.mem b=some bT→bT.ag<bx.ag+1:=fun bT h0=>by rw[hb] at h0;obtain rfl:=aq h0;omega
     have hw:jI B w (w.drew.alloc (.cells cells bX)):=(jI.refl B w).drew.alloc h.ok.base _;have m2:=jm (L:=some (w.heap.size,cap)) h.ok (bx:={ bx with val:=.data (.slice e) (app (α:=e.den) [] m),ag:=bx.ag+1 }) CN hw (b9 w.drew _);have gN:bB (aT γ b (some (w.heap.size,cap))) (bD σ.mem b { bx with val:=.data (.slice e) (app (α:=e.den) [] m),ag:=bx.ag+1 }) (w.drew.alloc (.cells cells bX)) b { bx with val:=.data (.slice e) (app (α:=e.den) [] m),ag:=bx.ag+1 }:=by
      unfold bB;simp only[aQ];exact⟨e,_,rfl,f4,.inr ⟨w.heap.size,cap,cells,bX,(0,0),by simp[aT],heap_alloc_new w.drew _,mN _ _,de,by rw[Ah];exact j2,j3,j4,fun i x hi=>aX.mono m2.I m2.cells (j5 i x hi)⟩⟩
     have m1:=h.ok.add (L:=some (w.heap.size,cap)) CN hw (b9 w.drew _) (fun blk k e=>by obtain⟨rfl,rfl⟩:=bY (aq e);exact⟨en _,(Array.getElem?_eq_some_iff.1 (heap_alloc_new w.drew _)).1⟩) gN;refine⟨_,_,_,j1,h.step m2 m1 (hd k rfl) ?_,m2⟩;exact lu (bx:={ bx with val:=.data (.slice e) (app (α:=e.den) [] m),ag:=bx.ag+1 }) (e:=e) (n:=List.length (α:=e.den) []+m.length) aQ (by rw[←Ah];exact aR.bQ (bx:={ bx with val:=.data (.slice e) (app (α:=e.den) [] m),ag:=bx.ag+1 }) aQ rfl)
   ·obtain EI:a.eval s=_:=by simpa using g4
    rw[EI];rcases q3 with ⟨q3,_⟩|⟨b7,cap',cur,tid,fr,q3,q4,q5,Ir,q6,q7,q8,q9⟩
    ·rw[g3] at q3;cases q3
    rw[g3] at q3;obtain⟨rfl,rfl⟩:=bY (aq q3);have hcl:cur.toList.length=cap*e.size:=by simpa using q8
    have hlc:l.length*e.size≤cap*e.size:=iN _ q6;rcases qk cap (l.length+m.length) with hgt|hle
    ·have K2:=run_firstCells_some (P:=P) w.drew e.size l.length ⟨blk,0,none⟩ l.length cap (cur.toList.take (l.length*e.size)) (by rw[ig];omega) (fun j v hj=>by
      rw[addr_add];show w.cell? ⟨blk,0+j,none⟩=some v
      rw[cell_of_heap q4];rw[iO] at hj;split at hj
      ·simpa using hj
      ·cases hj)
     obtain⟨cap2,cells,j1,j2,j3,j4,j5⟩:=tK (I:=γ.I) (ty:=ty) (l:=l) (base:=some ⟨blk,0,none⟩) (sCap:=cap) f1 f2 f3 K2 (by rw[ig];omega) (cU.front q9 (en _) (by omega)) n1 n2 hgt hf;have CN:∀bT,σ.mem b=some bT→bT.ag<bx.ag+1:=fun bT h0=>by rw[hb] at h0;obtain rfl:=aq h0;omega
     have hw:jI B w (w.drew.alloc (.cells cells bX)):=(jI.refl B w).drew.alloc h.ok.base _;have m2:=jm (L:=some (w.heap.size,cap2)) h.ok (bx:={ bx with val:=.data (.slice e) (app (α:=e.den) l m),ag:=bx.ag+1 }) CN hw (b9 w.drew _);have gN:bB (aT γ b (some (w.heap.size,cap2))) (bD σ.mem b { bx with val:=.data (.slice e) (app (α:=e.den) l m),ag:=bx.ag+1 }) (w.drew.alloc (.cells cells bX)) b { bx with val:=.data (.slice e) (app (α:=e.den) l m),ag:=bx.ag+1 }:=by
      unfold bB;simp only[aQ];exact⟨e,_,rfl,f4,.inr ⟨w.heap.size,cap2,cells,bX,(0,0),by simp[aT],heap_alloc_new w.drew _,mN _ _,de,by rw[Ah];exact j2,j3,j4,fun i x hi=>aX.mono m2.I m2.cells (j5 i x hi)⟩⟩
     have m1:=h.ok.add (L:=some (w.heap.size,cap2)) CN hw (b9 w.drew _) (fun blk k e=>by obtain⟨rfl,rfl⟩:=bY (aq e);exact⟨en _,(Array.getElem?_eq_some_iff.1 (heap_alloc_new w.drew _)).1⟩) gN;refine⟨_,_,_,j1,h.step m2 m1 (hd k rfl) ?_,m2⟩;exact lu (bx:={ bx with val:=.data (.slice e) (app (α:=e.den) l m),ag:=bx.ag+1 }) (e:=e) (n:=l.length+m.length) aQ (by rw[←Ah];exact aR.bQ (bx:={ bx with val:=.data (.slice e) (app (α:=e.den) l m),ag:=bx.ag+1 }) aQ rfl)
    ·have HQ:=n1.newsLen;have hmul:(l.length+m.length)*e.size≤cap*e.size:=iN _ hle;rw[lI] at hmul;have hlen:l.length*e.size+news.length≤cur.toList.length:=by rw[HQ,hcl];exact hmul
     have hrun:=lV (P:=P) (t:=t) (tx:=tx) (ty:=ty) (sCap:=cap) f1 hsz n1 q4 q5.th hle (by simpa using hlen);have Dw:(splice cur.toList (l.length*e.size) news).toArray.size=cur.size:=by have:=bM hlen;simpa using this
     obtain⟨m1,m2⟩:=h.ok.grow hb aQ fT g3 q4 q5 Ir (cur':=(splice cur.toList (l.length*e.size) news).toArray) (l':=app (α:=e.den) l m) Dw (fun o ho=>by
      have:=oF (es:=news) ho (by omega:l.length*e.size≤cur.toList.length);simpa using this) f4 (by rw[Ah];omega) (by rw[Ah];exact hle) q7 q8 (by
      have:=(cU.front q9 (en _) (by omega:l.length*e.size≤cur.toList.length)).append (rest:=cur.toList.drop (l.length*e.size+news.length)) n2 (by rw[ig];omega) HQ;exact this)
     refine⟨_,_,γ,hrun,h.step m2 m1 (hd k rfl) ?_,m2⟩;exact⟨⟨_,rfl,rfl⟩,cJ (aP _ _) rfl ⟨e,l.length+m.length,aQ,by rw[←Ah];exact aR.bQ (bx:={ bx with val:=.data (.slice e) (app (α:=e.den) l m),ag:=bx.ag+1 }) aQ rfl,.inr ⟨blk,cap,g3,rfl⟩⟩⟩
 ·exact absurd hr (by intro k;cases k)
end
end Go.Ge
