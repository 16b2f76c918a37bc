/- A ghost interpreter of the model's code, and that it tells the truth: part 4. It says of a function of plain data what a call of it comes to. -/
import Derived.Test.YtkmbhcglaophaaaGeC
import Derived.Great.BuildSlice
import Derived.Laws.IdiomStrings
import Derived.Laws.BytesArg
import Derived.Laws.MakeOwn
import Derived.Deep.AppendSrc
set_option linter.unusedVariables false
set_option linter.unusedSimpArgs false
set_option linter.unusedSectionVars false
namespace Go.Ge
open RowKit
section
variable {P:Program} {B:iP} {N:Nat} {γ:Gh} {σ σ':St} {a:Act} {w:World} {d:Option Nat} {cx:Ctx}
theorem BX{bx:aI}{k:Nat}{c v:av}{f:av→Tree av}(hb:bx.buf=false)(hv:bx.val=v)(h:(rH v k f).run=some c):({ bx with val:=c }:aI).row=bx.row:=by
 obtain⟨val,tid,buf,ro,lk,ag⟩:=bx;subst hb;subst hv;cases val with
 | data t x =>
   obtain⟨y,h1,h2⟩:=bind_some (show((tZ t x k f).bind fun y=>.ret (.data t y)).run=some c from h);obtain rfl:=au h2;cases t with
   | arr n e=>cases k<;>exact absurd h1 (by intro k;cases k)
   | _=>rfl
 | mix p q =>
   cases k with
   | zero =>
     obtain⟨y,h1,h2⟩:=bind_some (show((f p).bind fun v=>.ret (.mix v q)).run=some c from h);obtain rfl:=au h2;rfl
   | succ k =>
     obtain⟨y,h1,h2⟩:=bind_some (show((rH q k f).bind fun v=>.ret (.mix p v)).run=some c from h);obtain rfl:=au h2;rfl
 | _=>exact absurd h (by intro k;cases k)
theorem Ia{bx:aI}{e:Ty}{l:List e.den}{i:Int}{y:e.den}(hb:bx.buf=true)(hv:bx.val=.data (.slice e) l):({ bx with val:=.data (.slice e) (mF l i y) }:aI).row=bx.row:=by
 rw[aI.bD hb hv,aI.bD (bx:={ bx with val:=.data (.slice e) (mF l i y) }) (l:=mF l i y) hb rfl];simp[mF]
theorem sL{bx:aI}{p:List pI}{v c:av}(h:(ua bx.buf p bx.val v).run=some c)(h0:p=[]→bx.buf=false→({ bx with val:=v }:aI).row=bx.row) :
  ({ bx with val:=c }:aI).row=bx.row:=by
 unfold ua at h;split at h
 ·rename_i aJ;cases p with
  | nil=>obtain rfl:=au h;exact h0 rfl aJ
  | cons s p =>
    cases s with
    | yp k off=>exact BX aJ rfl h
    | idx i size =>
      simp only[lz] at h;split at h
      ·rename_i n e l hv;obtain⟨x,hx,h2⟩:=aR h;obtain⟨z,hz,h3⟩:=bind_some h2;split at h3
       ·obtain rfl:=au h3;rw[aI.ia aJ hv];exact aI.ia (bx:={ bx with val:=_ }) aJ rfl
       ·exact absurd h3 (by intro k;cases k)
      ·exact absurd h (by intro k;cases k)
 ·rename_i aJ;split at h
  ·rename_i i size p e l hv;obtain⟨x,hx,h2⟩:=aR h;obtain⟨z,hz,h3⟩:=bind_some h2;split at h3
   ·obtain rfl:=au h3;exact Ia aJ hv
   ·exact absurd h3 (by intro k;cases k)
  ·exact absurd h (by intro k;cases k)
theorem oZ(h:bE B N γ σ a w){b ag:Nat}{p:List pI}{fit:av→Bool}{u:av}{es:List Value}(hr:(storeAt b ag p fit u σ).run=some σ')(hu:aV γ σ.mem w u .cells es)
  (hlen:∀old,fit old=true→es.length=bA old) (hrow:∀bx:aI,fit bx.val=true→bx.buf=false→({ bx with val:=u }:aI).row=bx.row)
  {blk cap:Nat} (hl:γ.loc b=some (blk,cap)) :
  ∃w',(storeCells ⟨blk,bt p,none⟩ es).run P w=.ok () w'∧bE B N γ σ' a w'∧Ext B γ σ.mem w γ σ'.mem w':=by
 unfold storeAt at hr;split at hr
 case h_2=>exact absurd hr (by intro k;cases k)
 rename_i bx hb;obtain⟨hc,hr2⟩:=ai hr;simp only[bY,oh] at hc;obtain⟨⟨aC,hlk⟩,hro⟩:=hc;obtain⟨old,hn,dV⟩:=bind_some hr2;obtain⟨hfit,fZ⟩:=ai dV;obtain⟨c,hs,wM⟩:=bind_some fZ;obtain rfl:=au wM;have hel:=hlen old hfit;have hrw:({ bx with val:=c }:aI).row=bx.row:=sL hs fun hp aJ=>by
  subst hp;rw[aJ] at hn;obtain rfl:=au hn;exact hrow bx hfit aJ
 have ew:=h.ok.boxes b bx hb;unfold bn at ew;unfold D0 at hn;unfold ua at hs;have Oa:bx.buf=false∨bx.buf=true:=by cases bx.buf<;>simp
 rcases Oa with aJ|aJ
 ·rw[aJ] at ew hn hs;obtain⟨bQ,cap',cur,tid,fr,h1,h2,h3,cQ,h4⟩:=ew;rw[hl] at h1;obtain⟨rfl,rfl⟩:=bM (au h1);obtain⟨k1,k2⟩:=kT h4 hn;have JD:bt p+es.length≤cur.toList.length:=by rw[hel];exact k1
  have hst:=bV (P:=P) blk (bt p) tid fr es 0 cur w h2 h3 (by simpa using JD) (fun v hv=>hu.one v hv);rw[pH] at hst;have hsz:(splice cur.toList (bt p) es).toArray.size=cur.size:=by have:=bB JD;simpa using this
  obtain⟨m1,m2⟩:=h.ok.write hb hro hl h2 (cur':=(splice cur.toList (bt p) es).toArray) (v:=c) hsz hrw
   (fun w' mem' hx hg=>by
    show bn γ mem' w' b { bx with val:=c }
    unfold bn;simp only[aJ];exact⟨blk,cap,_,tid,fr,hl,hg,h3.same hsz,cQ,by simpa using mM (h4.ext hx) hn hs (hu.ext hx) hel⟩)
  exact⟨_,hst,h.go m2 m1,m2⟩
 ·rw[aJ] at ew hn hs;obtain⟨e,l,h1,h2,h3⟩:=ew;rw[h1] at hn hs;rcases h3 with ⟨h3,_⟩|⟨bQ,cap',cur,tid,fr,h3,h4,h5,cQ,h6,h7,h8,h9⟩
  ·rw[hl] at h3;cases h3
  ·rw[hl] at h3;obtain⟨rfl,rfl⟩:=bM (au h3);cases p with
   | nil=>cases hn
   | cons s p =>
     cases s with
     | yp k off=>cases hn
     | idx i size =>
       obtain⟨hsb,hn2⟩:=ai hn;have hsz:=cB hsb;obtain⟨x,hx,HX⟩:=aR hn2;obtain⟨x',hx',hs2⟩:=aR hs;obtain rfl:x=x':=au (hx.symm.trans hx');obtain⟨z,hq,hs3⟩:=bind_some hs2;cases hz:toS e z with
       | none=>rw[hz] at hs3;cases hs3
       | some y =>
         rw[hz] at hs3;obtain rfl:=au hs3;obtain⟨h0,hx2⟩:=ji hx;have hr:=h9 _ x hx2;have hrl:=hr.length;have hi:i.toNat<l.length:=(List.getElem?_eq_some_iff.1 hx2).1;have hm2:(i.toNat+1)*e.size≤cap*e.size:=jf _ (by omega);rw[nx] at hm2;have K2:aV γ σ.mem w (.data e x) .cells ((cur.toList.drop (i.toNat*e.size)).take e.size):=hr;obtain⟨k1,k2⟩:=kT K2 HX;rw[hrl] at k1;have hcs:cur.toList.length=cap*e.size:=by simpa using h8
         have hoff:bt (.idx i size::p)=i.toNat*e.size+bt p:=by simp only[bt,hsz]
         have JD:bt (.idx i size::p)+es.length≤cur.toList.length:=by rw[hoff,hel,hcs];omega
         have hst:=bV (P:=P) blk (bt (.idx i size::p)) tid fr es 0 cur w h4 h5.th (by simpa using JD) (fun v hv=>hu.one v hv);rw[pH] at hst;have F6:(splice cur.toList (bt (.idx i size::p)) es).toArray.size=cur.size:=by have:=bB JD;simpa using this
         have e1:=iZ cur.toList (i.toNat*e.size) (bt p) e.size es (by rw[hel];exact k1) (by rw[hcs];omega);obtain⟨m1,m2⟩:=h.ok.write hb hro hl h4 (cur':=(splice cur.toList (bt (.idx i size::p)) es).toArray) (v:=.data (.slice e) (mF (α:=e.den) l i y)) F6 hrw
          (fun w' mem' hx hg=>by
           show bn γ mem' w' b { bx with val:=.data (.slice e) (mF (α:=e.den) l i y) }
           unfold bn;simp only[aJ];refine⟨e,_,rfl,h2,.inr ⟨blk,cap,_,tid,fr,hl,hg,h5.same F6,cQ,?_,h7,by rw[F6];exact h8,?_⟩⟩
           ·exact gK (ym List.length_set) h6
           ·have Mh:=uq hz (mM (K2.ext hx) HX hq (hu.ext hx) hel);have:=uT (w:=w') (I:=γ.I) (l:=l) (n:=l.length) (cs:=cur.toList) rfl (by rw[hcs];exact jf _ h6)
             (fun j x hj=>aM.mono hx.I hx.cells (h9 j x hj)) hi Mh
            rw[e1,←hoff] at this;exact this)
         exact⟨_,hst,h.go m2 m1,m2⟩
theorem Eb{mem:Nat→Option aI}:∀{t:Ty} {x:t.den} {cs:List Value},aM w γ.I t x cs→aV γ mem w (FM t x) .cells cs:=by
 intro t;induction t with
 | pair a b eH fF=>intro x cs h;obtain⟨c1,c2,e,h1,h2⟩:=h;exact⟨c1,c2,e,h1,fF h2⟩
 | _=>intro x cs h;exact h
theorem xQ{mem:Nat→Option aI}{v:av}{cs:List Value}(h:aV γ mem w v .cells cs):aV γ mem w (FN v) .cells cs:=by
 cases v with
 | data t x=>exact Eb h
 | _=>exact h
theorem Ao{bx:aI}(hb:bx.buf=false)(hv:FP bx.val=true):bx.row=none:=by
 unfold aI.row;rw[hb];obtain⟨val,tid,buf,ro,lk,ag⟩:=bx;cases val with
 | data t x=>cases t<;>first|rfl|cases hv
 | mix p q=>rfl
 | _=>cases hv
theorem wN(h:bE B N γ σ a w){b ag:Nat}{p:List pI}{n:Nat}{u:av}{es:List Value}(hr:(iV b ag p n u σ).run=some σ')(hu:aV γ σ.mem w u .cells es)
  (hlen:es.length=n) {blk cap:Nat} (hl:γ.loc b=some (blk,cap)) :
  ∃w',(storeCells ⟨blk,bt p,none⟩ es).run P w=.ok () w'∧bE B N γ σ' a w'∧Ext B γ σ.mem w γ σ'.mem w':=by
 unfold iV at hr;split at hr
 case h_2=>exact absurd hr (by intro k;cases k)
 rename_i bx hb;obtain⟨hc,hr2⟩:=ai hr;simp only[bY,oh] at hc;obtain⟨⟨⟨⟨aC,hlk⟩,hro⟩,aJ⟩,Ob⟩:=hc;obtain⟨old,hn,dV⟩:=bind_some hr2;obtain⟨hfit,fZ⟩:=ai dV;obtain⟨c,hs,wM⟩:=bind_some fZ;obtain⟨Mq,K7⟩:=ai wM;obtain rfl:=au K7;have hel:es.length=bA old:=hlen.trans (cB hfit).symm;have hrw:({ bx with val:=c }:aI).row=bx.row:=(Ao (bx:={ bx with val:=c }) aJ Mq).trans (Ao aJ Ob).symm;have ew:=h.ok.boxes b bx hb;unfold bn at ew;rw[aJ] at ew;obtain⟨bQ,cap',cur,tid,fr,h1,h2,h3,cQ,h4⟩:=ew;rw[hl] at h1;obtain⟨rfl,rfl⟩:=bM (au h1);obtain⟨k1,k2⟩:=kT (xQ h4) hn;have JD:bt p+es.length≤cur.toList.length:=by rw[hel];exact k1
 have hst:=bV (P:=P) blk (bt p) tid fr es 0 cur w h2 h3 (by simpa using JD) (fun v hv=>hu.one v hv);rw[pH] at hst;have hsz:(splice cur.toList (bt p) es).toArray.size=cur.size:=by have:=bB JD;simpa using this
 obtain⟨m1,m2⟩:=h.ok.write hb hro hl h2 (cur':=(splice cur.toList (bt p) es).toArray) (v:=c) hsz hrw
  (fun w' mem' hx hg=>by
   show bn γ mem' w' b { bx with val:=c }
   unfold bn;simp only[aJ];exact⟨blk,cap,_,tid,fr,hl,hg,h3.same hsz,cQ,by simpa using mM (xQ (h4.ext hx)) hn hs (hu.ext hx) hel⟩)
 exact⟨_,hst,h.go m2 m1,m2⟩
theorem nL{ty:TypeId}{blk off n:Nat}{v:Value}{w':World}(hs:(Go.sizeOf ty).run P w=.ok n w)(hn:v.cells.toList.length=n)(hst:(storeCells ⟨blk,off,none⟩ v.cells.toList).run P w=.ok () w') :
  (Instr.storeAt ty (.pointer (some ⟨blk,off,none⟩)) v).run P w=.ok () w':=by
 have hn':v.cells.size=n:=by simpa using hn
 simp only[Instr.storeAt,Instr.sureAddr,storeVar,Sem.run_bind,Sem.run_pure,Result.andThen_ok,hs,hn',ne_eq,not_true_eq_false,rG];exact hst
theorem tG(hc:dw P cx){bf:List Nat}{ty:TypeId}{x y:Operand}(h:bE B N γ σ a w)(hr:(fq cx bf ty (aZ σ x) (aZ σ y) σ).run=some σ') :
  ∃w' γ',(Instr.storeAt ty (a.eval x) (a.eval y)).run P w=.ok () w'∧bE B N γ' σ' a w'∧Ext B γ σ.mem w γ' σ'.mem w':=by
 have hv:=h.aZ x;have hy:=h.aZ y;unfold fq at hr;split at hr
 case h_2=>exact absurd hr (by intro k;cases k)
 rename_i b ag p hx;rw[hx] at hv;split at hr
 case h_2=>exact absurd hr (by intro k;cases k)
 rename_i bx hb;obtain⟨aC,hr2⟩:=ai hr;have aC:=cB aC;obtain⟨old,hn,dV⟩:=bind_some hr2;obtain⟨blk,cap,hl,hval⟩:=aD hb aC hv.2;obtain hval:a.eval x=_:=by simpa using hval
 rw[hval];split at dV
 ·rename_i u z;obtain⟨hT,fZ⟩:=ai dV;have hT:=dR hT;have hD:=hc.T _ _ hT;cases hq:bC bf 8000000&&FO u (aZ σ y) with
  | true =>
    rw[hq] at fZ;have how:=(Bool.and_eq_true_iff.1 hq).2;have H7:aV γ σ.mem w (aZ σ y) .cells (a.eval y).cells.toList:=by
     refine hy.gk (fun u' e=>?_) (fun e=>?_)
     ·rw[e] at how;cases how
     ·rw[e] at how;cases how
    have hsz:bA (aZ σ y)=u.size:=by
     unfold FO at how;split at how
     ·rename_i e;rw[e];exact D8 how
     ·rename_i e;rw[e];exact uZ how
     ·cases how
    have xR:(a.eval y).cells.toList.length=u.size:=by rw[H7.length,hsz]
    obtain⟨w',k1,k2,k3⟩:=wN (P:=P) h fZ H7 xR hl;exact⟨w',γ,nL (hD.sizeOf w) xR k1,k2,k3⟩
  | false =>
  rw[hq] at fZ;replace fZ:(match lR σ u (aZ σ y) with|some (y,σ)=>storeAt b ag p (D2 u) (.data u y) σ|none=>.fail).run=some σ':=fZ;split at fZ
  ·rename_i y0 σ1 hg;obtain⟨dS,s1,s2,s3⟩:=fQ h hy hg;obtain⟨cs,c1,c2⟩:=s3;obtain HY:a.eval y=_:=by simpa using c2
   have E2:(a.eval y).cells.toList=cs:=by rw[HY];exact iY c1
   obtain⟨dQ,g1,g2,g3⟩:=s2.boxes b bx hb;have Mr:dS.loc b=some (blk,cap):=by
    have LV:dQ.ag=bx.ag:=by
     unfold storeAt at fZ;split at fZ
     ·rename_i PB hb2;rw[g1] at hb2;obtain rfl:=au hb2;obtain⟨hc,_⟩:=ai fZ;simp only[bY] at hc;have:=cB hc.1.1;omega
     ·exact absurd fZ (by intro k;cases k)
    rw[(g3 LV).1];exact hl
   obtain⟨w',k1,k2,k3⟩:=oZ (P:=P) s1 fZ (u:=.data u y0) (es:=cs) c1 (fun old hf=>by
    unfold D2 at hf;split at hf
    ·rename_i t q;obtain rfl:=Ty.eq_of_beq hf;exact c1.length
    ·cases hf) (fun bx hf aJ=>by
    unfold D2 at hf;split at hf
    ·rename_i t q ga;obtain rfl:=Ty.eq_of_beq hf;cases t with
     | arr n e=>rw[aI.ia aJ ga];exact aI.ia (bx:={ bx with val:=_ }) aJ rfl
     | _=>unfold aI.row;rw[aJ,ga]
    ·cases hf) Mr
   refine⟨w',dS,nL (hD.sizeOf w) ?_ ?_,k2,s2.trans k3⟩
   ·rw[E2];exact c1.length
   ·rw[E2];exact k1
  ·exact absurd fZ (by intro k;cases k)
 ·obtain⟨hT,fZ⟩:=ai dV;simp only[bY] at hT;obtain⟨zM,KE⟩:=hT;have key:∀{v:av},lA cx ty v=true→isRef v=true→bA v=1∧(Go.sizeOf ty).run P w=.ok 1 w:=by
   intro v h1 h2;unfold lA at h1;split at h1
   ·cases h2
   ·split at h1
    ·rename_i e hT;exact⟨rfl,(hc.T _ _ hT).sizeOf w⟩
    ·cases h1
   ·exact⟨rfl,(hc.jy _ h1).2.1 w⟩
   ·exact⟨rfl,(hc.jy _ h1).2.1 w⟩
   ·exact⟨rfl,(hc.jy _ h1).2.1 w⟩
   ·cases h1
  obtain⟨h1,hsz⟩:=key zM KE;have H7:aV γ σ.mem w (aZ σ y) .cells (a.eval y).cells.toList:=by
   refine hy.gk (fun u e=>?_) (fun e=>?_)
   ·rw[e] at KE;cases KE
   ·rw[e] at KE;cases KE
  have xR:(a.eval y).cells.toList.length=1:=by rw[H7.length,h1]
  obtain⟨w',k1,k2,k3⟩:=oZ (P:=P) h fZ H7 (fun old hf=>by
   simp only[uz,bY] at hf;rcases hf with hf|hf
   ·rw[xR,(key hf.1 hf.2).1]
   ·rw[xR];cases old<;>first|rfl|cases hf) (fun bx hf aJ=>by
   simp only[uz,bY] at hf;have e1:∀{v:av} {bx:aI},(isRef v=true∨Dm v=true)→bx.buf=false→bx.val=v→bx.row=none:=by
    intro v bx h1 h2 h3;unfold aI.row;rw[h2,h3];cases v<;>first|rfl|(rcases h1 with h1|h1<;>cases h1)
   rw[e1 (hf.elim (fun q=>.inl q.2) .inr) aJ rfl];exact e1 (bx:={ bx with val:=aZ σ y }) (.inl KE) aJ rfl) hl
  exact⟨w',γ,nL hsz xR k1,k2,k3⟩
theorem iS(t:TypeId)(v:Value):(newVar t v).run P w=.ok ⟨w.heap.size,0,none⟩ (w.alloc (.cells v.cells t)):=by
 simp[newVar,newRow]
theorem oz{mem:Nat→Option aI}{w':World}{b:Nat}{bx:aI}{cap:Nat}:aV (aK γ b (some (w.heap.size,cap))) (bu mem b bx) w' (.ptr b bx.ag []) .val [.pointer (some ⟨w.heap.size,0,none⟩)] :=
 ⟨⟨_,rfl,rfl⟩,cl (aH _ _) rfl ⟨w.heap.size,cap,by simp[aK],rfl⟩⟩
theorem Ap(hc:dw P cx){elem:TypeId}{nb k:Nat}{t:Ty}(h:bE B N γ σ a w)(hd:k<N)(hT:find cx.T elem=some t)
  (hr:(σ.ay (nb+k) (.data t t.zero) 0 false fun ag σ=>.ret (σ.put k (.ptr (nb+k) ag []))).run=some σ') :
  gv P B N γ σ a w (some k) (Instr.alloc elem true (.tuple #[])) σ':=by
 obtain⟨ag,aC,hr2⟩:=bT hr;obtain rfl:=au hr2;obtain⟨z,hz,KF⟩:=(hc.T _ _ hT).zero w;obtain⟨m1,m2⟩:=h.ok.newVar (b:=nb+k) (v:=.data t t.zero) (tid:=0) aC (cs:=z.cells) elem (.inl rfl) (by rw[KF];exact gR w γ.I t);refine⟨.pointer (some ⟨w.heap.size,0,none⟩),_,_,?_,h.step m2 m1 hd oz,m2⟩;simp only[Instr.alloc,Sem.run_bind,hz,Result.andThen_ok,iS,Sem.run_pure]
theorem tH(hc:dw P cx){elem:TypeId}{nb k:Nat}(h:bE B N γ σ a w)(hd:k<N)(hT:bC cx.jy elem=true)
  (hr:(σ.ay (nb+k) .undef 0 false fun ag σ=>.ret (σ.put k (.ptr (nb+k) ag []))).run=some σ') :
  gv P B N γ σ a w (some k) (Instr.alloc elem true (.tuple #[])) σ':=by
 obtain⟨ag,aC,hr2⟩:=bT hr;obtain rfl:=au hr2;obtain⟨z,hz,hone⟩:=(hc.jy _ hT).2.2;have hz:=hz w;obtain⟨m1,m2⟩:=h.ok.newVar (b:=nb+k) (v:=.undef) (tid:=0) aC (cs:=z.cells) elem (.inl rfl) ⟨z,by cases z<;>first|rfl|(simp[Value.oneCell'] at hone),hone⟩;refine⟨.pointer (some ⟨w.heap.size,0,none⟩),_,_,?_,h.step m2 m1 hd oz,m2⟩;simp only[Instr.alloc,Sem.run_bind,hz,Result.andThen_ok,iS,Sem.run_pure]
theorem Aq{b ag:Nat}:∀{fs:List gr} {j:Nat} {σ:St} {γ:Gh} {r:av×St},aG B γ σ.mem w→(mkObj b ag fs j σ).run=some r →
  ∃dS,aG B dS r.2.mem w∧Ext B γ σ.mem w dS r.2.mem w∧r.2.slots=σ.slots ∧
   ∀γ' mem' w',Ext B dS r.2.mem w γ' mem' w'→(∃bx blk cap,mem' b=some bx∧ag≤bx.ag∧γ'.loc b=some (blk,cap))→aV γ' mem' w' r.1 .cells (uR fs):=by
 intro fs;induction fs with
 | nil=>intro j σ γ r h hr;obtain rfl:=au hr;exact⟨γ,h,Ext.refl _ _ _ _,rfl,fun _ _ _ _ _=>rfl⟩
 | cons f r ih =>
   intro j σ γ q h hr;cases f with
   | dat t =>
     obtain⟨y,h1,h2⟩:=bind_some hr;obtain rfl:=au h2;obtain⟨dS,k1,k2,k3,k4⟩:=ih h h1;exact⟨dS,k1,k2,k3,fun γ' mem' w' hx hb=>⟨_,_,rfl,gR _ _ t,k4 γ' mem' w' hx hb⟩⟩
   | one =>
     obtain⟨y,h1,h2⟩:=bind_some hr;obtain rfl:=au h2;obtain⟨dS,k1,k2,k3,k4⟩:=ih h h1;exact⟨dS,k1,k2,k3,fun γ' mem' w' hx hb=>⟨[.pointer none],_,rfl,rfl,k4 γ' mem' w' hx hb⟩⟩
   | self =>
     obtain⟨y,h1,h2⟩:=bind_some hr;obtain rfl:=au h2;obtain⟨dS,k1,k2,k3,k4⟩:=ih h h1;refine⟨dS,k1,k2,k3,fun γ' mem' w' hx hb=>⟨[.pointer none],_,rfl,?_,k4 γ' mem' w' hx hb⟩⟩;obtain⟨bx,blk,cap,g1,g2,g3⟩:=hb;exact⟨⟨_,rfl,rfl⟩,bx,g1,g2,fun _=>⟨blk,cap,g3,.inl rfl⟩⟩
   | buf e bN =>
     obtain⟨he,eP⟩:=ai hr;have he':0<e.size:=by simpa using he
     obtain⟨v,aC,hr2⟩:=bT eP;obtain⟨y,h1,h2⟩:=bind_some hr2;obtain rfl:=au h2;obtain⟨m1,m2⟩:=h.uU (b:=b*1000+999-j) (e:=e) (tid:=bN) aC he';obtain⟨dS,k1,k2,k3,k4⟩:=ih m1 h1;refine⟨dS,k1,m2.trans k2,k3,fun γ' mem' w' hx hb=>⟨[.slice none 0 0],_,rfl,?_,k4 γ' mem' w' hx hb⟩⟩;refine aV.ext (k2.trans hx) (v:=.whole (b*1000+999-j) v) (m:=.cells) ?_;exact⟨⟨_,rfl,rfl⟩,cl (aH _ _) rfl ⟨e,0,rfl,rfl,.inl ⟨by simp[aK],rfl⟩⟩⟩
theorem tI(hc:dw P cx){elem:TypeId}{nb k:Nat}{fs:List gr}(h:bE B N γ σ a w)(hd:k<N)(hT:find cx.jV elem=some fs)
  (hr:((mkObj (nb+k) (ue σ (nb+k)) fs 0 σ).bind fun r=>r.2.ay (nb+k) r.1 elem false fun ag σ=>.ret (σ.put k (.ptr (nb+k) ag []))).run=some σ') :
  gv P B N γ σ a w (some k) (Instr.alloc elem true (.tuple #[])) σ':=by
 obtain⟨r,h1,h2⟩:=bind_some hr;obtain⟨dS,k1,k2,k3,k4⟩:=Aq h.ok h1;obtain⟨ag,aC,hr2⟩:=bT h2;obtain rfl:=au hr2;obtain⟨z,hz,KF⟩:=D4 (hc.jV _ _ hT) w;have hle:ue σ (nb+k)≤ag:=by
  unfold ue;split
  ·rename_i bx gW;obtain⟨dQ,e1,e2,_⟩:=k2.boxes _ bx gW;have:=aC dQ e1;omega
  ·exact lO _
 let bx:aI:={ val:=r.1,tid:=elem,buf:=false,ro:=false,lk:=false,ag }
 have hw:jR B w (w.alloc (.cells z.cells elem)):=(jR.refl _ _).alloc k1.base _;have hx:=jK (L:=some (w.heap.size,0)) k1 (bx:=bx) aC hw (bO w _);have ew:bn (aK dS (nb+k) (some (w.heap.size,0))) (bu r.2.mem (nb+k) bx) (w.alloc (.cells z.cells elem)) (nb+k) bx :=
  ⟨w.heap.size,0,z.cells,elem,(0,0),by simp[aK],heap_alloc_new w _,nH _,.inr rfl,by
   rw[KF];exact k4 _ _ _ hx ⟨bx,w.heap.size,0,aH _ _,hle,by simp[aK]⟩⟩
 have m1:=k1.add aC hw (bO w _) (fun blk k e=>by obtain⟨rfl,rfl⟩:=bM (au e);exact⟨dB _,by simp⟩) ew;refine⟨.pointer (some ⟨w.heap.size,0,none⟩),_,_,?_,?_,k2.trans hx⟩
 ·simp only[Instr.alloc,Sem.run_bind,hz,Result.andThen_ok,iS,Sem.run_pure]
 ·have:=h.step (k2.trans hx) m1 hd (oz (bx:=bx));rw[←k3] at this;exact this
theorem sM{b j:Nat}{v:av}{σ:St}{r:av×St}(hr:(gh b [] j v σ).run=some r):r=(v,σ):=by
 cases v with
 | data t x=>cases t<;>first|(obtain rfl:=au hr;rfl)|cases hr
 | _=>cases hr
theorem qD{b j:Nat}{f:gr}{q:List gr}{v:av}{σ:St}{r:av×St}(hr:(gh b (f::q) j v σ).run=some r) :
  (∃x u y,v=.mix x u∧(gh b q (j+1) u σ).run=some y∧r=(.mix x y.1,y.2)) ∨
  (∃e bN u,v=.mix .gA u∧0<e.size∧(σ.ay (b*1000+999-j) (.data (.slice e) []) bN true fun ag σ=>(gh b q (j+1) u σ).bind fun x=>.ret (.mix (.whole (b*1000+999-j) ag) x.1,x.2)).run=some r):=by
 cases v with
 | mix a u =>
   cases f with
   | dat t =>
     cases a with
     | data t' z =>
       obtain⟨y,h1,h2⟩:=bind_some (show((gh b q (j+1) u σ).bind fun x=>.ret (.mix (.data t' z) x.1,x.2)).run=some r from hr);exact .inl ⟨_,u,y,rfl,h1,(au h2).symm⟩
     | _=>cases hr
   | one =>
     cases a with
     | iL =>
       obtain⟨y,h1,h2⟩:=bind_some (show((gh b q (j+1) u σ).bind fun x=>.ret (.mix .iL x.1,x.2)).run=some r from hr);exact .inl ⟨_,u,y,rfl,h1,(au h2).symm⟩
     | _=>cases hr
   | buf e bN =>
     cases a with
     | gA =>
       obtain⟨he,eP⟩:=ai hr;exact .inr ⟨e,bN,u,rfl,by simpa using he,eP⟩
     | _=>cases hr
   | self=>cases a<;>cases hr
 | _=>cases f<;>cases hr
theorem tJ(hc:dw P cx){elem:TypeId}{nb k:Nat}{bf:List Nat}{t:Ty}(h:bE B N γ σ a w)(hd:k<N)(hT:find cx.T elem=some t)
  (hr:(jP nb bf k t σ).run=some σ'):gv P B N γ σ a w (some k) (Instr.alloc elem true (.tuple #[])) σ':=by
 unfold jP at hr;split at hr
 ·rename_i e _;obtain⟨he,eP⟩:=ai hr;have he':0<e.size:=by simpa using he
  obtain⟨v,aC,hr2⟩:=bT eP;obtain⟨m1,m2⟩:=h.ok.uU (b:=(nb+k)*1000+999) (e:=e) (tid:=0) aC he';obtain⟨ag,K8,dV⟩:=bT hr2;obtain rfl:=au dV;obtain⟨i,z,i1,i2,i3,i4⟩:=(hc.T _ _ hT).info;have hz:(zeroValue elem).run P w=.ok z w:=by simp[zeroValue,typeInfo,i1,i3]
  have uY:aV (aK γ ((nb+k)*1000+999) none) (bu σ.mem ((nb+k)*1000+999) { val:=.data (.slice e) ([]:List e.den),tid:=0,buf:=true,ro:=false,lk:=false,ag:=v }) w (.whole ((nb+k)*1000+999) v) .cells z.cells.toList:=by
   rw[i4];exact⟨⟨_,rfl,rfl⟩,cl (aH _ _) rfl ⟨e,0,rfl,rfl,.inl ⟨by simp[aK],rfl⟩⟩⟩
  obtain⟨n1,n2⟩:=m1.newVar (b:=nb+k) (v:=.whole ((nb+k)*1000+999) v) (tid:=0) K8 (cs:=z.cells) elem (.inl rfl) uY;refine⟨.pointer (some ⟨w.heap.size,0,none⟩),_,_,?_,h.step (m2.trans n2) n1 hd oz,m2.trans n2⟩;simp only[Instr.alloc,Sem.run_bind,hz,Result.andThen_ok,iS,Sem.run_pure]
 ·exact Ap hc h hd hT hr
theorem wO{b:Nat}:∀{fs:List gr} {j:Nat} {v:av} {σ:St} {γ:Gh} {r:av×St} {cs:List Value},aG B γ σ.mem w→aV γ σ.mem w v .cells cs→(gh b fs j v σ).run=some r →
  ∃dS,aG B dS r.2.mem w∧Ext B γ σ.mem w dS r.2.mem w∧r.2.slots=σ.slots∧aV dS r.2.mem w r.1 .cells cs:=by
 intro fs;induction fs with
 | nil =>
   intro j v σ γ r cs h hv hr;obtain rfl:=sM hr;exact⟨γ,h,Ext.refl _ _ _ _,rfl,hv⟩
 | cons f q ih =>
   intro j v σ γ r cs h hv hr;rcases qD hr with ⟨x,u,y,rfl,h1,rfl⟩|⟨e,bN,u,rfl,he,eP⟩
   ·obtain⟨c1,c2,rfl,v1,v2⟩:=hv;obtain⟨dS,k1,k2,k3,k4⟩:=ih h v2 h1;exact⟨dS,k1,k2,k3,c1,c2,rfl,v1.ext k2,k4⟩
   ·obtain⟨k,aC,hr2⟩:=bT eP;obtain⟨y,h1,h2⟩:=bind_some hr2;obtain rfl:=au h2;obtain⟨c1,c2,rfl,v1,v2⟩:=hv;obtain⟨m1,m2⟩:=h.uU (b:=b*1000+999-j) (e:=e) (tid:=bN) aC he;obtain⟨dS,k1,k2,k3,k4⟩:=ih m1 (v2.ext m2) h1;obtain rfl:c1=[.slice none 0 0]:=v1;refine⟨dS,k1,m2.trans k2,k3,[.slice none 0 0],c2,rfl,?_,k4⟩;refine aV.ext k2 (v:=.whole (b*1000+999-j) k) (m:=.cells) ?_;exact⟨⟨_,rfl,rfl⟩,cl (aH _ _) rfl ⟨e,0,rfl,rfl,.inl ⟨by simp[aK],rfl⟩⟩⟩
theorem wP{elem:TypeId}{nb k:Nat}{x:Operand}{fs:List gr}(h:bE B N γ σ a w)(hd:k<N)(hu:aZ σ x≠.undef)(ht:∀u,aZ σ x≠.kN u)
  (hr:((gh (nb+k) fs 0 (aZ σ x) σ).bind fun r=>r.2.ay (nb+k) r.1 elem false fun ag σ=>.ret (σ.put k (.ptr (nb+k) ag []))).run=some σ') :
  gv P B N γ σ a w (some k) (Instr.box elem (a.eval x)) σ':=by
 obtain⟨r,h1,h2⟩:=bind_some hr;obtain⟨dS,k1,k2,k3,k4⟩:=wO h.ok ((h.aZ x).gk ht (fun e=>absurd e hu)) h1;obtain⟨ag,aC,hr2⟩:=bT h2;obtain rfl:=au hr2;obtain⟨m1,m2⟩:=k1.newVar (b:=nb+k) (v:=r.1) (tid:=elem) aC (cs:=(a.eval x).cells) elem (.inr rfl) k4;refine⟨.pointer (some ⟨w.heap.size,0,none⟩),_,_,?_,?_,k2.trans m2⟩
 ·simp only[Instr.box,Sem.run_bind,iS,Result.andThen_ok,Sem.run_pure]
 ·have:=h.step (k2.trans m2) m1 hd oz;rw[←k3] at this;exact this
theorem Ec{elem:TypeId}{nb k:Nat}{x:Operand}(h:bE B N γ σ a w)(hd:k<N)(hu:aZ σ x≠.undef)(ht:∀u,aZ σ x≠.kN u)
  (hr:(σ.ay (nb+k) (aZ σ x) 0 false fun ag σ=>.ret (σ.put k (.ptr (nb+k) ag []))).run=some σ') :
  gv P B N γ σ a w (some k) (Instr.box elem (a.eval x)) σ':=by
 obtain⟨ag,aC,hr2⟩:=bT hr;obtain rfl:=au hr2;obtain⟨m1,m2⟩:=h.ok.newVar (b:=nb+k) (v:=aZ σ x) (tid:=0) aC (cs:=(a.eval x).cells) elem (.inl rfl) ((h.aZ x).gk ht (fun e=>absurd e hu));refine⟨.pointer (some ⟨w.heap.size,0,none⟩),_,_,?_,h.step m2 m1 hd oz,m2⟩;simp only[Instr.box,Sem.run_bind,iS,Result.andThen_ok,Sem.run_pure]
theorem Ib{mem:Nat→Option aI}:∀{u v:av} {k:Nat} {vs:List Value},aV γ mem w u .many vs→nth u k=some v→∃x,vs[k]?=some x∧aV γ mem w v .val [x]:=by
 intro u;induction u with
 | mix p q l8 lG =>
   intro v k vs h hn;obtain⟨c,r,rfl,h1,h2⟩:=h;cases k with
   | zero=>obtain rfl:=au hn;exact⟨c,rfl,h1⟩
   | succ k=>obtain⟨x,hx,hr⟩:=lG h2 hn;exact⟨x,by simpa using hx,hr⟩
 | _=>intro v k vs h hn;exact absurd hn (by intro k;cases k)
theorem wQ{x:Operand}{k:Nat}{vs v:av}(h:bE B N γ σ a w)(hd:∀k,d=some k→k<N)(hx:aZ σ x=.kN vs)(hn:nth vs k=some v) :
  gv P B N γ σ a w d (Instr.extract (a.eval x) k) (σ.aA d v):=by
 have hv:=h.aZ x;rw[hx] at hv;obtain⟨arr,h1,h2⟩:=hv;obtain h1:a.eval x=_:=by simpa using h1
 obtain⟨y,hy,hr⟩:=Ib h2 hn;refine aL h hd (x:=y) ?_ hr;rw[h1];have:arr[k]?=some y:=by simpa using hy
 simp only[Instr.extract,this,Sem.run_pure]
theorem F7:∀{ops:List Operand} {cs:List (Nat×Nat)},bE B N γ σ a w→rK (ops.map (aZ σ))=some cs→cs.length=ops.length ∧
  ∀(i:Nat) b ag,cs[i]?=some (b,ag)→fM σ.mem b ag fun _=>∃blk cap,γ.loc b=some (blk,cap)∧(ops.map a.eval)[i]?=some (.pointer (some ⟨blk,0,none⟩)):=by
 intro ops;induction ops with
 | nil=>intro cs h hc;obtain rfl:=au hc;exact⟨rfl,fun i b ag hi=>by cases hi⟩
 | cons o r ih =>
   intro cs h hc;have ho:=h.aZ o;simp only[jH] at hc;unfold rK at hc;split at hc
   ·rename_i heq;cases heq
   ·rename_i b0 Ic r0 heq;injection heq with q1 q2
    subst q2;rw[q1] at ho;cases hr:rK (r.map (aZ σ)) with
    | none=>rw[hr] at hc;cases hc
    | some cs' =>
      rw[hr] at hc;obtain rfl:=au hc;obtain⟨i1,i2⟩:=ih h hr;refine⟨by simp[i1],fun i b ag hi=>?_⟩;cases i with
      | zero =>
        obtain⟨rfl,rfl⟩:=bM (au hi);obtain⟨bx,k1,k2,k3⟩:=ho.2;refine⟨bx,k1,k2,fun e=>?_⟩;obtain⟨blk,cap,j1,j2⟩:=k3 e;obtain j2:a.eval o=_:=by simpa using j2
        exact⟨blk,cap,j1,by simp[j2,bt]⟩
      | succ i =>
        have:=i2 i b ag (by simpa using hi);simpa using this
   ·cases hc
theorem u7{f:Nat}{caps:Array Operand}{cs:List (Nat×Nat)}(h:bE B N γ σ a w)(hd:∀k,d=some k→k<N)(hcs:rK (caps.toList.map (aZ σ))=some cs) :
  gv P B N γ σ a w d (Instr.makeFunc (.func f) #[] (caps.map a.eval)) (σ.aA d (.fn f cs)):=by
 obtain⟨h1,h2⟩:=F7 h hcs;refine aL h hd (x:=.func (.func f) #[] (caps.map a.eval)) rfl ?_;refine⟨caps.map a.eval,rfl,by rw[h1];simp,fun i b ag hi=>?_⟩;obtain⟨bx,k1,k2,k3⟩:=h2 i b ag hi;refine⟨bx,k1,k2,fun e=>?_⟩;obtain⟨blk,cap,j1,j2⟩:=k3 e;exact⟨blk,cap,j1,by simpa using j2⟩
end
end Go.Ge
namespace Go.Ge
open RowKit
def BZ(γ:Gh)(blk:Nat):Gh:={ γ with I:=fun b o=>γ.I b o∨b=blk }
theorem aG.J5{B:iP}{γ:Gh}{mem:Nat→Option aI}{w:World}(h:aG B γ mem w)(cs:Array Value)(t':TypeId) :
  aG B (BZ γ w.heap.size) mem (w.alloc (.cells cs t'))∧Ext B γ mem w (BZ γ w.heap.size) mem (w.alloc (.cells cs t')):=by
 have hx:Ext B γ mem w (BZ γ w.heap.size) mem (w.alloc (.cells cs t')) :=
  { below:=(jR.refl _ _).alloc h.base _
    I:=fun _ _ x=>.inl x
    kP:=fun blk o x=>by
     rcases x with x|x
     ·exact .inl x
     ·exact .inr (.inl (by rw[x];exact h.base))
    cells:=fun blk o x=>cJ (bO w _ blk (h.kO blk o x))
    boxes:=fun b bx hb=>⟨bx,hb,dB _,fun _=>⟨rfl,rfl,rfl⟩⟩ }
 refine⟨?_,hx⟩;have hsz:(w.alloc (.cells cs t')).heap.size=w.heap.size+1:=by simp
 exact
  { bX:=h.qu hx
    base:=by rw[hsz];exact Nat.le_succ_of_le h.base
    boxes:=fun b bx hb=>(h.boxes b bx hb).keep hx rfl fun blk k hl=>bO w _ blk (h.fresh b blk k (by rw[hb];simp) hl).2
    inj:=h.inj
    fresh:=fun b blk k hb hl=>by have:=h.fresh b blk k hb hl;exact⟨this.1,by rw[hsz];omega⟩
    kO:=fun blk off hi=>by
     rw[hsz];rcases hi with hi|hi
     ·have:=h.kO blk off hi;omega
     ·omega
    sep:=fun b bx blk k off hb hl hi=>by
     rcases hi with hi|hi
     ·exact h.sep b bx blk k off hb hl hi
     ·have:=(h.fresh b blk k (by rw[hb];simp) hl).2;omega }
theorem u9(off:Nat):∀(l:List Value) (k:Nat) (cells:Array Value),off+k+l.length≤cells.size →
  (l.zipIdx k).foldl (fun cs (x:Value×Nat)=>cs.setIfInBounds (off+x.2) x.1) cells=(splice cells.toList (off+k) l).toArray
 | [],k,cells,h=>by simp[splice]
 | v::r,k,cells,h=>by
   simp only[List.zipIdx_cons,List.foldl_cons];rw[u9 off r (k+1) _ (by simp at h⊢;omega)];have e:=list_seg_step cells.toList (off+k) v r (by simp at h⊢;omega)
   congr 1
   simpa [splice,Ji,rE] using e
theorem oA{place:Nat→Option (Nat×Nat)}{cells:Array Value}{i off size:Nat}{v:Value}{rest:List (Nat×Value)}(hp:place i=some (off,size))(hs:v.cells.toList.length=size)
  (hle:off+size≤cells.size):Instr.fill place cells ((i,v)::rest)=Instr.fill place (splice cells.toList off v.cells.toList).toArray rest:=by
 have hs':v.cells.size=size:=by simpa using hs
 have hc:(v.cells.size≠size||off+v.cells.size > cells.size)=false:=by
  simp only[wF,Fs];constructor
  ·simp[hs']
  ·omega
 simp only[Instr.fill,hp];rw[hc];simp only[BC,rG]
 congr 1
 rw[←Array.foldl_toList,Array.toList_zipIdx];have:=u9 off v.cells.toList 0 cells (by rw[hs];omega);simpa using this
theorem B0{w:World}{I:Nat→Nat→Prop}{u:Ty}{y:u.den}{es:List Value}(he:aM w I u y es):∀{t:Ty} {x x':t.den} {cs:List Value} {k o:Nat},
  aM w I t x cs→eA t k=some o→uD t x k u y=some x'→aM w I t x' (splice cs o es)∧o+es.length≤cs.length:=by
 intro t;induction t with
 | pair a b eH fF =>
   intro x x' cs k o h ho hp;obtain⟨c1,c2,rfl,h1,h2⟩:=h;cases k with
   | zero =>
     simp only[eA,jx] at ho;subst ho;simp only[uD] at hp;split at hp
     ·rename_i y' hy;obtain⟨q,hq⟩:=Ty.eY hy;subst q;subst hq;obtain rfl:=au hp;have hl:es.length=c1.length:=by rw[he.length,h1.length]
      refine⟨⟨es,c2,?_,he,h2⟩,by rw[oL];omega⟩;simp only[splice,Fl,zR,lu];rw[hl,pG]
     ·cases hp
   | succ k =>
     simp only[eA] at ho;cases hb:eA b k with
     | none=>rw[hb] at ho;cases ho
     | some o' =>
       rw[hb] at ho;simp only[qf,jx] at ho;simp only[uD] at hp;split at hp
       ·rename_i z hz;obtain rfl:=au hp;obtain⟨r1,r2⟩:=fF h2 hb hz;have hl:=h1.length;refine⟨⟨c1,splice c2 o' es,?_,h1,r1⟩,by rw[oL];omega⟩;subst ho;rw[←hl];simp only[splice];first
         | (rw[HL,kK,kK,rE,←mD,pG];simp[kK];done)
         | (rw[Di o' c1.length,HL,kK,kK,rE,←mD,pG];simp[kK])
       ·cases hp
 | _=>intro x x' cs k o h ho;cases k<;>simp[eA] at ho
theorem tK:∀{t:Ty} {k:Nat} {u:Ty},jW t k=some u→∃o,eA t k=some o:=by
 intro t;induction t with
 | pair a b eH fF =>
   intro k u h;cases k with
   | zero=>exact⟨0,rfl⟩
   | succ k =>
     obtain⟨o,ho⟩:=fF (show jW b k=some u from h);simp only[eA,ho];exact⟨_,rfl⟩
 | _=>intro k u h;cases k<;>cases h
section
variable {P:Program} {B:iP} {N:Nat} {γ:Gh} {σ σ':St} {a:Act} {w:World} {d:Option Nat} {cx:Ctx}
theorem rR{place:Nat→Option (Nat×Nat)}{t:Ty}(hpl:∀k u o,jW t k=some u→eA t k=some o→place k=some (o,u.size)) :
  ∀{parts:List (Nat×Operand)} {x x':t.den} {cells:Array Value} {σ σ':St} {γ:Gh},bE B N γ σ a w→aM w γ.I t x cells.toList→cW σ t x parts=some (x',σ') →
   ∃cells' γ',Instr.fill place cells (parts.map fun p=>(p.1,a.eval p.2))=some cells'∧bE B N γ' σ' a w∧Ext B γ σ.mem w γ' σ'.mem w∧aM w γ'.I t x' cells'.toList:=by
 intro parts;induction parts with
 | nil =>
   intro x x' cells σ σ' γ h hx hb;obtain⟨rfl,rfl⟩:=bM (au hb);exact⟨cells,γ,rfl,h,Ext.refl _ _ _ _,hx⟩
 | cons p r ih =>
   obtain⟨k,o⟩:=p;intro x x' cells σ σ' γ h hx hb;simp only[cW] at hb;split at hb
   ·rename_i u hu;split at hb
    ·rename_i y σ1 hg;split at hb
     ·rename_i x1 hx1;obtain⟨dS,s1,s2,cs,c1,c2⟩:=fQ h (h.aZ o) hg;obtain hval:a.eval o=_:=by simpa using c2
      have E2:(a.eval o).cells.toList=cs:=by rw[hval];exact iY c1
      obtain⟨off,hoff⟩:=tK hu;obtain⟨r1,r2⟩:=B0 c1 (aM.mono s2.I s2.cells hx) hoff hx1;have hsz:=c1.length;obtain⟨cells',oY,k1,k2,k3,k4⟩:=ih (cells:=(splice cells.toList off cs).toArray) s1 (by simpa using r1) hb;refine⟨cells',oY,?_,k2,s2.trans k3,k4⟩;simp only[jH];rw[oA (hpl k u off hu hoff) (by rw[E2];exact hsz) (by rw[hsz] at r2;simpa using r2),E2];exact k1
     ·cases hb
    ·cases hb
   ·cases hb
theorem nc{n:Nat}{e:Ty}{place:Nat→Option (Nat×Nat)}(hpl:∀k,place k=some (k*e.size,e.size)) :
  ∀{parts:List (Nat×Operand)} {l l':List e.den} {cells:Array Value} {σ σ':St} {γ:Gh},bE B N γ σ a w→aM w γ.I (.arr n e) l cells.toList→cR σ e l parts=some (l',σ') →
   ∃cells' γ',Instr.fill place cells (parts.map fun p=>(p.1,a.eval p.2))=some cells'∧bE B N γ' σ' a w∧Ext B γ σ.mem w γ' σ'.mem w∧aM w γ'.I (.arr n e) l' cells'.toList:=by
 intro parts;induction parts with
 | nil =>
   intro l l' cells σ σ' γ h hx hb;obtain⟨rfl,rfl⟩:=bM (au hb);exact⟨cells,γ,rfl,h,Ext.refl _ _ _ _,hx⟩
 | cons p r ih =>
   obtain⟨k,o⟩:=p;intro l l' cells σ σ' γ h hx hb;simp only[cR] at hb;split at hb
   ·rename_i y σ1 hg;cases hlt:Nat.blt k l.length with
    | false=>rw[hlt] at hb;cases hb
    | true =>
      rw[hlt] at hb;simp only[bZ] at hb;have hlt':k<l.length:=by simpa using hlt
      obtain⟨dS,s1,s2,cs,c1,c2⟩:=fQ h (h.aZ o) hg;obtain hval:a.eval o=_:=by simpa using c2
      have E2:(a.eval o).cells.toList=cs:=by rw[hval];exact iY c1
      obtain⟨j1,j2,j3⟩:=aM.mono s2.I s2.cells hx;have Oc:l.length=n:=j1;have hsz:=c1.length;have hm:(k+1)*e.size≤n*e.size:=jf _ (by omega);rw[nx] at hm;have hle:k*e.size+cs.length≤cells.toList.length:=by rw[hsz,j2];exact hm
      have hnew:aM w dS.I (.arr n e) (l.set k y) (splice cells.toList (k*e.size) cs) :=
       ⟨(@List.length_set _ l _ _).trans j1,by rw[bB hle];exact j2,uT Oc (by rw[j2];exact dB _) j3 (by omega) c1⟩
      obtain⟨cells',oY,k1,k2,k3,k4⟩:=ih (cells:=(splice cells.toList (k*e.size) cs).toArray) s1 (by simpa using hnew) hb;refine⟨cells',oY,?_,k2,s2.trans k3,k4⟩;simp only[jH];rw[oA (hpl k) (by rw[E2];exact hsz) (by rw[hsz] at hle;simpa using hle),E2];exact k1
   ·cases hb
theorem gV.places{t:Ty}:∀{off:Nat} {fs:List Field},gV P t off fs→∃places:List (Nat×Nat),fs.mapM (fun f=>(P.info? f.type).map fun i=>(f.offset,i.size))=some places ∧
  ∀k u o,jW t k=some u→eA t k=some o→places[k]?=some (off+o,u.size):=by
 induction t with
 | pair a b eH fF =>
   intro off fs h;obtain⟨f,r,rfl,h1,h2,h3,h4,h5⟩:=h.cons;obtain⟨pl,p1,p2⟩:=fF h5;obtain⟨i,z,i1,i2,_⟩:=h3.info;refine⟨(f.offset,i.size)::pl,by simp[i1,p1],fun k u o hu ho=>?_⟩;cases k with
   | zero =>
     simp only[jW,eA,jx] at hu ho;subst hu ho;simp[h1,i2]
   | succ k =>
     simp only[jW,eA] at hu ho;cases hb:eA b k with
     | none=>rw[hb] at ho;cases ho
     | some o' =>
       rw[hb] at ho;simp only[qf,jx] at ho;have:=p2 k u o' hu hb;rw[Fq,this]
       congr 2;omega
 | unit =>
   intro off fs h;cases fs with
   | nil=>exact⟨[],rfl,fun k u o hu=>by cases k<;>cases hu⟩
   | cons f r=>simp[gV,cP] at h
 | _=>intro off fs h;cases fs<;>simp[gV,cP] at h
theorem sN{mem:Nat→Option aI}:∀{fs:List gr} {v:av},iX fs=some v→aV γ mem w v .cells (uR fs):=by
 intro fs;induction fs with
 | nil=>intro v h;obtain rfl:=au h;rfl
 | cons f r ih =>
   intro v h;cases f with
   | dat t =>
     simp only[iX] at h;split at h
     ·rename_i u hu;obtain rfl:=au h;exact⟨_,_,rfl,gR _ _ t,ih hu⟩
     ·cases h
   | buf e i =>
     simp only[iX] at h;split at h
     ·rename_i u hu;obtain rfl:=au h;exact⟨[.slice none 0 0],_,rfl,rfl,ih hu⟩
     ·cases h
   | one =>
     simp only[iX] at h;split at h
     ·rename_i u hu;obtain rfl:=au h;exact⟨[.pointer none],_,rfl,rfl,ih hu⟩
     ·cases h
   | self=>cases h
theorem nM{place:Nat→Option (Nat×Nat)}{fs:List gr}(hpl:∀k o f,mI fs k=some o→fs[k]?=some f→place k=some (o,f.size))(h:bE B N γ σ a w) :
  ∀{parts:List (Nat×Operand)} {v v':av} {cells:Array Value},aV γ σ.mem w v .cells cells.toList→fL σ fs v parts=some v' →
   ∃cells',Instr.fill place cells (parts.map fun p=>(p.1,a.eval p.2))=some cells'∧aV γ σ.mem w v' .cells cells'.toList:=by
 intro parts;induction parts with
 | nil=>intro v v' cells hv hb;obtain rfl:=au hb;exact⟨cells,rfl,hv⟩
 | cons p r ih =>
   obtain⟨k,x⟩:=p;intro v v' cells hv hb;simp only[fL] at hb;split at hb
   case h_2=>cases hb
   rename_i o t y0 o' f hf ho Od;cases hc:Nat.beq o o'&&Nat.beq t.size f.size with
   | false=>rw[hc] at hb;cases hb
   | true =>
     rw[hc] at hb;simp only[bZ] at hb;simp only[bY] at hc;obtain rfl:=cB hc.1;have hsz:=cB hc.2;split at hb
     case h_2=>cases hb
     rename_i y hy;split at hb
     case h_2=>cases hb
     rename_i v1 hv1;have hx:aV γ σ.mem w (aZ σ x) .cells (a.eval x).cells.toList:=(h.aZ x).gk (fun u e=>by rw[e] at hy;cases hy) (fun e=>by rw[e] at hy;cases hy);have LW:aM w γ.I t y (a.eval x).cells.toList:=uq hy hx;obtain⟨b1,_⟩:=rQ hv hf;have Nq:o+t.size≤cells.toList.length:=b1;have hl:(a.eval x).cells.toList.length=t.size:=LW.length;have hn:=uS (f:=fun _=>.ret (.data t y)) hv hf (fun z hz=>by obtain rfl:=au hz;exact LW) hv1 hl;obtain⟨cells',k1,k2⟩:=ih (cells:=(splice cells.toList o (a.eval x).cells.toList).toArray) (by simpa using hn) hb;refine⟨cells',?_,k2⟩;simp only[jH];rw[oA (hpl k o f ho Od) (by rw[hl];exact hsz) (by rw[←hsz];simpa using Nq)];exact k1
theorem tL(hc:dw P cx){t:TypeId}{fs:List gr}{z0 p q:av}{parts:Array (Nat×Operand)}(h:bE B N γ σ a w)(hd:∀k,d=some k→k<N)(hO:find cx.jV t=some fs)
  (JE:iX fs=some z0) (hb:fL σ fs z0 parts.toList=some (.mix p q)) :
  gv P B N γ σ a w d (Instr.build t (parts.map fun(i,x)=>(i,a.eval x))) (σ.aA d (.mix p q)):=by
 have hB:=hc.jV _ _ hO;simp only[wL,bY] at hB;obtain⟨h1,h2⟩:=hB;obtain⟨i,z,i1,i2,i3,i4⟩:=eC h2;split at h1
 case h_2=>cases h1
 rename_i gs hg;obtain⟨pl,p1,p2⟩:=qw h1;obtain⟨cells',k1,c1,c2,e1,e2,e3⟩:=nM (place:=fun k=>pl.toArray[k]?) (fun k o f ho hf=>by have:=p2 k o f ho hf;simpa using this) h
  (v:=z0) (cells:=z.cells) (by rw[i4];exact sN JE) hb
 have hrun:(Instr.build t (parts.map fun(i,x)=>(i,a.eval x))).run P w=.ok (.agg cells') w:=by
  refine run_build w t _ _ ?_;unfold Program.built;simp only[i1,hg,i3,p1];simpa using k1
 exact aL h hd hrun ⟨c1,c2,by rw[←e1],e2,e3⟩
theorem rS(hc:dw P cx){t:TypeId}{fs:List gr}{z0:av}{u:Ty.unit.den}{parts:Array (Nat×Operand)}(h:bE B N γ σ a w)(hd:∀k,d=some k→k<N)(hO:find cx.jV t=some fs)
  (JE:iX fs=some z0) (hb:fL σ fs z0 parts.toList=some (.data .unit u)) :
  gv P B N γ σ a w d (Instr.build t (parts.map fun(i,x)=>(i,a.eval x))) (σ.aA d (.data .unit ())):=by
 have hB:=hc.jV _ _ hO;simp only[wL,bY] at hB;obtain⟨h1,h2⟩:=hB;obtain⟨i,z,i1,i2,i3,i4⟩:=eC h2;split at h1
 case h_2=>cases h1
 rename_i gs hg;obtain⟨pl,p1,p2⟩:=qw h1;obtain⟨cells',k1,k2⟩:=nM (place:=fun k=>pl.toArray[k]?) (fun k o f ho hf=>by have:=p2 k o f ho hf;simpa using this) h
  (v:=z0) (cells:=z.cells) (by rw[i4];exact sN JE) hb
 have hrun:(Instr.build t (parts.map fun(i,x)=>(i,a.eval x))).run P w=.ok (.agg cells') w:=by
  refine run_build w t _ _ ?_;unfold Program.built;simp only[i1,hg,i3,p1];simpa using k1
 have e:cells'.toList=[]:=k2;exact aL h hd hrun ⟨[],rfl,by rw[show cells'=#[] from zX e];rfl⟩
theorem pQ(hc:dw P cx){t:TypeId}{u v:Ty}{parts:Array (Nat×Operand)}{x:(Ty.pair u v).den}(h:bE B N γ σ a w)(hd:∀k,d=some k→k<N)(hT:find cx.T t=some (.pair u v))
  (hb:cW σ (.pair u v) (Ty.pair u v).zero parts.toList=some (x,σ')) :
  gv P B N γ σ a w d (Instr.build t (parts.map fun(i,x)=>(i,a.eval x))) (σ'.aA d (.data (.pair u v) x)):=by
 have hD:=hc.T _ _ hT;obtain⟨fs,f1,f2,_⟩:=hD.pair;obtain⟨pl,p1,p2⟩:=f2.places;obtain⟨i,z,i1,i2,i3,i4⟩:=hD.info;obtain⟨cells',γ',k1,k2,k3,k4⟩:=rR (place:=fun k=>pl.toArray[k]?) (fun k u o hu ho=>by have:=p2 k u o hu ho;simpa using this) h
  (x:=(Ty.pair u v).zero) (cells:=z.cells) (by rw[i4];exact gR w γ.I _) hb
 have hrun:(Instr.build t (parts.map fun(i,x)=>(i,a.eval x))).run P w=.ok (.agg cells') w:=by
  refine run_build w t _ _ ?_;unfold Program.built;simp only[i1,f1,i3,p1];simpa using k1
 exact⟨_,_,γ',hrun,k2.nG hd ⟨_,k4,rfl⟩,by cases d<;>exact k3⟩
theorem qE(hc:dw P cx){t:TypeId}{n:Nat}{e:Ty}{parts:Array (Nat×Operand)}{l:List e.den}(h:bE B N γ σ a w)(hd:∀k,d=some k→k<N)(hT:find cx.T t=some (.arr n e))
  (hb:cR σ e (List.replicate n e.zero) parts.toList=some (l,σ')) :
  gv P B N γ σ a w d (Instr.build t (parts.map fun(i,x)=>(i,a.eval x))) (σ'.aA d (.data (.arr n e) l)):=by
 have hD:=hc.T _ _ hT;obtain⟨bN,f1,f2,f3⟩:=hD.arr;obtain⟨ie,ze,e1,e2,e3,e4⟩:=f2.info;obtain⟨i,z,i1,i2,i3,i4⟩:=hD.info;obtain⟨cells',γ',k1,k2,k3,k4⟩:=nc (n:=n) (place:=fun k=>some (k*ie.size,ie.size)) (fun k=>by rw[e2]) h
  (l:=List.replicate n e.zero) (cells:=z.cells) (by rw[i4];exact gR w γ.I (.arr n e)) hb
 have hrun:(Instr.build t (parts.map fun(i,x)=>(i,a.eval x))).run P w=.ok (.agg cells') w:=by
  refine run_build w t _ _ ?_;unfold Program.built;simp only[i1,f1,i3,e1];simpa using k1
 exact⟨_,_,γ',hrun,k2.nG hd ⟨_,k4,rfl⟩,by cases d<;>exact k3⟩
theorem kf{e:Ty}{z:Value}(hz:z.cells.toList=cC e)(he:0<e.size)(n:Nat):(madeCells z.cells (n*e.size)).toList=cC (.arr n e):=by
 have hzl:z.cells.size=e.size:=by rw[←cc e,←hz];simp
 apply zO;intro j;have hlen:(cC (.arr n e)).length=n*e.size:=by rw[cc];rfl
 rcases rF j (n*e.size) with hj|hj
 ·have h1:(madeCells z.cells (n*e.size)).toList[j]?=some (z.cells[j % z.cells.size]!):=by simp[madeCells,hj]
  rw[h1];have hdiv:j / e.size<n:=by rw[Jp he];exact hj
  have hk:=b8 (cC e) n (j / e.size) hdiv;rw[cc] at hk;have hmod:=wK j he;have hkk:j / e.size*e.size+j % e.size=j:=by rw[Nat.mul_comm];exact FB j e.size
  have h2:(cC (.arr n e))[j]?=(cC e)[j % e.size]?:=by
   conv=>rhs;rw[←hk]
   rw[jw,gd hmod,nk,hkk];rfl
  rw[h2,←hz,hzl];have hm:j % e.size<z.cells.size:=by omega
  simp[hm]
 ·rw[DP (by simp[madeCells];omega),DP (by omega)]
theorem yI{w:World}{I:Nat→Nat→Prop}{e:Ty}{n:Nat}{l:List e.den}{cells:Array Value}{t:TypeId}{blk:Nat}{fr:Nat×Nat}(h:aM w I (.arr n e) l cells.toList)(hg:w.heap[blk]?=some (.cells cells t fr))
  (hI:∀o,I blk o) (hn:n≤maxLen):aM w I (.slice e) l [.slice (some ⟨blk,0,none⟩) n n]:=by
 obtain⟨h1,h2,h3⟩:=h;have h1':l.length=n:=h1;refine .inr ⟨blk,0,n,by rw[←h1'],by rw[←h1'];exact dB _,hn,fun i x hx=>?_⟩;have hx':l[i]?=some x:=hx;have hi:i<n:=by have:=(List.getElem?_eq_some_iff.1 hx').1;omega
 have hr:=h3 i x hx';refine⟨_,hr.length,fun j c hj=>⟨?_,hI _⟩,hr⟩;rw[cell_of_heap hg];rw[jw] at hj;split at hj
 ·rw[nk] at hj;rw[lu];simpa using hj
 ·cases hj
theorem rT(hc:dw P cx){t:TypeId}{n:Nat}{e:Ty}{parts:Array (Nat×Operand)}{l:List e.den}(h:bE B N γ σ a w)(hd:∀k,d=some k→k<N)(hT:find cx.T t=some (.slice e))
  (hn:Nat.ble (n*e.size) 65536=true) (hb:cR σ e (List.replicate n e.zero) parts.toList=some (l,σ')) :
  gv P B N γ σ a w d (Instr.buildSlice t n (parts.map fun(i,x)=>(i,a.eval x))) (σ'.aA d (.data (.slice e) l)):=by
 have hD:=hc.T _ _ hT;have hn:n*e.size≤65536:=tq hn;obtain⟨bN,f1,f2,f3,f4⟩:=hD.slice;obtain⟨ie,ze,e1,e2,e3,e4⟩:=f2.info;obtain⟨cells',γ',k1,k2,k3,k4⟩:=nc (n:=n) (place:=fun k=>some (k*ie.size,ie.size)) (fun k=>by rw[e2]) h
  (l:=List.replicate n e.zero) (cells:=madeCells ze.cells (n*e.size)) (by rw[kf e4 f4];exact gR w γ.I (.arr n e)) hb
 obtain⟨m1,m2⟩:=k2.ok.J5 cells' bN;have hrun:(Instr.buildSlice t n (parts.map fun(i,x)=>(i,a.eval x))).run P w=.ok (.slice (some ⟨w.heap.size,0,none⟩) n n) (w.alloc (.cells cells' bN)):=by
  have KG:Instr.fill (fun i=>some (i*ie.size,ie.size)) (madeCells ze.cells (n*ie.size)) (parts.map fun(i,x)=>(i,a.eval x)).toList=some cells':=by rw[e2] at k1⊢;simpa using k1
  by_cases h0:n*ie.size=0
  ·have JE:madeCells ze.cells (n*ie.size)=#[]:=by rw[h0];simp[madeCells]
   rw[JE] at KG;simp only[Fj] at KG;simp[Instr.buildSlice,run_underlying f1,Go.sizeOf,typeInfo,zeroValue,e1,e3,h0,newRow];have hz:(Array.map (fun x:Nat=>(default:Value)) (Array.range 0))=#[]:=by simp[Array.range]
   rw[hz,KG];rfl
  ·exact run_buildSlice w t bN n _ cells' ie ze f1 e1 e3 (by rw[e2];omega) h0 KG
 refine⟨_,_,_,hrun,k2.aA m2 m1 hd (v:=.data (.slice e) l) ⟨[.slice (some ⟨w.heap.size,0,none⟩) n n],?_,rfl⟩,by cases d<;>exact k3.trans m2⟩;refine yI (aM.mono m2.I m2.cells k4) (heap_alloc_new w _) (fun o=>.inr rfl) ?_;have:n*1≤n*e.size:=Nat.mul_le_mul_left _ f4;have:(65536:Nat)≤maxLen:=by decide
 omega
theorem yJ{α:Type}{l r:List α}{c:α}{j:Nat}(h:l.length=j):(l++([c]++r)).take (j+1)=l++[c]:=by
 subst h;rw[List.take_append,yj (by omega)];simp
theorem yK{place:Nat→Option (Nat×Nat)}(hpl:∀k,place k=some (k,1))(h:bE B N γ σ a w) :
  ∀{parts:List (Nat×Operand)} {k:Nat} {v:av} {cells:Array Value},cells.size=k+parts.length→nC σ k parts=some v →
   ∃vals:List Value,Instr.fill place cells (parts.map fun p=>(p.1,a.eval p.2))=some (cells.toList.take k++vals).toArray∧aV γ σ.mem w v .cells vals:=by
 intro parts;induction parts with
 | nil =>
   intro k v cells hs hv;obtain rfl:=au hv;refine⟨[],?_,rfl⟩;have:cells.toList.take k=cells.toList:=yj (by simp only[wJ,pH] at hs;simp[hs]);rw[this];simp[Instr.fill]
 | cons p r ih =>
   obtain⟨j,x⟩:=p;intro k v cells hs hv;simp only[nC] at hv;cases hj:Nat.beq j k with
   | false=>rw[hj] at hv;cases hv
   | true =>
     rw[hj] at hv;simp only[bZ] at hv;obtain rfl:=cB hj;simp only[oM] at hs;have key:∀(u u':av) (c:Value),(∀t,u≠.kN t)→u≠.undef→aZ σ x=u→nC σ (j+1) r=some u'→v=.mix u u'→(a.eval x).cells.toList=[c] →
       ∃vals:List Value,Instr.fill place cells (((j,x)::r).map fun p=>(p.1,a.eval p.2))=some (cells.toList.take j++vals).toArray∧aV γ σ.mem w v .cells vals:=by
      intro u u' c h1 h2 hu Ie LV hcell;have hx:=h.aZ x;rw[hu] at hx;have hx':=hx.gk h1 (fun e=>absurd e h2);have hlen:(splice cells.toList j [c]).length=cells.toList.length:=bB (by simp;omega);obtain⟨vals,k1,k2⟩:=ih (k:=j+1) (cells:=(splice cells.toList j [c]).toArray) (by simp only[Fz,hlen,Fh];omega) Ie;have ht:(splice cells.toList j [c]).take (j+1)=cells.toList.take j++[c]:=by
       have:(cells.toList.take j).length=j:=by rw[gb,Fh];omega
       simp only[splice];rw[kK,yJ this]
      refine⟨c::vals,?_,?_⟩
      ·simp only[jH];rw[oA (hpl j) (by rw[hcell];rfl) (by omega),hcell,k1];rw[ht];simp
      ·rw[LV];exact⟨[c],vals,rfl,by rw[hcell] at hx';exact hx',k2⟩
     split at hv
     ·rename_i u' hu Ie;obtain rfl:=au hv;have hx:=h.aZ x;rw[hu] at hx;obtain hx:a.eval x=_:=by simpa [aV] using hx
      exact key .iL u' (.pointer none) (fun t e=>by cases e) (fun e=>by cases e) hu Ie rfl (by rw[hx];rfl)
     ·rename_i b ag q u' hu Ie;obtain rfl:=au hv;have hx:=h.aZ x;rw[hu] at hx;obtain⟨⟨y,hy,ho⟩,_⟩:=hx;obtain rfl:a.eval x=y:=by simpa using hy
      refine key (.ptr b ag q) u' (a.eval x) (fun t e=>by cases e) (fun e=>by cases e) hu Ie rfl ?_;generalize a.eval x=y at ho⊢;cases y<;>first|rfl|(simp[Value.oneCell'] at ho)
     ·rename_i f c u' hu Ie;obtain rfl:=au hv;have hx:=h.aZ x;rw[hu] at hx;obtain⟨arr,hx,_,_⟩:=hx;obtain hx:a.eval x=_:=by simpa using hx
      exact key (.fn f c) u' _ (fun t e=>by cases e) (fun e=>by cases e) hu Ie rfl (by rw[hx];rfl)
     ·cases hv
theorem wR(hc:dw P cx){t:TypeId}{nb n:Nat}{parts:Array (Nat×Operand)}(h:bE B N γ σ a w)(hd:∀k,d=some k→k<N)
  (hr:(oq cx nb d t n parts.toList σ).run=some σ'):gv P B N γ σ a w d (Instr.buildSlice t n (parts.map fun(i,x)=>(i,a.eval x))) σ':=by
 unfold oq at hr;split at hr
 case h_2=>cases hr
 rename_i k e v he hv;obtain⟨hb,eP⟩:=ai hr;simp only[bY] at hb;obtain⟨⟨hn,h0⟩,F8⟩:=hb;obtain rfl:=cB hn;have h0':0<parts.toList.length:=by simpa using h0
 have Ig:parts.toList.length≤64:=tq F8;obtain⟨k1,k2⟩:=mO hc he;obtain⟨_,hs,z,hz,_⟩:=hc.jy _ k2;obtain⟨ie,i1,i2⟩:∃ie,P.info? e=some ie∧ie.size=1:=by
  have:=hs w;cases hi:P.info? e with
  | none=>simp[Go.sizeOf,typeInfo,hi] at this
  | some ie=>simp[Go.sizeOf,typeInfo,hi] at this;exact⟨ie,rfl,this⟩
 obtain⟨z',i3⟩:∃z',ie.zero=some z':=by
  have:=hz w;cases hi:ie.zero with
  | none=>simp[zeroValue,typeInfo,i1,hi] at this
  | some z'=>exact⟨z',rfl⟩
 obtain⟨ag,aC,hr2⟩:=bT eP;obtain rfl:=au hr2;obtain⟨vals,f1,f2⟩:=yK (place:=fun i=>some (i*ie.size,ie.size)) (fun j=>by rw[i2];simp) h (k:=0) (cells:=(Array.range (parts.toList.length*ie.size)).map (z'.cells[· % z'.cells.size]!)) (by simp[i2]) hv;have hrun:=run_buildSlice w t e parts.toList.length (parts.map fun(i,x)=>(i,a.eval x)) _ ie z' k1 i1 i3 (by rw[i2];omega) (by rw[i2];omega) (by rw[Fj];exact f1);obtain⟨m1,m2⟩:=h.ok.newVar (b:=nb+k) (v:=v) (tid:=0) aC (cs:=((((Array.range (parts.toList.length*ie.size)).map (z'.cells[· % z'.cells.size]!)).toList.take 0)++vals).toArray) e (.inl rfl) (by simpa using f2);refine⟨_,_,_,hrun,h.step m2 m1 (hd k rfl) ?_,m2⟩;refine⟨⟨_,rfl,rfl⟩,cl (aH _ _) rfl ⟨by simp,w.heap.size,0,by simp[aK],by omega,by omega,by omega,_,_,rfl,by simp,.inr ?_⟩⟩;simp[bt]
theorem rU(hc:dw P cx){t:TypeId}{e:Ty}{nb k:Nat}(h:bE B N γ σ a w)(hd:k<N)(hT:find cx.T t=some (.slice e))
  (hr:(σ.ay (nb+k) (.data (.slice e) ([]:List e.den)) 0 true fun ag σ=>.ret (σ.put k (.whole (nb+k) ag))).run=some σ') :
  gv P B N γ σ a w (some k) (Instr.buildSlice t 0 #[]) σ':=by
 obtain⟨bN,f1,f2,f3,f4⟩:=(hc.T _ _ hT).slice;obtain⟨ie,ze,e1,e2,e3,e4⟩:=f2.info;obtain⟨ag,aC,hr2⟩:=bT hr;obtain rfl:=au hr2;have hrun:(Instr.buildSlice t 0 #[]).run P w=.ok (.slice (some ⟨w.heap.size,0,none⟩) 0 0) (w.alloc (.cells #[] bN)):=by
  simp[Instr.buildSlice,run_underlying f1,Go.sizeOf,typeInfo,zeroValue,e1,e3,newRow,Instr.fill];have hz:(Array.map (fun x:Nat=>(default:Value)) (Array.range 0))=#[]:=by simp[Array.range]
  rw[hz]
 obtain⟨n1,n2⟩:=h.ok.yD (w':=w.alloc (.cells #[] bN)) (b:=nb+k) (e:=e) (l:=([]:List e.den)) (tid:=0) (ag:=ag) (cap:=0) aC f4
  ((jR.refl _ _).alloc h.ok.base _) (bO w _) (heap_alloc_new w _) (nI _ _) (.inl rfl) (dB _) (lO _) (by simp) (fun i z hz=>by cases hz)
 refine⟨_,_,_,hrun,h.step n2 n1 hd ?_,n2⟩;exact⟨⟨_,rfl,rfl⟩,cl (aH _ _) rfl ⟨e,0,rfl,rfl,.inr ⟨w.heap.size,0,by simp[aK],rfl⟩⟩⟩
end
end Go.Ge
namespace Go.Ge
open RowKit
section
variable {P:Program} {B:iP} {N:Nat} {γ:Gh} {σ σ':St} {a:Act} {w w':World} {d:Option Nat} {cx:Ctx}
theorem pR:(4294967296:Nat)≤maxLen:=by decide
theorem Ar{n:Nat}(h:fits (n:Int)=true):n≤4294967296:=by simp[fits] at h;omega
theorem sO{bN:TypeId}{ie:TypeInfo}(hb:uP P bN=true)(hi:P.info? bN=some ie):ie.bytes≤32768:=by
 unfold uP at hb;rw[hi] at hb;exact tq hb
theorem l9{mem:Nat→Option aI}{b cap blk:Nat}{bx:aI}{e:Ty}{n:Nat}(aJ:bx.buf=true)(hrow:bx.row=some (e,n)) :
  aV (aK γ b (some (blk,cap))) (bu mem b bx) w' (.whole b bx.ag) .val [.slice (some ⟨blk,0,none⟩) n cap] :=
 ⟨⟨_,rfl,rfl⟩,cl (aH _ _) rfl ⟨e,n,aJ,hrow,.inr ⟨blk,cap,by simp[aK],rfl⟩⟩⟩
theorem tM(hc:dw P cx){t:TypeId}{nb k:Nat}{e:Ty}{x y:Operand}{kl kc:IntKind}{l c:Int}(h:bE B N γ σ a w)(hd:k<N)(hT:find cx.T t=some (.slice e))
  (hx:aZ σ x=.data (.int kl) l) (hy:aZ σ y=.data (.int kc) c) (hin:inside 0 l c=true) (hf:fits c=true)
  (hr:(σ.ay (nb+k) (.data (.slice e) (yo l e.zero)) 0 true fun ag σ=>.ret (σ.put k (.whole (nb+k) ag))).run=some σ') :
  gv P B N γ σ a w (some k) (Instr.makeSlice t (a.eval x) (a.eval y)) σ':=by
 obtain⟨ag,aC,hr2⟩:=bT hr;obtain rfl:=au hr2;obtain⟨_,h0,h1⟩:=fO hin;have Oe:c≤4294967296:=by simpa [fits] using hf
 have LX:=h.aZ x;have Nr:=h.aZ y;rw[hx] at LX;rw[hy] at Nr;obtain⟨ex,_⟩:=jz LX;obtain⟨ey,_⟩:=jz Nr;obtain⟨bN,f1,f2,f3,f4⟩:=(hc.T _ _ hT).slice;obtain⟨ie,ze,e1,e2,e3,e4⟩:=f2.info;have hb:=sO f3 e1;have hbytes:(ie.bytes:Int)*c≤281474976710656:=by
  have:(ie.bytes:Int)*c≤32768*c:=Int.mul_le_mul_of_nonneg_right (by omega) (by omega);omega
 have hrun:=run_make (P:=P) w t bN ie ze f1 e1 e3 kl kc l c h0 h1 hbytes (by omega);have hcells:(madeCells ze.cells (c.toNat*ie.size)).toList=cC (.arr c.toNat e):=by rw[e2];exact kf e4 f4 _
 have hlen:(yo l e.zero).length=l.toNat:=by simp[yo]
 obtain⟨m1,m2⟩:=h.ok.yD (w':=w.alloc (.cells (madeCells ze.cells (c.toNat*ie.size)) bN)) (b:=nb+k) (e:=e) (l:=yo l e.zero) (tid:=0) (ag:=ag) (cap:=c.toNat) aC f4
  ((jR.refl _ _).alloc h.ok.base _) (bO w _) (heap_alloc_new w _) (nI _ _) (.inl rfl) (by rw[hlen];omega) (by have:=pR;omega)
  (by rw[e2];exact size_madeCells _ _) (fun i z hz=>by
   rw[hcells];have E5:(List.replicate l.toNat e.zero)[i]?=some z:=hz;rw[JW] at E5;split at E5
   ·rename_i hi;obtain rfl:e.zero=z:=by simpa using E5
    have:=b8 (cC e) c.toNat i (by omega);rw[cc] at this;rw[show cC (.arr c.toNat e)=(List.replicate c.toNat (cC e)).flatten from rfl,this];exact gR _ _ _
   ·cases E5)
 refine⟨_,_,_,by rw[ex,ey];exact hrun,h.step m2 m1 hd ?_,m2⟩;have:=l9 (γ:=γ) (w':=w.alloc (.cells (madeCells ze.cells (c.toNat*ie.size)) bN)) (mem:=σ.mem) (b:=nb+k) (cap:=c.toNat) (blk:=w.heap.size)
  (bx:={ val:=.data (.slice e) (yo l e.zero),tid:=0,buf:=true,ro:=false,lk:=false,ag }) (e:=e) (n:=l.toNat) rfl (by rw[←hlen];rfl)
 exact this
theorem yL(b:UInt8):IntKind.u8.min≤((b.toNat:Int))∧((b.toNat:Int))≤IntKind.u8.max:=u8_in b
theorem yM(l:List Int):(⟨(aB l).toArray⟩:ByteArray)=strOfNums l:=rfl
theorem Ed{I:Nat→Nat→Prop}{l:List Int}{v:Value}{src dst e:TypeId}(h:nK w I (.int .u8) l v)(hs:P.underlying src=some (.slice e))(he:P.underlying e=some (.int .u8))(hd:P.underlying dst=some .string) :
  (convert src dst v).run P w=.ok (.string ⟨(aB l).toArray⟩) w∧l.length≤maxLen:=by
 rcases h with ⟨rfl,base,cap,r1,r2,r3⟩|⟨blk,off,cap,r1,r2,r3,r4⟩
 ·rcases r3 with rfl|⟨blk,off,rfl⟩
  ·rw[r1];refine⟨?_,lO _⟩;cases base with
   | none=>exact run_convert_bytes_nil w src e hs he 0 0 dst hd
   | some ad =>
     rw[run_convert_bytes_string w src dst e _ _ _ hs he hd];have hl:(loadCells ad 0).run P w=.ok #[] w:=run_loadCells_list (P:=P) w ad [] (fun j v hv=>by cases hv);simp[Conv.bytesToString,Sem.run_bind,hl,aB];rfl
  ·rw[r1];refine⟨?_,lO _⟩;exact run_convert_bytes_arg w src e hs he blk off 0 cap [] rfl (fun i hi=>by omega) dst hd
 ·rw[r1];refine⟨?_,gK r2 r3⟩;rw[yM];refine run_convert_bytes_arg w src e hs he blk off l.length cap l rfl (fun i hi=>?_) dst hd;obtain⟨es,g1,g2,g3⟩:=r4 i l[i] (sC hi);obtain⟨rfl,_⟩:=g3;have:=g2 0 _ rfl;simp only[Ty.size,BF,pH] at this;rw[this];simp[List.getD,sC hi]
theorem rV(l:List Int):(aB l).length=l.length:=by simp[aB]
theorem bytesRow_at{s:List UInt8}{cap i:Nat}{b:UInt8}(hb:s[i]?=some b):((bytesRow ⟨s.toArray⟩ cap).toList.drop (i*1)).take 1=[.int .u8 (b.toNat:Int)]:=by
 have hi:=(List.getElem?_eq_some_iff.1 hb).1;apply zO;intro j;rw[jw];split
 ·rename_i hj;obtain rfl:j=0:=by omega
  rw[nk];simp only[bytesRow,BF,pH,Fi,Fj];rw[HM (by simpa using hi)];simp[hb]
 ·rename_i hj;rw[DP (by simp;omega)]
theorem wS(s:ByteArray){cap:Nat}(h:s.size≤cap):(bytesRow s cap).size=cap:=by
 simp only[bytesRow,FA,Array.size_map,Array.size_replicate];have:s.data.size=s.size:=rfl;omega
theorem va(hc:dw P cx){nb k:Nat}{src dst:TypeId}{x:Operand}{s:List UInt8}(h:bE B N γ σ a w)(hd:k<N)(hs:find cx.T src=some .str)(hd':find cx.T dst=some (.slice (.int .u8)))
  (hx:aZ σ x=.data .str s) (hr:(σ.ay (nb+k) (.data (.slice (.int .u8)) (ah s)) 0 true fun ag σ=>.ret (σ.put k (.whole (nb+k) ag))).run=some σ') :
  gv P B N γ σ a w (some k) (convert src dst (a.eval x)) σ':=by
 have hv:=h.aZ x;rw[hx] at hv;obtain⟨ex,hl⟩:=lE hv;obtain⟨ag,aC,dV⟩:=bT hr;obtain rfl:=au dV;obtain⟨bN,f1,f2,f3,f4⟩:=(hc.T _ _ hd').slice;have hrun:=run_bytes_of_string (P:=P) w src dst bN ⟨s.toArray⟩ (hc.T _ _ hs).str f1 f2.int;have hsz:(⟨s.toArray⟩:ByteArray).size=s.length:=by simp[ByteArray.size]
 rw[hsz] at hrun;have hge:=grownCap_ge w s.length 0 bN;have hle:=grownCap_le_maxLen w s.length 0 bN hl;have hrs:=wS ⟨s.toArray⟩ (cap:=grownCap w s.length 0 bN) (by rw[hsz];exact hge);have hlen:(ah s).length=s.length:=by simp[ah]
 generalize hcap:grownCap w s.length 0 bN=cap at *;obtain⟨m1,m2⟩:=h.ok.yD (b:=nb+k) (e:=.int .u8) (l:=(ah s:List Int)) (tid:=0) (ag:=ag) (cap:=cap)
  (w':=w.drew.alloc (.cells (bytesRow ⟨s.toArray⟩ cap) bN ((bytesRow ⟨s.toArray⟩ cap).size,(bytesRow ⟨s.toArray⟩ cap).size+1)))
  aC (by decide) ((jR.refl B w).drew.alloc h.ok.base _) (bO w.drew _) (heap_alloc_new w.drew _) ⟨fun o ho hh=>by omega,fun he=>by cases he⟩ (.inl rfl) (gK (ym hlen) hge) hle
  (by rw[hrs];exact(BF _).symm) (fun i z hz=>by
   have E5:(ah s)[i]?=some z:=hz;simp only[ah,wH] at E5;cases hb:s[i]? with
   | none=>rw[hb] at E5;cases E5
   | some b =>
     rw[hb] at E5;obtain rfl:(b.toNat:Int)=z:=au E5;exact⟨bytesRow_at (cap:=cap) hb,yL b⟩)
 refine⟨_,_,_,by rw[ex];exact hrun,h.step m2 m1 hd ?_,m2⟩;have:=l9 (γ:=γ) (mem:=σ.mem) (b:=nb+k) (cap:=cap) (blk:=w.heap.size)
  (bx:={ val:=.data (.slice (.int .u8)) (ah s),tid:=0,buf:=true,ro:=false,lk:=false,ag }) (e:=.int .u8) (n:=s.length)
  (w':=w.drew.alloc (.cells (bytesRow ⟨s.toArray⟩ cap) bN ((bytesRow ⟨s.toArray⟩ cap).size,(bytesRow ⟨s.toArray⟩ cap).size+1))) rfl (by rw[←hlen];rfl)
 exact this
theorem qF(hc:dw P cx){nb:Nat}{src dst:TypeId}{x:Operand}(h:bE B N γ σ a w)(hd:∀k,d=some k→k<N)(hr:(dz cx nb d src dst (aZ σ x) σ).run=some σ') :
  gv P B N γ σ a w d (convert src dst (a.eval x)) σ':=by
 have hv:=h.aZ x;unfold dz at hr;split at hr
 ·rename_i ks k kx n hs hd' hx;rw[hx] at hv;obtain⟨ex,_⟩:=jz hv;obtain rfl:=au hr;refine aL h hd (x:=.int k (k.wrap n)) ?_ (mkInt (cu _ _));rw[ex];simp[convert,run_underlying (hc.T _ _ hs).int,run_underlying (hc.T _ _ hd').int,Conv.intToInt]
 ·rename_i s hs hd' hx;rw[hx] at hv;obtain rfl:=au hr;obtain⟨ex,hl⟩:=lE hv;refine aL h hd (x:=a.eval x) ?_ hv;rw[ex];simp[convert,run_underlying (hc.T _ _ hs).str,run_underlying (hc.T _ _ hd').str]
 ·rename_i s hs hd' hx;split at hr
  ·rename_i k;obtain⟨hf,hr2⟩:=aX hr;exact va hc h (hd k rfl) hs hd' hx hr2
  ·exact absurd hr (by intro k;cases k)
 ·rename_i x0 hs hd';split at hr
  ·rename_i l hl;obtain rfl:=au hr;obtain⟨bN,f1,f2,f3,f4⟩:=(hc.T _ _ hs).slice;obtain⟨r1,r2⟩:=Ed (dst:=dst) (iR h.ok hv hl) f1 f2.int (hc.T _ _ hd').str;refine aL h hd r1 ⟨_,⟨rfl,?_⟩,rfl⟩;exact gK (ym (rV l)) r2
  ·exact absurd hr (by intro k;cases k)
 ·exact absurd hr (by intro k;cases k)
end
end Go.Ge
namespace Go.Ge
open RowKit
section
variable {P:Program} {B:iP} {N:Nat} {γ:Gh} {σ σ':St} {a:Act} {w w':World} {d:Option Nat} {cx:Ctx}
def cG(w:World)(I:Nat→Nat→Prop)(e:Ty)(l:List e.den)(cs:List Value):Prop :=
 ∀(i:Nat) (x:e.den),l[i]?=some x→aM w I e x ((cs.drop (i*e.size)).take e.size)
theorem gl{α:Type}{a b:List α}{i s:Nat}(h:(i+1)*s≤a.length):((a++b).drop (i*s)).take s=(a.drop (i*s)).take s:=by
 rw[nx] at h;rw[Fb (by omega),JU (by rw[kL];omega)]
theorem cG.append{I:Nat→Nat→Prop}{e:Ty}{l m:List e.den}{c1 c2 rest:List Value}(h1:cG w I e l c1)(h2:cG w I e m c2)(Mr:c1.length=l.length*e.size)(Bw:c2.length=m.length*e.size) :
  cG w I e (l++m) (c1++c2++rest):=by
 intro i x hx;rw[Fw] at hx;split at hx
 ·rename_i hi;have hm:(i+1)*e.size≤l.length*e.size:=jf _ hi;rw[kK,gl (by omega)];exact h1 i x hx
 ·rename_i hi;have hj:i-l.length<m.length:=(List.getElem?_eq_some_iff.1 hx).1;have hm:(i-l.length+1)*e.size≤m.length*e.size:=jf _ hj;have e1:i*e.size=c1.length+(i-l.length)*e.size:=by rw[Mr,←mE];congr 1;omega
  rw[kK,e1,←mD,pG,gl (by omega)];exact h2 _ x hx
theorem cG.front{I:Nat→Nat→Prop}{e:Ty}{l:List e.den}{cs:List Value}{n:Nat}(h:cG w I e l cs)(hn:l.length*e.size≤n)(hc:n≤cs.length):cG w I e l (cs.take n):=by
 intro i x hx;have hi:i<l.length:=(List.getElem?_eq_some_iff.1 hx).1;have hm:(i+1)*e.size≤l.length*e.size:=jf _ hi;have:(((cs.take n)++cs.drop n).drop (i*e.size)).take e.size=((cs.take n).drop (i*e.size)).take e.size:=gl (by rw[gb];omega);rw[←this,wE];exact h i x hx
theorem Ih{I:Nat→Nat→Prop}{e:Ty}{m:List e.den}{v:Value}{tx t0 e':TypeId}(KH:(∃e',P.underlying tx=some (.slice e'))∨P.underlying tx=some .string)(hk:P.underlying t0=some (.slice e'))(h:nK w I e m v) :
  ∃news,Src P e.size tx v m.length news w∧cG w I e m news:=by
 suffices ∃news,Src P e.size t0 v m.length news w∧cG w I e m news by
  obtain⟨news,n1,n2⟩:=this;exact⟨news,⟨KH,n1.len,n1.cells,n1.cellsD,n1.newsLen,n1.one⟩,n2⟩
 rcases h with ⟨rfl,base,cap,r1,r2,r3⟩|⟨blk,off,cap,r1,r2,r3,r4⟩
 ·refine⟨[],?_,fun i x hx=>by cases hx⟩;rcases r3 with rfl|⟨blk,off,rfl⟩
  ·rw[r1];cases base with
   | none=>exact Src.ofNil w hk 0
   | some ad=>exact Src.ofSlice w hk ad 0 0 [] (by simp) (fun j u hj=>by cases hj) (fun u hu=>by cases hu)
  ·rw[r1];exact Src.ofSlice w hk _ 0 cap [] (by simp) (fun j u hj=>by cases hj) (fun u hu=>by cases hu)
 ·obtain⟨news,n1,n2,n3,n4⟩:=u6 (w:=w) r4;refine⟨news,?_,n4⟩;rw[r1];exact Src.ofSlice w hk _ m.length cap news n1 (fun j u hj=>by rw[addr_add];exact n2 j u hj) n3
theorem Ii{I:Nat→Nat→Prop}{s:List UInt8}{tx:TypeId}(hk:(∃e',P.underlying tx=some (.slice e'))∨P.underlying tx=some .string) :
  ∃news,Src P 1 tx (.string ⟨s.toArray⟩) (ah s).length news w∧cG w I (.int .u8) (ah s:List Int) news:=by
 have hlen:(ah s).length=(⟨s.toArray⟩:ByteArray).size:=by simp[ah,ByteArray.size]
 refine⟨byteCells ⟨s.toArray⟩,by rw[hlen];exact⟨hk,fun _=>rfl,firstCells_string _ w,firstCells_string _ w.drew,by rw[byteCells_length,BF],fun u hu=>by
  obtain⟨_,_,rfl⟩:=List.mem_map.1 hu;rfl⟩,fun i x hx=>?_⟩
 have hx':(ah s)[i]?=some x:=hx;simp only[ah,wH] at hx';cases hb:s[i]? with
 | none=>rw[hb] at hx';cases hx'
 | some b =>
   rw[hb] at hx';obtain rfl:(b.toNat:Int)=x:=au hx';refine⟨?_,yL b⟩;apply zO;intro j;rw[jw];split
   ·rename_i hj;obtain rfl:j=0:=by simp[Ty.size] at hj;exact hj
    rw[nk];simp[byteCells,Ty.size,hb]
   ·rename_i hj;rw[DP (by simp[Ty.size] at hj⊢;omega)]
theorem ve{I:Nat→Nat→Prop}{t tx ty bN:TypeId}{e:Ty}{l m:List e.den}{base:Option Addr}{sCap:Nat}{olds news:List Value}{x:Value}(ht:P.underlying t=some (.slice bN))(he:Den P e bN)(hb:uP P bN=true)
  (hold:(Builtin.firstCells e.size l.length (.slice base l.length sCap)).run P w.drew=.ok olds.toArray w.drew) (hol:olds.length=l.length*e.size) (ho:cG w I e l olds)
  (hs:Src P e.size tx x m.length news w) (hn:cG w I e m news) (hg:sCap<l.length+m.length) (hf:l.length+m.length≤4294967296) :
  ∃(cap:Nat) (cells:Array Value),(Builtin.append_ #[t,tx] ty #[.slice base l.length sCap,x]).run P w=.ok (.slice (some ⟨w.heap.size,0,none⟩) (l.length+m.length) cap) (w.drew.alloc (.cells cells bN)) ∧
   l.length+m.length≤cap∧cap≤maxLen∧cells.size=cap*e.size∧cG w I e (l++m) cells.toList:=by
 obtain⟨ie,ze,e1,e2,e3,e4⟩:=he.info;have hby:=sO hb e1;have hfit:=growslice_fits (need:=l.length+m.length) (old:=sCap) (bytes:=ie.bytes) hg (by
  have:(l.length+m.length)*ie.bytes≤4294967296*32768:=Nat.mul_le_mul hf hby;omega)
 have hrun:=run_append_grow_src (P:=P) w t tx ty bN ie ze ht e1 e3 base l.length sCap olds (by rw[e2];exact hold) x m.length news (by rw[e2];exact hs) hg (by omega) hfit;have hge:=grownCap_ge w (l.length+m.length) sCap bN;have hle:=grownCap_le_maxLen w (l.length+m.length) sCap bN (by have:=pR;omega);have hzl:ze.cells.size=e.size:=by rw[←cc e,←e4];simp
 refine⟨_,_,hrun,hge,hle,?_,?_⟩
 ·have KI:=hs.newsLen;have hsz:(Builtin.zeroCells ze.cells (grownCap w (l.length+m.length) sCap bN-(l.length+m.length))).size=(grownCap w (l.length+m.length) sCap bN-(l.length+m.length))*e.size:=by
   simp[Builtin.zeroCells,hzl]
  rw[FA,hsz];simp only[Fz,oL,hol,KI];rw[←mE,←mE]
  congr 1;omega
 ·rw[Fi];exact ho.append hn hol hs.newsLen
theorem aG.grow{mem:Nat→Option aI}(h:aG B γ mem w){b:Nat}{bx:aI}(hb:mem b=some bx){e:Ty}{l l':List e.den}(aJ:bx.buf=true)(hval:bx.val=.data (.slice e) l){blk cap:Nat}(hl:γ.loc b=some (blk,cap))
  {cur cur':Array Value} {t:TypeId} {fr:Nat×Nat} (hg:w.heap[blk]?=some (.cells cur t fr)) (E0:HG e cur fr) (cQ:bx.tid=0∨t=bx.tid) (hs:cur'.size=cur.size) (hsame:∀o,o<l.length*e.size→cur'[o]?=cur[o]?)
  (he:0<e.size) (hle:l.length≤l'.length) (hcap:l'.length≤cap) (hmax:cap≤maxLen) (hsz:cur.size=cap*e.size) (hel:cG w γ.I e l' cur'.toList) :
  let dQ:aI:={ bx with val:=.data (.slice e) l',ag:=bx.ag+1 }
  aG B γ (bu mem b dQ) (w.setRow blk cur')∧Ext B γ mem w γ (bu mem b dQ) (w.setRow blk cur'):=by
 intro dQ;have hf:=h.fresh b blk cap (by rw[hb];simp) hl;have D6:=setRow_heap w blk cur cur' t fr hg;have lD:∀i,i≠blk→(w.setRow blk cur').heap[i]?=w.heap[i]?:=fun i hi=>setRow_other w blk i cur' (fun e=>hi e);have hrow:=aI.bD aJ hval;have hx:Ext B γ mem w γ (bu mem b dQ) (w.setRow blk cur') :=
  { below:=⟨rfl,rfl,rfl,by simp,fun i hi=>lD i (fun e=>hi (by rw[e];exact hf.1))⟩
    I:=fun _ _ x=>x
    kP:=fun _ _ x=>.inl x
    cells:=fun c o x=>by
     by_cases e':c=blk
     ·subst e';have:=(h.sep b bx c cap o hb hl x).2 aJ e l.length hrow;rw[cell_of_heap D6,cell_of_heap hg];exact hsame o this
     ·exact cJ (lD c e')
    boxes:=fun c cx hc=>by
     by_cases e':c=b
     ·subst e';obtain rfl:cx=bx:=au (hc.symm.trans hb);exact⟨dQ,aH _ _,Nat.le_succ _,fun k=>absurd k (by simp[dQ])⟩
     ·exact⟨cx,by rw[az _ e'];exact hc,dB _,fun _=>⟨rfl,rfl,rfl⟩⟩ }
 refine⟨?_,hx⟩;exact
  { bX:=h.qu hx
    base:=by have:=h.base;simpa using this
    boxes:=fun c cx hc=>by
     by_cases e':c=b
     ·subst e';rw[aH] at hc;obtain rfl:=au hc;unfold bn;simp only[dQ,aJ];exact⟨e,l',rfl,he,.inr ⟨blk,cap,cur',t,fr,hl,D6,E0.same hs,cQ,hcap,hmax,by rw[hs];exact hsz,fun i x hi=>aM.mono hx.I hx.cells (hel i x hi)⟩⟩
     ·rw[az _ e'] at hc;refine(h.boxes c cx hc).keep hx rfl fun bQ k' hl'=>lD bQ fun e2=>e' ?_;subst e2;exact h.inj c b bQ k' cap (by rw[hc];simp) (by rw[hb];simp) hl' hl
    inj:=fun c d bQ k1 k2 hc hd h1 h2=>h.inj c d bQ k1 k2 (by
     by_cases e:c=b
     ·subst e;rw[hb];simp
     ·rwa [az _ e] at hc) (by
     by_cases e:d=b
     ·subst e;rw[hb];simp
     ·rwa [az _ e] at hd) h1 h2
    fresh:=fun c bQ k' hc h1=>by
     have:=h.fresh c bQ k' (by
      by_cases e:c=b
      ·subst e;rw[hb];simp
      ·rwa [az _ e] at hc) h1
     exact⟨this.1,by simpa using this.2⟩
    kO:=fun bQ off hi=>by have:=h.kO bQ off hi;simpa using this
    sep:=fun c cx bQ k' off hc h1 hi=>by
     by_cases e':c=b
     ·subst e';rw[aH] at hc;obtain rfl:=au hc;obtain⟨s1,s2⟩:=h.sep c bx bQ k' off hb h1 hi;refine⟨s1,fun _ u n hr=>?_⟩;have hr2:dQ.row=some (e,l'.length):=aI.bD (bx:=dQ) aJ rfl;rw[hr2] at hr;obtain⟨rfl,rfl⟩:=bM (au hr);have:=s2 aJ e l.length hrow;exact qe this (jf _ hle)
     ·rw[az _ e'] at hc;exact h.sep c cx bQ k' off hc h1 hi }
theorem F9(hm:aG B γ σ.mem w){e:Ty}{m:List e.den}{x:av}{v:Value}{tx t0 e':TypeId}(KH:(∃e',P.underlying tx=some (.slice e'))∨P.underlying tx=some .string)(hk:P.underlying t0=some (.slice e'))
  (hv:aV γ σ.mem w x .val [v]) (h:jY e σ x=some m):∃news,Src P e.size tx v m.length news w∧cG w γ.I e m news:=by
 unfold jY at h;split at h
 ·rename_i t;obtain⟨q,hq⟩:=eK h;subst q;subst hq;obtain⟨ev,_⟩:=lE hv;rw[ev];exact Ii KH
 ·exact Ih KH hk (iR hm hv h)
theorem mQ{α:Type}{c:Bool}{t:Tree α}{y:α}(h:(bif c then .fail else t).run=some y):c=false∧t.run=some y:=by
 cases c with
 | true=>cases h
 | false=>exact⟨rfl,h⟩
theorem ic{base:Option Addr}{t tx ty bN:TypeId}{size:Nat}{x:Value}{news:List Value}(ht:P.underlying t=some (.slice bN))(hsz:(Go.sizeOf bN).run P w=.ok size w)(hs:Src P size tx x 0 news w) :
  (Builtin.append_ #[t,tx] ty #[.slice base 0 0,x]).run P w=.ok (.slice base 0 0) w:=by
 cases base with
 | none=>rcases hs.kind with ⟨e',hk⟩|hk<;>simp[Builtin.append_,run_underlying ht,run_underlying hk,hsz,hs.len,hs.cells]
 | some ad =>
   have hn:news=[]:=by have:=hs.newsLen;simpa using this
   subst hn;rcases hs.kind with ⟨e',hk⟩|hk<;>simp[Builtin.append_,run_underlying ht,run_underlying hk,hsz,hs.len,hs.cells,storeCells]
theorem oQ(size:Nat)(base:Option Addr):(Builtin.firstCells size 0 (.slice base 0 0)).run P w=.ok #[] w:=by
 cases base with
 | none=>exact run_firstCells_none w size 0 0 0
 | some ad=>exact run_firstCells_some w size 0 ad 0 0 [] (by simp) (fun j v hj=>by cases hj)
theorem mR{t tx ty bN:TypeId}{size:Nat}{x:Value}{news:List Value}{n sLen sCap blk:Nat}{cur:Array Value}{tt:TypeId}{fr:Nat×Nat}(ht:P.underlying t=some (.slice bN))(hsz:(Go.sizeOf bN).run P w=.ok size w)
  (hs:Src P size tx x n news w) (hg:w.heap[blk]?=some (.cells cur tt fr)) (E0:gu cur fr) (hroom:sLen+n≤sCap) (hle:sLen*size+news.length≤cur.size) :
  (Builtin.append_ #[t,tx] ty #[.slice (some ⟨blk,0,none⟩) sLen sCap,x]).run P w=.ok (.slice (some ⟨blk,0,none⟩) (sLen+n) sCap) (w.setRow blk (splice cur.toList (sLen*size) news).toArray):=by
 have hst:=bV (P:=P) blk (sLen*size) tt fr news 0 cur w hg E0 (by omega) hs.one;simp only[pH] at hst;rcases hs.kind with ⟨e',hk⟩|hk<;>simp[Builtin.append_,run_underlying ht,run_underlying hk,hsz,hs.len,hroom,hs.cells,addr_add,hst]
theorem pS{cs es:List Value}{k o:Nat}(h:o<k)(hk:k≤cs.length):(splice cs k es)[o]?=cs[o]?:=by
 rw[splice,kK,HM (by rw[gb];omega),jw,gd h]
theorem rW(hc:dw P cx){nb:Nat}{t tx ty:TypeId}{s x:Operand}(h:bE B N γ σ a w)(hd:∀k,d=some k→k<N)(KH:(∃e',P.underlying tx=some (.slice e'))∨P.underlying tx=some .string)
  (hr:(dG cx nb d t (aZ σ s) (aZ σ x) σ).run=some σ'):gv P B N γ σ a w d (Builtin.append_ #[t,tx] ty #[a.eval s,a.eval x]) σ':=by
 have hvs:=h.aZ s;have LX:=h.aZ x;unfold dG at hr;split at hr
 case h_2=>exact absurd hr (by intro k;cases k)
 rename_i _ _ k e hT;obtain⟨bN,f1,f2,f3,f4⟩:=(hc.T _ _ hT).slice;have hsz:=f2.sizeOf w;split at hr
 case h_2=>exact absurd hr (by intro k;cases k)
 rename_i m hm;have hm:jY e σ (aZ σ x)=some m:=hm;obtain⟨news,n1,n2⟩:=F9 h.ok KH f1 LX hm;split at hr
 ·rename_i hs;rw[hs] at hvs;obtain HI:a.eval s=_:=by simpa [aV] using hvs
  obtain⟨hf,hr2⟩:=aX hr;have hf:m.length≤4294967296:=Ar hf;obtain⟨ag,aC,dV⟩:=bT hr2;obtain rfl:=au dV;rw[HI];rcases HQ m.length with h0|h0
  ·obtain rfl:m=[]:=List.length_eq_zero_iff.1 h0;obtain⟨m1,m2⟩:=h.ok.uU (b:=nb+k) (tid:=0) aC f4;refine⟨_,_,_,ic f1 hsz n1,h.step m2 m1 (hd k rfl) ?_,m2⟩;exact⟨⟨_,rfl,rfl⟩,cl (aH _ _) rfl ⟨e,0,rfl,rfl,.inl ⟨by simp[aK],rfl⟩⟩⟩
  ·obtain⟨cap,cells,g1,g2,g3,g4,g5⟩:=ve (I:=γ.I) (ty:=ty) (l:=([]:List e.den)) (base:=none) (sCap:=0) (olds:=[]) f1 f2 f3 (by simpa using run_firstCells_none w.drew e.size 0 0 0) (by simp) (fun i x hx=>by cases hx) n1 n2
    (by simpa using h0) (by simpa using hf)
   simp only[wJ,lu,zR] at g1 g2 g5;obtain⟨m1,m2⟩:=h.ok.yD (b:=nb+k) (e:=e) (l:=m) (tid:=0) (ag:=ag) (cap:=cap) aC f4 ((jR.refl B w).drew.alloc h.ok.base _) (bO w.drew _) (heap_alloc_new w.drew _) (nI _ _) (.inl rfl) g2 g3 g4 g5;refine⟨_,_,_,g1,h.step m2 m1 (hd k rfl) ?_,m2⟩;exact l9 (bx:={ val:=.data (.slice e) m,tid:=0,buf:=true,ro:=false,lk:=false,ag }) (e:=e) (n:=m.length) rfl rfl
 ·rename_i b ag hs;rw[hs] at hvs;split at hr
  case h_2=>exact absurd hr (by intro k;cases k)
  rename_i bx l hb hl;obtain⟨dQ,hb',aC,aJ,ga⟩:∃bx,σ.mem b=some bx∧bx.ag=ag∧bx.buf=true∧bx.val=.data (.slice e) l:=by
   rcases fP hl with q|⟨q,_⟩|⟨b',BT,dQ,q,h1,h2,h3,h4⟩|⟨_,_,_,_,_,q,_⟩
   ·cases q
   ·cases q
   ·cases q;exact⟨dQ,h1,h2,h3,h4⟩
   ·cases q
  obtain rfl:bx=dQ:=au (hb.symm.trans hb')
  ·obtain⟨hlk,eP⟩:=mQ hr;obtain⟨hf,hr2⟩:=aX eP;obtain rfl:=au hr2;have hf:l.length+m.length≤4294967296:=by
    have:fits (((l.length+m.length:Nat)):Int)=true:=by rw[←hf];simp[plus,len]
    exact Ar this
   have cQ:bx.tid=0∨bN=bx.tid:=by
    simp only[wF,Bool.not_eq_false'] at hlk;have h2:=hlk.2;unfold JZ at h2;simp only[uz] at h2;rcases h2 with h2|h2
    ·exact .inl (cB h2)
    ·split at h2
     ·rename_i e' he';have:=hc.els _ _ he';rw[f1] at this;have h4:bN=e':=by injection this with this;injection this
      exact .inr (h4.trans (cB h2))
     ·cases h2
   subst aC;obtain⟨e2,PC,g1,g2,g3⟩:=aD hb rfl hvs.2;rw[aI.bD aJ ga] at g2;obtain⟨rfl,rfl⟩:=bM (au g2);have ew:=h.ok.boxes b bx hb;rw[bn,aJ] at ew;obtain⟨e3,l3,q1,q2,q3⟩:=ew;rw[ga] at q1;cases q1;have B1:(app (α:=e.den) l m).length=l.length+m.length:=oL;rcases g3 with ⟨g3,g4⟩|⟨blk,cap,g3,g4⟩
   ·obtain HI:a.eval s=_:=by simpa using g4
    have E3:l=[]:=by
     rcases q3 with ⟨_,q3⟩|⟨blk,cap,cur,tid,fr,q3,_⟩
     ·exact q3
     ·rw[g3] at q3;cases q3
    subst E3;rw[HI];rcases HQ m.length with h0|h0
    ·obtain rfl:m=[]:=List.length_eq_zero_iff.1 h0;have gW:bn (aK γ b none) (bu σ.mem b { bx with val:=.data (.slice e) ([]:List e.den),ag:=bx.ag+1 }) w b { bx with val:=.data (.slice e) ([]:List e.den),ag:=bx.ag+1 }:=by
      unfold bn;simp only[aJ];exact⟨e,[],rfl,f4,.inl ⟨by simp[aK],rfl⟩⟩
     have E6:∀bF,σ.mem b=some bF→bF.ag<bx.ag+1:=fun bF h0=>by rw[hb] at h0;obtain rfl:=au h0;omega
     have m1:=h.ok.add (L:=none) E6 (jR.refl B w) (fun _ _=>rfl) (fun blk k e=>by cases e) gW;have m2:=jK (L:=none) h.ok (bx:={ bx with val:=.data (.slice e) ([]:List e.den),ag:=bx.ag+1 }) E6 (jR.refl B w) (fun _ _=>rfl);refine⟨_,_,_,ic f1 hsz n1,h.step m2 m1 (hd k rfl) ?_,m2⟩;exact⟨⟨_,rfl,rfl⟩,cl (aH _ _) rfl ⟨e,0,aJ,aI.bD (bx:={ bx with val:=.data (.slice e) ([]:List e.den),ag:=bx.ag+1 }) aJ rfl,.inl ⟨by simp[aK],rfl⟩⟩⟩
    ·obtain⟨cap,cells,j1,j2,j3,j4,j5⟩:=ve (I:=γ.I) (ty:=ty) (l:=([]:List e.den)) (base:=none) (sCap:=0) (olds:=[]) f1 f2 f3 (by simpa using oQ (w:=w.drew) e.size none) (by simp) (fun i x hx=>by cases hx) n1 n2
      (by simpa using h0) (by simpa using hf)
     have E6:∀bF,σ.mem b=some bF→bF.ag<bx.ag+1:=fun bF h0=>by rw[hb] at h0;obtain rfl:=au h0;omega
     have hw:jR B w (w.drew.alloc (.cells cells bN)):=(jR.refl B w).drew.alloc h.ok.base _;have m2:=jK (L:=some (w.heap.size,cap)) h.ok (bx:={ bx with val:=.data (.slice e) (app (α:=e.den) [] m),ag:=bx.ag+1 }) E6 hw (bO w.drew _);have gW:bn (aK γ b (some (w.heap.size,cap))) (bu σ.mem b { bx with val:=.data (.slice e) (app (α:=e.den) [] m),ag:=bx.ag+1 }) (w.drew.alloc (.cells cells bN)) b { bx with val:=.data (.slice e) (app (α:=e.den) [] m),ag:=bx.ag+1 }:=by
      unfold bn;simp only[aJ];exact⟨e,_,rfl,f4,.inr ⟨w.heap.size,cap,cells,bN,(0,0),by simp[aK],heap_alloc_new w.drew _,nI _ _,cQ,by rw[B1];exact j2,j3,j4,fun i x hi=>aM.mono m2.I m2.cells (j5 i x hi)⟩⟩
     have m1:=h.ok.add (L:=some (w.heap.size,cap)) E6 hw (bO w.drew _) (fun blk k e=>by obtain⟨rfl,rfl⟩:=bM (au e);exact⟨dB _,(Array.getElem?_eq_some_iff.1 (heap_alloc_new w.drew _)).1⟩) gW;refine⟨_,_,_,j1,h.step m2 m1 (hd k rfl) ?_,m2⟩;exact l9 (bx:={ bx with val:=.data (.slice e) (app (α:=e.den) [] m),ag:=bx.ag+1 }) (e:=e) (n:=List.length (α:=e.den) []+m.length) aJ (by rw[←B1];exact aI.bD (bx:={ bx with val:=.data (.slice e) (app (α:=e.den) [] m),ag:=bx.ag+1 }) aJ rfl)
   ·obtain HI:a.eval s=_:=by simpa using g4
    rw[HI];rcases q3 with ⟨q3,_⟩|⟨bQ,cap',cur,tid,fr,q3,q4,q5,K9,q6,q7,q8,q9⟩
    ·rw[g3] at q3;cases q3
    rw[g3] at q3;obtain⟨rfl,rfl⟩:=bM (au q3);have hcl:cur.toList.length=cap*e.size:=by simpa using q8
    have hlc:l.length*e.size≤cap*e.size:=jf _ q6;rcases rF cap (l.length+m.length) with hgt|hle
    ·have Of:=run_firstCells_some (P:=P) w.drew e.size l.length ⟨blk,0,none⟩ l.length cap (cur.toList.take (l.length*e.size)) (by rw[gb];omega) (fun j v hj=>by
      rw[addr_add];show w.cell? ⟨blk,0+j,none⟩=some v
      rw[cell_of_heap q4];rw[jw] at hj;split at hj
      ·simpa using hj
      ·cases hj)
     obtain⟨cap2,cells,j1,j2,j3,j4,j5⟩:=ve (I:=γ.I) (ty:=ty) (l:=l) (base:=some ⟨blk,0,none⟩) (sCap:=cap) f1 f2 f3 Of (by rw[gb];omega) (cG.front q9 (dB _) (by omega)) n1 n2 hgt hf;have E6:∀bF,σ.mem b=some bF→bF.ag<bx.ag+1:=fun bF h0=>by rw[hb] at h0;obtain rfl:=au h0;omega
     have hw:jR B w (w.drew.alloc (.cells cells bN)):=(jR.refl B w).drew.alloc h.ok.base _;have m2:=jK (L:=some (w.heap.size,cap2)) h.ok (bx:={ bx with val:=.data (.slice e) (app (α:=e.den) l m),ag:=bx.ag+1 }) E6 hw (bO w.drew _);have gW:bn (aK γ b (some (w.heap.size,cap2))) (bu σ.mem b { bx with val:=.data (.slice e) (app (α:=e.den) l m),ag:=bx.ag+1 }) (w.drew.alloc (.cells cells bN)) b { bx with val:=.data (.slice e) (app (α:=e.den) l m),ag:=bx.ag+1 }:=by
      unfold bn;simp only[aJ];exact⟨e,_,rfl,f4,.inr ⟨w.heap.size,cap2,cells,bN,(0,0),by simp[aK],heap_alloc_new w.drew _,nI _ _,cQ,by rw[B1];exact j2,j3,j4,fun i x hi=>aM.mono m2.I m2.cells (j5 i x hi)⟩⟩
     have m1:=h.ok.add (L:=some (w.heap.size,cap2)) E6 hw (bO w.drew _) (fun blk k e=>by obtain⟨rfl,rfl⟩:=bM (au e);exact⟨dB _,(Array.getElem?_eq_some_iff.1 (heap_alloc_new w.drew _)).1⟩) gW;refine⟨_,_,_,j1,h.step m2 m1 (hd k rfl) ?_,m2⟩;exact l9 (bx:={ bx with val:=.data (.slice e) (app (α:=e.den) l m),ag:=bx.ag+1 }) (e:=e) (n:=l.length+m.length) aJ (by rw[←B1];exact aI.bD (bx:={ bx with val:=.data (.slice e) (app (α:=e.den) l m),ag:=bx.ag+1 }) aJ rfl)
    ·have KI:=n1.newsLen;have hmul:(l.length+m.length)*e.size≤cap*e.size:=jf _ hle;rw[mE] at hmul;have hlen:l.length*e.size+news.length≤cur.toList.length:=by rw[KI,hcl];exact hmul
     have hrun:=mR (P:=P) (t:=t) (tx:=tx) (ty:=ty) (sCap:=cap) f1 hsz n1 q4 q5.th hle (by simpa using hlen);have F6:(splice cur.toList (l.length*e.size) news).toArray.size=cur.size:=by have:=bB hlen;simpa using this
     obtain⟨m1,m2⟩:=h.ok.grow hb aJ ga g3 q4 q5 K9 (cur':=(splice cur.toList (l.length*e.size) news).toArray) (l':=app (α:=e.den) l m) F6 (fun o ho=>by
      have:=pS (es:=news) ho (by omega:l.length*e.size≤cur.toList.length);simpa using this) f4 (by rw[B1];omega) (by rw[B1];exact hle) q7 q8 (by
      have:=(cG.front q9 (dB _) (by omega:l.length*e.size≤cur.toList.length)).append (rest:=cur.toList.drop (l.length*e.size+news.length)) n2 (by rw[gb];omega) KI;exact this)
     refine⟨_,_,γ,hrun,h.step m2 m1 (hd k rfl) ?_,m2⟩;exact⟨⟨_,rfl,rfl⟩,cl (aH _ _) rfl ⟨e,l.length+m.length,aJ,by rw[←B1];exact aI.bD (bx:={ bx with val:=.data (.slice e) (app (α:=e.den) l m),ag:=bx.ag+1 }) aJ rfl,.inr ⟨blk,cap,g3,rfl⟩⟩⟩
 ·exact absurd hr (by intro k;cases k)
end
end Go.Ge
