/- A ghost interpreter of the model's code, and that it tells the truth: part 9. It says of a function of plain data what a call of it comes to. -/
import Derived.Test.YtbaijbjhkmoidaaGreatDoorGeH
import Derived.Scope
import Derived.Laws.Sem
import Derived.ProofKit
set_option linter.unusedVariables false
set_option linter.unusedSimpArgs false
set_option linter.unusedSectionVars false
namespace Go.Ge
open RowKit
section
variable {P:Program} {B:ld} {N:Nat} {γ Km:Gh} {w w0:World} {gC jS:St} {a a0:Act} {M V:Nat→Bool}
theorem LO:∀{l:List (Nat×Sh)} {x:(Qb l).den},Nd V gC jS l=some x→∀t,(CP M V l x t=none∧∀s,(t,s)∉l)∨∃s y,(t,s)∈l∧Sh.out V gC jS s (jS.slots t)=some y∧CP M V l x t=some (s.lF M V y):=by
 intro l;induction l with
 | nil=>intro x _ t;exact .inl ⟨rfl,fun s h=>by cases h⟩
 | cons p r ih =>
   obtain⟨i,s⟩:=p;intro x h t;simp only[Nd] at h;split at h
   ·rename_i y z h1 h2;obtain rfl:=ax h;by_cases e:t=i
    ·subst e;refine .inr ⟨s,y,nG ..,h1,?_⟩;show(bif Nat.beq t t then some (s.lF M V y) else CP M V r z t)=_
     simp
    ·have hb:Nat.beq t i=false:=fJ e;have hq:CP M V ((i,s)::r) ((y,z):(Qb ((i,s)::r)).den) t=CP M V r z t:=by
      show(bif Nat.beq t i then some (s.lF M V y) else CP M V r z t)=_
      rw[hb];rfl
     rw[hq];rcases ih h2 t with ⟨k1,k2⟩|⟨s',y',k1,k2,k3⟩
     ·refine .inl ⟨k1,fun s' hm=>?_⟩;rcases List.mem_cons.1 hm with hm|hm
      ·exact e (cr hm).1
      ·exact k2 s' hm
     ·exact .inr ⟨s',y',nF _ k1,k2,k3⟩
   ·cases h
theorem uE{fz mv:Bool}{bx b:aY}(h:xB fz mv bx b=true):(bx.ro=true→(b.ro||fz)=true)∧bx.buf=b.buf∧((b.buf||mv)=false→bx.aj=b.aj):=by
 simp only[xB,cP,zd,beq_iff_eq] at h;obtain⟨⟨⟨h1,h2⟩,h3⟩,h4⟩:=h;refine⟨fun hr=>by rcases h1 with h1|h1<;>simp[h1,←hr],h3,fun hb=>?_⟩;obtain⟨hb,hm⟩:=Bool.or_eq_false_iff.1 hb;rcases h4 with (h4|h4)|h4
 ·rw[h3,hb] at h4;cases h4
 ·rw[hm] at h4;cases h4
 ·exact dz h4
theorem Jq{fz mv:Bool}{bx b:aY}(h:xB fz mv bx b=true):bx.tid=b.tid:=by
 simp only[xB,cP] at h;exact dz h.1.1.2
theorem Fe{fz:Bool}:∀{l:List (Nat×Sh×aY)} {x:(Pb l).den},Nf V fz gC jS l=some x→∀t,(zp fz M V l x t=none∧nO l t=false) ∨
  ∃s b y bx,nO l t=true∧(t,s,b)∈l∧jS.mem t=some bx∧xB fz (V t) bx b=true∧Sh.out V gC jS s bx.val=some y∧zp fz M V l x t=some { b with val:=s.lF M V y,ro:=b.ro||fz,aj:=bif b.buf||V t then b.aj+1 else b.aj }:=by
 intro l;induction l with
 | nil=>intro x _ t;exact .inl ⟨rfl,rfl⟩
 | cons p r ih =>
   obtain⟨i,s,b⟩:=p;intro x h t;simp only[Nf] at h;split at h
   ·rename_i bx jW;cases hok:xB fz (V i) bx b with
    | false=>rw[hok] at h;cases h
    | true =>
      rw[hok] at h;simp only[jk] at h;split at h
      ·rename_i y z h1 h2;obtain rfl:=ax h;by_cases e:t=i
       ·subst e;refine .inr ⟨s,b,y,bx,by simp[nO],nG ..,jW,hok,h1,?_⟩;show(bif Nat.beq t t then some { b with val:=s.lF M V y,ro:=b.ro||fz,aj:=bif b.buf||V t then b.aj+1 else b.aj } else zp fz M V r z t)=_
        simp
       ·have hb:Nat.beq t i=false:=fJ e;have hq:zp fz M V ((i,s,b)::r) ((y,z):(Pb ((i,s,b)::r)).den) t=zp fz M V r z t:=by
         show(bif Nat.beq t i then some { b with val:=s.lF M V y,ro:=b.ro||fz,aj:=bif b.buf||V t then b.aj+1 else b.aj } else zp fz M V r z t)=_
         rw[hb];rfl
        have Pn:nO ((i,s,b)::r) t=nO r t:=by simp only[nO,hb,IP]
        rw[hq,Pn];rcases ih h2 t with k|⟨s',b',y',fM,k0,k1,k2⟩
        ·exact .inl k
        ·exact .inr ⟨s',b',y',fM,k0,nF _ k1,k2⟩
      ·cases h
   ·cases h
structure sX (k:Carry) (gC:St):Prop where
 S:∀t s,(t,s)∈k.S→Aq s (gC.slots t)
 M:∀b s bx,(b,s,bx)∈k.M→gC.mem b=some bx∧Aq s bx.val∧bx.lk=false
 V:∀b x,k.V b=true→gC.mem b=some x→x.buf=false
theorem PA{cx:Ctx}{σ:St}:∀{p:List (Nat×Nat)} {l:List (Nat×Sh)},Ru cx σ p=some l→∀t s,(t,s)∈l→Aq s (σ.slots t):=by
 intro p;induction p with
 | nil=>intro l h t s hm;obtain rfl:=ax h;cases hm
 | cons q r ih =>
   obtain⟨i,ty⟩:=q;intro l h t s hm;simp only[Ru] at h;split at h
   ·cases h
   ·rename_i l' hl';have fin:∀s0,Aq s0 (σ.slots i)→some ((i,s0)::l')=some l→Aq s (σ.slots t):=by
     intro s0 h0 e;obtain rfl:=ax e;rcases List.mem_cons.1 hm with hm|hm
     ·obtain⟨rfl,rfl⟩:=cr hm;exact h0
     ·exact ih hl' t s hm
    cases hty:Nat.beq ty 999999 with
    | true =>
      rw[hty] at h;simp only[jk] at h;split at h
      ·rename_i b v hv;exact fin (.k _) hv.symm h
      ·obtain rfl:=ax h;exact ih hl' t s hm
    | false =>
    rw[hty] at h;simp only[gj] at h;split at h
    ·exact fin (.d _) trivial h
    ·split at h
     ·exact fin (.d _) trivial h
     ·cases h
    ·split at h
     ·exact fin (.d _) trivial h
     ·cases h
    ·exact fin (.k _) rfl h
theorem LP{σ:St}:∀{p:List Nat} {l:List (Nat×Sh×aY)},Qv σ p=some l→∀b s bx,(b,s,bx)∈l→σ.mem b=some bx∧Aq s bx.val∧bx.lk=false:=by
 intro p;induction p with
 | nil=>intro l h b s bx hm;obtain rfl:=ax h;cases hm
 | cons i r ih =>
   intro l h b s bx hm;simp only[Qv] at h;split at h
   ·rename_i cc l' hb hl';cases hlk:cc.lk with
    | true=>rw[hlk] at h;cases h
    | false =>
      rw[hlk] at h;obtain rfl:=ax h;rcases List.mem_cons.1 hm with hm|hm
      ·injection hm with e1 hm
       injection hm with e2 e3
       subst e1;subst e2;subst e3;exact⟨hb,NO _,hlk⟩
      ·exact ih hl' b s bx hm
   ·cases h
theorem qF{cx:Ctx}{nb:Nat}{bf:List Nat}{σ:St}{p:Em}{k:Carry}(h:yS cx nb bf σ p=some k):sX k σ:=by
 unfold yS at h;split at h
 ·rename_i s m hs hm;obtain rfl:=ax h;refine⟨PA hs,LP hm,fun b x hb hx=>?_⟩;simp only[Qw,hx,cP,iE] at hb;exact hb.2.1
 ·cases h
theorem NP{l:List (Nat×Sh×aY)}{b:Nat}(h:nO l b=true):∃s bx,(b,s,bx)∈l:=by
 induction l with
 | nil=>cases h
 | cons p r ih =>
   obtain⟨i,s,bx⟩:=p;simp only[nO,zd] at h;rcases h with h|h
   ·obtain rfl:=dz h;exact⟨s,bx,nG ..⟩
   ·obtain⟨s',fM,hm⟩:=ih h;exact⟨s',fM,nF _ hm⟩
theorem l9{k:Carry}{fz lock:Bool}{wr:List Nat}{x:k.ty.den}(hk:sX k gC)(h0:bZ B N Km gC a0 w0)(he:bZ B N γ jS a w)(hx:Ext B Km gC.mem w0 γ jS.mem w)
  (hf:∀t,b6 wr t=false→a.tmps[t]?=a0.tmps[t]?) (hkeep:∀b bx,gC.mem b=some bx→nO k.M b=false→∃bl,jS.mem b=some { bx with lk:=bl }) (ho:k.out fz gC jS=some x) :
  bZ B N γ (k.lF fz lock wr gC x) a w∧Ext B Km gC.mem w0 γ (k.lF fz lock wr gC x).mem w:=by
 unfold Carry.out at ho;split at ho
 case h_2=>cases ho
 rename_i xs xm hxs TK;obtain rfl:=ax ho;generalize Q4:k.lF fz lock wr gC (xs,xm)=σ1;have vE:∀t,σ1.slots t=match CP (nO k.M) k.V k.S xs t with|some v=>v|none=>bif b6 wr t then .undef else gC.slots t:=fun t=>by rw[←Q4];rfl
 have hmem:∀b,σ1.mem b=match zp fz (nO k.M) k.V k.M xm b with|some bx=>some bx|none=>match gC.mem b with|some bx=>some { bx with lk:=bx.lk||lock }|none=>none:=fun b=>by rw[←Q4];rfl
 have NQ:∀b,nO k.M b=false→σ1.mem b=match gC.mem b with|some bx=>some { bx with lk:=bx.lk||lock }|none=>none:=by
  intro b hb;rw[hmem b];rcases Fe (M:=nO k.M) TK b with ⟨q,_⟩|⟨s,b',y,bx,q,_⟩
  ·rw[q]
  ·rw[hb] at q;cases q
 have here:∀b,nO k.M b=true→∃s b0 y bx,gC.mem b=some b0∧Aq s b0.val∧jS.mem b=some bx∧xB fz (k.V b) bx b0=true∧Sh.out k.V gC jS s bx.val=some y ∧
   σ1.mem b=some { b0 with val:=s.lF (nO k.M) k.V y,ro:=b0.ro||fz,aj:=bif b0.buf||k.V b then b0.aj+1 else b0.aj }:=by
  intro b hb;rcases Fe (M:=nO k.M) TK b with ⟨_,q⟩|⟨s,b0,y,bx,q,q1,q2,q3,q4,q5⟩
  ·rw[hb] at q;cases q
  ·obtain⟨k1,k2,_⟩:=hk.M b s b0 q1;exact⟨s,b0,y,bx,k1,k2,q2,q3,q4,by rw[hmem b,q5]⟩
 have LQ:∀b bx,jS.mem b=some bx→bx.buf=true→∃e l,bx.val=.data (.slice e) l:=by
  intro b bx hb aW;have:=he.ok.boxes b bx hb;rw[bQ,aW] at this;obtain⟨e,l,q,_⟩:=this;exact⟨e,l,q⟩
 have hC:LL (nO k.M) k.V gC.mem jS.mem σ1.mem:=by
  intro b cc hb;cases hin:nO k.M b with
  | false =>
    obtain⟨bl,Nz⟩:=hkeep b cc hb hin;have h1:=NQ b hin;rw[hb] at h1;exact⟨_,_,Nz,h1,rfl,rfl,rfl,by simp,fun _=>rfl⟩
  | true =>
    obtain⟨s,b0,y,bx,g1,g2,g3,g4,g5,g6⟩:=here b hin;rw[hb] at g1;obtain rfl:=ax g1;obtain⟨o1,o2,o3⟩:=uE g4;obtain⟨r1,r2⟩:=Ic (M:=nO k.M) (V:=k.V) (oH:={ cc with val:=s.lF (nO k.M) k.V y,ro:=cc.ro||fz,aj:=bif cc.buf||k.V b then cc.aj+1 else cc.aj }) g5 rfl o2.symm (LQ b bx g3);refine⟨bx,_,g3,g6,o2,rfl,r1,by simp,fun hq=>o3 ?_⟩;simpa using hq
 have hE:Ext B Km gC.mem w0 γ σ1.mem w :=
  { below:=hx.below
    I:=hx.I
    mX:=hx.mX
    cells:=hx.cells
    boxes:=fun b cc hb=>by
     obtain⟨rA,oH,c1,c2,c3,c4,c5,c6,c7⟩:=hC b cc hb;obtain⟨Sv,e1,e2,e3⟩:=hx.boxes b cc hb;rw[c1] at e1;obtain rfl:=ax e1;cases hq:(nO k.M b&&(cc.buf||k.V b)) with
     | true =>
       rw[hq] at c6;simp only[jk] at c6;exact⟨oH,c2,by omega,fun e=>absurd e (by omega)⟩
     | false =>
       rw[hq] at c6;simp only[gj] at c6;obtain⟨r1,r2,r3⟩:=e3 (c7 hq);exact⟨oH,c2,by omega,fun _=>⟨r1,c4,c5.trans r3⟩⟩ }
 refine⟨⟨fun t=>?_,he.size,he.defers,?_⟩,hE⟩
 ·rw[vE t];rcases LO (M:=nO k.M) hxs t with ⟨q,_⟩|⟨s,y,q1,q2,q3⟩
  ·rw[q];simp only;cases hw:b6 wr t with
   | true=>exact⟨_,rfl⟩
   | false =>
     have:a.tmps.getD t undef=a0.tmps.getD t undef:=by simp only[FT,hf t hw]
     rw[this];exact(h0.slots t).ext hE
  ·rw[q3];exact Ib hC hk.V (hk.S t s q1) q2 (h0.slots t) (he.slots t)
 ·have hne:∀b,σ1.mem b≠none→∃cc,gC.mem b=some cc:=by
   intro b hb;cases hin:nO k.M b with
   | true=>obtain⟨s,b0,y,bx,g1,_⟩:=here b hin;exact⟨b0,g1⟩
   | false =>
     rw[NQ b hin] at hb;cases hq:gC.mem b with
     | none=>rw[hq] at hb;exact absurd rfl hb
     | some cc=>exact⟨cc,rfl⟩
  have PB:∀b,σ1.mem b≠none→jS.mem b≠none:=by
   intro b hb;obtain⟨cc,h1⟩:=hne b hb;obtain⟨rA,oH,c1,_⟩:=hC b cc h1;rw[c1];simp
  exact
   { bG:=he.ok.bG
     base:=he.ok.base
     boxes:=fun b oH hb=>by
      cases hin:nO k.M b with
      | true =>
        obtain⟨s,b0,y,bx,g1,g2,g3,g4,g5,g6⟩:=here b hin;rw[hb] at g6;obtain rfl:=ax g6;obtain⟨o1,o2,o3⟩:=uE g4;have o4:=Jq g4;obtain⟨r1,r2⟩:=Ic (M:=nO k.M) (V:=k.V) (oH:={ b0 with val:=s.lF (nO k.M) k.V y,ro:=b0.ro||fz,aj:=bif b0.buf||k.V b then b0.aj+1 else b0.aj }) g5 rfl o2.symm (LQ b bx g3);have gi:=he.ok.boxes b bx g3;have GW:=h0.ok.boxes b b0 g1;unfold bQ at gi GW⊢;dsimp only at r2⊢;rcases Oz bx.buf with hb1|hb1
        ·rw[hb1] at gi;rw[←o2,hb1,r2 hb1,←o4];exact gi
        ·rw[hb1] at gi;rw[←o2,hb1];rw[←o2,hb1] at GW;obtain⟨_,_,_,_,_,_,_,_,_,z⟩:=GW;obtain⟨blk,cap,cur,tid,fr,z1,z2,z3,ez,z4⟩:=gi;exact⟨blk,cap,cur,tid,fr,z1,z2,z3,o4▸ez,Ib hC hk.V g2 g5 z z4⟩
      | false =>
        have h1:=NQ b hin;rw[hb] at h1;cases hq:gC.mem b with
        | none=>rw[hq] at h1;cases h1
        | some cc =>
          rw[hq] at h1;obtain rfl:=ax h1;obtain⟨bl,Nz⟩:=hkeep b cc hq hin;have gi:=he.ok.boxes b _ Nz;have GW:=h0.ok.boxes b cc hq;unfold bQ at gi GW⊢;dsimp only at gi⊢;rcases Oz cc.buf with hb1|hb1
          ·rw[hb1] at gi⊢;exact gi
          ·rw[hb1] at gi GW⊢;obtain⟨_,_,_,_,_,_,_,_,_,z⟩:=GW;obtain⟨blk,cap,cur,tid,fr,z1,z2,z3,ez,z4⟩:=gi;exact⟨blk,cap,cur,tid,fr,z1,z2,z3,ez,bH.down hC.mid z z4⟩
     inj:=fun b c blk k1 k2 hb hc h1 h2=>he.ok.inj b c blk k1 k2 (PB b hb) (PB c hc) h1 h2
     fresh:=fun b blk k1 hb h1=>he.ok.fresh b blk k1 (PB b hb) h1
     mW:=he.ok.mW
     sep:=fun b oH blk k1 off hb h1 hi=>by
      obtain⟨cc,q0⟩:=hne b (by rw[hb];simp);obtain⟨rA,UO,c1,c2,c3,c4,c5,c6,c7⟩:=hC b cc q0;rw[hb] at c2;obtain rfl:=ax c2;obtain⟨s1,s2⟩:=he.ok.sep b rA blk k1 off c1 h1 hi;have hro:rA.ro=true→oH.ro=true:=by
       cases hin:nO k.M b with
       | true =>
         obtain⟨s,b0,y,bx,g1,g2,g3,g4,g5,g6⟩:=here b hin;rw[c1] at g3;obtain rfl:=ax g3;rw[hb] at g6;obtain rfl:=ax g6;exact(uE g4).1
       | false =>
         have h1:=NQ b hin;rw[hb,q0] at h1;obtain rfl:=ax h1;obtain⟨bl,Nz⟩:=hkeep b cc q0 hin;rw[c1] at Nz;obtain rfl:=ax Nz;exact fun h=>h
      exact⟨hro s1,fun aW e n hr=>s2 (by rw[c3,←c4];exact aW) e n (by rw[←c5];exact hr)⟩ }
end
end Go.Ge
namespace Go.Ge
variable [Lp]
open RowKit
theorem vI{p:Nat→Prop}(h:∃n,p n):∃n,p n∧∀m,p m→n≤m:=by
 obtain⟨n,hn⟩:=h;induction n using Nat.strongRecOn with
 | _ n ih =>
   by_cases h:∃m,m<n∧p m
   ·obtain⟨m,h1,h2⟩:=h;exact ih m h1 h2
   ·exact⟨n,hn,fun m hm=>Nat.le_of_not_lt fun hlt=>h ⟨m,hlt,hm⟩⟩
open Classical in
noncomputable def least(p:Nat→Prop):Nat:=if h:∃n,p n then Classical.choose (vI h) else 0
theorem Ar{p:Nat→Prop}(h:∃n,p n):p (least p)∧∀m,p m→least p≤m:=by
 unfold least;rw[dif_pos h];exact FV (vI h)
theorem w9{P:Program}{c:Code}{Q:Exit→Act→World→Prop}{a:Act}{w:World}(I:Nat→Act→World→Prop){n:Nat}(h0:I n a w)
  (round:∀n a w,I n a w→c.wp P (Exit.then (fun a' w'=>∃m,m<n∧I m a' w') Q) a w):(Code.loop c).wp P Q a w:=by
 refine wp_loop (fun a w=>∃n,I n a w) (fun a w=>least fun n=>I n a w) ⟨n,h0⟩ fun a w h=>?_;obtain⟨h1,h2⟩:=Ar h;refine wp_mono (round _ a w h1) fun e a' w' hq=>?_;cases e with
 | normal =>
   obtain⟨m,m1,m2⟩:=hq;exact⟨⟨m,m2⟩,Nat.lt_of_le_of_lt ((Ar ⟨m,m2⟩).2 m m2) m1⟩
 | _=>exact hq
def As:Nat→Exit
 | 0=>.normal
 | 1=>.ret
 | i+2=>.exit i
theorem xT{l m:List Nat}{t:Nat}:b6 (l++m) t=(b6 l t||b6 m t):=by
 induction l with
 | nil=>rfl
 | cons i r ih=>simp only[D8,b6,ih,KO]
def vJ(ws:List Nat)(a a':Act):Prop:=∀t,b6 ws t=false→a'.tmps[t]?=a.tmps[t]?
theorem vJ.refl(ws:List Nat)(a:Act):vJ ws a a:=fun _ _=>rfl
theorem vJ.trans{ws:List Nat}{a b c:Act}(h:vJ ws a b)(k:vJ ws b c):vJ ws a c:=fun t ht=>(k t ht).trans (h t ht)
theorem vJ.left{ws vs:List Nat}{a b:Act}(h:vJ ws a b):vJ (ws++vs) a b:=fun t ht=>h t (by rw[xT,A7] at ht;exact ht.1)
theorem vJ.right{ws vs:List Nat}{a b:Act}(h:vJ vs a b):vJ (ws++vs) a b:=fun t ht=>h t (by rw[xT,A7] at ht;exact ht.2)
theorem Ff{t:Nat}:∀{l:List Oper} {k:Nat},b6 (j9 l) t=false→jc t (number k l)=false:=by
 intro l;induction l with
 | nil=>intro k _;rfl
 | cons o l ih =>
   intro k h;simp only[number,jc];cases hd:o.dst with
   | none=>simp only[j9,hd] at h;rw[ih h];rfl
   | some d =>
     simp only[j9,hd,b6,A7] at h;rw[ih h.2];simp only[KM];exact fJ fun e=>by subst e;simp at h
theorem DB{l:List Oper}{o:Oper}(h:o∈l){k:Nat}(hk:o.dst=some k):k∈j9 l:=by
 induction l with
 | nil=>cases h
 | cons p l ih =>
   rcases List.mem_cons.1 h with h|h
   ·subst h;simp only[j9,hk];exact nG ..
   ·simp only[j9];split
    ·exact nF _ (ih h)
    ·exact ih h
theorem Co{α:Type}{f:Nat→Tree α}:∀{es:List Nat} {e i:Nat},yd es e=some i→(uV es i f).run=(f e).run:=by
 intro es;induction es with
 | nil=>intro e i h;cases h
 | cons k r ih =>
   intro e i h;simp only[yd] at h;have one:∀{b:Bool},(bif b then some 0 else(yd r e).map (·+1))=some i→(b=true∧i=0)∨(b=false∧∃j,yd r e=some j∧i=j+1):=by
    intro b hb;cases b with
    | true=>exact .inl ⟨rfl,(ax hb).symm⟩
    | false =>
      obtain⟨j,h1,h2⟩:=Option.map_eq_some_iff.1 hb;exact .inr ⟨rfl,j,h1,h2.symm⟩
   rcases one h with ⟨h1,rfl⟩|⟨h1,j,h2,rfl⟩
   ·obtain rfl:=dz h1;cases r with
    | nil=>rfl
    | cons m s=>rfl
   ·cases r with
    | nil=>cases h2
    | cons m s=>exact ih h2
section
variable {P:Program} {B:ld} {N:Nat} {cx:Ctx} {nb:Nat} {bf:List Nat} {inl:Nat→List ay→St→Tree (ay×St)}
theorem GX(hkeep:∀f vals σ v σ',(inl f vals σ).run=some (v,σ')→aN σ σ'):∀(l:List Oper) (k:Nat) (done:List rM) (σ σ':St),(zo cx nb bf inl (number k l) done σ).run=some σ'→aN σ σ':=by
 intro l;induction l with
 | nil=>intro k done σ σ' h;obtain rfl:=ax h;exact aN.refl _
 | cons o l ih =>
   intro k done σ σ' h;simp only[number,zo] at h;split at h
   ·cases h
   ·obtain⟨hc,h1⟩:=aq h;obtain⟨σ1,h2,h3⟩:=bind_some h1;exact(rZ hkeep σ1 (sV (fun hb=>yW o σ hb) h2)).trans (ih _ _ _ _ h3)
theorem Jr{fz:Bool}{M V:Nat→Bool}:∀{l:List (Nat×Sh×aY)} {x:(Pb l).den} {t:Nat},nO l t=false→zp fz M V l x t=none:=by
 intro l;induction l with
 | nil=>intro x t _;rfl
 | cons p r ih =>
   obtain⟨i,s,b⟩:=p;intro x t h;simp only[nO,A7] at h;simp only[zp,h.1,gj];exact ih h.2
theorem Fg{k:Carry}{fz lock:Bool}{wr:List Nat}{σ:St}{x:k.ty.den}{b:Nat}{bx:aY}(hb:σ.mem b=some bx)(h:nO k.M b=false):(k.lF fz lock wr σ x).mem b=some { bx with lk:=bx.lk||lock }:=by
 simp only[Carry.lF];rw[Jr h,hb]
theorem sg{k:Carry}{fz lock:Bool}{wr:List Nat}{σ:St}{x:k.ty.den}(hk:sX k σ):aN σ (k.lF fz lock wr σ x):=by
 intro b bx hb hl;have:nO k.M b=false:=by
  cases hq:nO k.M b with
  | false=>rfl
  | true =>
    obtain⟨s,b0,hm⟩:=NP hq;obtain⟨h1,_,h3⟩:=hk.M b s b0 hm;rw[hb] at h1;obtain rfl:=ax h1;rw[hl] at h3;cases h3
 rw[Fg hb this];cases bx;simp only at hl;subst hl;rfl
theorem xU{α:Type}{Q:α→Prop}{f:Nat→Tree α}(hf:∀e y,(f e).run=some y→Q y):∀{es:List Nat} {i:Nat} {y:α},(uV es i f).run=some y→Q y:=by
 intro es;induction es with
 | nil=>intro i y h;cases h
 | cons k r ih =>
   intro i y h;cases r with
   | nil=>exact hf k y h
   | cons m s =>
     have:=eI h;cases hq:uQ i 0 with
     | true=>rw[hq] at this;exact hf k y this
     | false=>rw[hq] at this;exact ih this
theorem At:∀{l:List Nat} {σ σ':St},uU l σ=some σ'→aN σ σ':=by
 intro l;induction l with
 | nil=>intro σ σ' h;obtain rfl:=ax h;exact aN.refl _
 | cons m r ih =>
   intro σ σ' h;unfold uU at h;cases hm:Nat.ble 2000000 m with
   | false=>rw[hm] at h;exact ih h
   | true =>
     rw[hm] at h;simp only[jk] at h;split at h
     ·split at h
      ·split at h
       ·split at h
        ·rename_i hg;exact(jR hg).trans ((aN.put _ _ _).trans (ih h))
        ·cases h
       ·cases h
      ·cases h
     ·exact ih h
theorem xV{B:ld}{N:Nat}{a:Act}{w:World}:∀{l:List Nat} {σ σ':St} {γ:Gh},uU l σ=some σ'→bZ B N γ σ a w→∃γ',bZ B N γ' σ' a w∧Ext B γ σ.mem w γ' σ'.mem w:=by
 intro l;induction l with
 | nil=>intro σ σ' γ h hs;obtain rfl:=ax h;exact⟨γ,hs,Ext.refl _ _ _ _⟩
 | cons m r ih =>
   intro σ σ' γ h hs;unfold uU at h;cases hm:Nat.ble 2000000 m with
   | false=>rw[hm] at h;exact ih h hs
   | true =>
     rw[hm] at h;simp only[jk] at h;generalize m-2000000=k at h;split at h
     ·split at h
      ·split at h
       ·split at h
        ·rename_i x σ1 hg;have hv:=hs.slots k;obtain⟨ff,s1,s2,s3⟩:=iL hs hv hg;have s4:bZ B N ff (σ1.put k (.data (.slice _) x)) a w:=⟨fun t=>by
          unfold St.put;dsimp only;cases ht:Nat.beq t k with
          | false=>exact s1.slots t
          | true =>
            obtain rfl:=dz ht;exact s3,s1.size,s1.defers,s1.ok⟩
         obtain⟨tG,t1,t2⟩:=ih h s4;exact⟨tG,t1,s2.trans t2⟩
        ·cases h
       ·cases h
      ·cases h
     ·exact ih h hs
theorem GY{f:St→Tree (Nat×St)}(hf:∀σ r,(f σ).run=some r→aN σ r.2):∀(n:Nat) (σ:St) (r:Nat×St),(again f n σ).run=some r→aN σ r.2:=by
 intro n;induction n with
 | zero=>intro σ r h;cases h
 | succ n ih =>
   intro σ r h;obtain⟨r1,h1,h2⟩:=bind_some h;have k1:=hf _ _ h1;cases hq:Nat.beq r1.1 0 with
   | true=>rw[hq] at h2;exact k1.trans (ih _ _ h2)
   | false=>rw[hq] at h2;obtain rfl:=ax h2;exact k1
theorem Fh{f:St→Tree (Nat×St)}(hf:∀σ r,(f σ).run=some r→aN σ r.2){c:Nat}:∀(n j:Nat) (σ:St) (r:Nat×St),(wJ f c n j σ).run=some r→aN σ r.2:=by
 intro n;induction n with
 | zero=>intro j σ r h;cases h
 | succ n ih =>
   intro j σ r h;unfold wJ at h;split at h
   ·have h:=bK h;obtain⟨r1,h1,h2⟩:=bind_some h.2;have k1:=(aN.put σ c _).trans (hf _ _ h1);cases hq:Nat.beq r1.1 0 with
    | true=>rw[hq] at h2;exact k1.trans (ih _ _ _ h2)
    | false=>rw[hq] at h2;obtain rfl:=ax h2;exact k1
   ·cases h
theorem nZ(hkeep:∀f vals σ v σ',(inl f vals σ).run=some (v,σ')→aN σ σ'):∀(c:Code) (pl:List (Option Em)) (σ:St) (r:Nat×St),(fF cx nb bf inl c pl σ).run=some r→aN σ r.2:=by
 intro c;induction c with
 | skip=>intro pl σ r h;obtain rfl:=ax h;exact aN.refl _
 | label l=>intro pl σ r h;obtain rfl:=ax h;exact aN.refl _
 | ret=>intro pl σ r h;obtain rfl:=ax h;exact aN.refl _
 | exit i=>intro pl σ r h;obtain rfl:=ax h;exact aN.refl _
 | region id ops dr =>
   intro pl σ r h;obtain⟨σ1,h1,h2⟩:=bind_some h;obtain rfl:=ax h2;cases dr with
   | true =>
     have h1':(pU cx nb bf inl ops σ).run=some σ1:=h1;unfold pU at h1';cases hg:ops.any fun o=>o.guard.isSome with
     | true =>
       rw[hg] at h1';obtain⟨hnt,h3⟩:=aq (show(bif gO ops.toList then mM cx nb bf inl ops (number 0 ops.toList) [] σ (fun _=>false) else .fail).run=some σ1 from h1');exact GR hkeep _ _ _ _ _ _ h3
     | false =>
       rw[hg] at h1';exact GX hkeep _ _ _ _ _ h1'
   | false=>exact vD hkeep _ _ _ _ h1
 | seq a b gy iu =>
   intro pl σ r h;obtain⟨r1,h1,h2⟩:=bind_some h;have k1:=gy _ _ _ h1;cases hq:Nat.beq r1.1 0 with
   | true=>rw[hq] at h2;exact k1.trans (iu _ _ _ h2)
   | false=>rw[hq] at h2;obtain rfl:=ax h2;exact k1
 | block i a ih =>
   intro pl σ r h;obtain⟨r1,h1,h2⟩:=bind_some h;obtain rfl:=ax h2;exact ih _ _ r1 h1
 | scope a ih=>intro pl σ r h;exact ih _ _ _ h
 | cond c a b gy iu =>
   intro pl σ r h;unfold fF at h;split at h
   ·rename_i c0 LR hn;change Bool at c0;have:=eI h;cases c0 with
    | false=>exact iu _ _ _ this
    | true=>exact gy _ _ _ this
   ·split at h
    ·cases h
    rename_i σ GZ;refine(At GZ).trans ?_;split at h
    ·cases h
    ·rename_i k hk;have hok:=qF hk;dsimp only at h;split at h
     ·rw[Tree.rH] at h;obtain⟨x,h1,h2⟩:=Option.bind_eq_some_iff.1 h;obtain rfl:=ax h2;exact sg hok
     ·rw[Tree.rH] at h;obtain⟨x,h1,h2⟩:=Option.bind_eq_some_iff.1 h;exact xU (Q:=fun r:Nat×St=>aN σ r.2) (fun e y hy=>by obtain rfl:=ax hy;exact sg hok) h2
   ·cases h
 | loop a ih =>
   intro pl σ r h;unfold fF at h;split at h
   ·split at h
    ·exact Fh (fun σ r hr=>ih _ _ _ hr) _ _ _ _ h
    split at h
    ·cases h
    rename_i σ GZ;refine(At GZ).trans ?_;split at h
    ·cases h
    ·rename_i k hk;have hok:=qF hk;dsimp only at h;split at h
     ·cases h
     ·split at h
      ·obtain⟨x,h1,h2⟩:=bE h;obtain rfl:=ax h2;exact sg hok
      ·obtain⟨x,h1,h2⟩:=bE h;exact xU (Q:=fun r:Nat×St=>aN σ r.2) (fun e y hy=>by obtain rfl:=ax hy;exact sg hok) h2
   ·exact GY (fun σ r hr=>ih _ _ _ hr) _ _ _ h
   ·cases h
 | _=>intro pl σ r h;cases h
end
end Go.Ge
namespace Go.Ge
variable [Lp]
open RowKit
section
variable {P:Program} {B:ld} {N:Nat} {cx:Ctx} {nb:Nat} {bf:List Nat} {inl:Nat→List ay→St→Tree (ay×St)}
theorem vK(k:Carry)(σ:St):(k.lock σ).mem=mZ (fun b bx=>bif nO k.M b then bx.lk else true) σ.mem:=by
 funext b;simp only[Carry.lock,mZ];cases σ.mem b with
 | none=>rfl
 | some bx=>simp only;cases nO k.M b<;>rfl
theorem NR(k:Carry)(σ:St):k.lock σ={ σ with mem:=mZ (fun b bx=>bif nO k.M b then bx.lk else true) σ.mem }:=by
 have:=vK k σ;unfold Carry.lock at this⊢;dsimp only at this⊢;rw[this]
theorem xb{T β:Type}{t:Tree T}{k:T→Tree β}{y:β}(h:(t.join k).run=some y):∃x,t.run=some x∧(k x).run=some y:=by
 rw[Tree.rH] at h;exact Option.bind_eq_some_iff.1 h
theorem Au{α:Type}{o:Option α}{y:α}(h:(Tree.KS o).run=some y):o=some y:=by
 cases o with
 | none=>cases h
 | some x=>exact h
theorem LS{e0 e i:Nat}(h:yd [e0] e=some i):e=e0:=by
 simp only[yd] at h;cases hb:Nat.beq e0 e with
 | true=>exact(dz hb).symm
 | false=>rw[hb] at h;cases h
theorem bZ.Ie{γ:Gh}{σ:St}{a:Act}{w:World}(h:bZ B N γ σ a w){i:Nat}{v:ay}(hv:bH γ σ.mem w v .val [a.tmps.getD i Go.undef]):bZ B N γ (σ.put i v) a w where
 slots:=fun t=>by
  show bH γ σ.mem w (bif Nat.beq t i then v else σ.slots t) .val _
  cases hb:Nat.beq t i with
  | true=>obtain rfl:=dz hb;exact hv
  | false=>exact h.slots t
 size:=h.size
 defers:=h.defers
 ok:=h.ok
theorem DC{a:Act}{w:World}:∀{l:List (Nat×Sh)} {σ σ':St} {γ:Gh},settle l σ=some σ'→bZ B N γ σ a w→∃γ',bZ B N γ' σ' a w∧Ext B γ σ.mem w γ' σ'.mem w∧aN σ σ':=by
 intro l;induction l with
 | nil=>intro σ σ' γ h hs;obtain rfl:=ax h;exact⟨γ,hs,Ext.refl _ _ _ _,aN.refl _⟩
 | cons p r ih =>
   obtain⟨i,s⟩:=p;intro σ σ' γ h hs;cases s with
   | d t =>
     simp only[settle] at h;split at h
     ·rename_i x σ1 hg;obtain⟨ff,s1,s2,s4⟩:=iL hs (hs.slots i) hg;have s3:bZ B N ff (σ1.put i (.data t x)) a w:=s1.Ie s4;obtain⟨tG,t1,t2,t3⟩:=ih h s3;exact⟨tG,t1,s2.trans t2,(jR hg).trans t3⟩
     ·cases h
   | k v=>exact ih h hs
   | m a b=>exact ih h hs
theorem vL{k:Carry}{fz:Bool}{wr:List Nat}{x:k.ty.den}{gC jS:St}{Km γ:Gh}{a a0:Act}{w w0:World}(hk:sX k gC)(h0:bZ B N Km gC a0 w0)(he:bZ B N γ jS a w)(hx:Ext B Km gC.mem w0 γ jS.mem w)
  (hf:∀t,b6 wr t=false→a.tmps[t]?=a0.tmps[t]?) (hkeep:∀b bx,gC.mem b=some bx→nO k.M b=false→jS.mem b=some { bx with lk:=true }) (ho:k.zq fz gC jS=some x) :
  ∃γ',bZ B N γ' (k.lF fz false wr gC x) a w∧Ext B Km gC.mem w0 γ' (k.lF fz false wr gC x).mem w:=by
 unfold Carry.zq at ho;cases fz with
 | false=>exact⟨γ,l9 hk h0 he hx hf (fun b bx hb hin=>⟨true,hkeep b bx hb hin⟩) ho⟩
 | true =>
   simp only[jk] at ho;split at ho
   ·rename_i σ1 hs;obtain⟨ff,s1,x1,k1⟩:=DC hs he;exact⟨ff,l9 hk h0 s1 (hx.trans x1) hf (fun b bx hb hin=>⟨true,k1 b _ (hkeep b bx hb hin) rfl⟩) ho⟩
   ·cases ho
noncomputable def roundOf(cx:Ctx)(nb:Nat)(bf:List Nat)(inl:Nat→List ay→St→Tree (ay×St))(k:Carry)(fz:Bool)(σ:St)(c:Code)(pl:List (Option Em))(x:k.ty.den):Option (k.ty.den⊕(Nat×k.ty.den)) :=
 ((fF cx nb bf inl c pl (k.lF false true (writes c) σ x)).bind fun r=>bif Nat.beq r.1 0 then(match k.out false σ r.2 with
   | some y=>.ret (.inl y)
   | none=>.fail)
  else match yd (mN c) r.1,k.zq fz σ r.2 with
   | some i,some y=>.ret (.inr (i,y))
   | _,_=>.fail).run
theorem Cp{c:Code}{k:Carry}{fz:Bool}{σ:St}{γ:Gh}{a:Act}{w:World}{Q:Exit→Act→World→Prop}{R:Type}(hk:sX k σ)(h:bZ B N γ σ a w){x0:k.ty.den}(hx0:k.out false σ σ=some x0)
  (f:k.ty.den→Option (k.ty.den⊕R)) (Out:R→Nat→k.ty.den→Prop) {z:R} (hL:Loop f x0=some z)
  (hf:∀x r,f x=some r→∃e y,(match r with|.inl y'=>e=0∧y'=y|.inr z=>e≠0∧Out z e y) ∧
   ∀ff a1 w1 (Q':Exit→Act→World→Prop),bZ B N ff (k.lF false true (writes c) σ x) a1 w1→(∀jS γ' a' w',(bif Nat.beq e 0 then k.out false σ jS else k.zq fz σ jS)=some y→aN (k.lF false true (writes c) σ x) jS→bZ B N γ' jS a' w'→Ext B ff (k.lF false true (writes c) σ x).mem w1 γ' jS.mem w'→vJ (writes c) a1 a'→Q' (As e) a' w') →
    c.wp P Q' a1 w1)
  (final:∀e y,e≠0→Out z e y→∀γ' a' w',bZ B N γ' (k.lF fz false (writes c) σ y) a' w'→Ext B γ σ.mem w γ' (k.lF fz false (writes c) σ y).mem w'→vJ (writes c) a a'→Q (As e) a' w') :
  (Code.loop c).wp P Q a w:=by
 obtain⟨n,hn⟩:=j8 hL;refine w9 (fun m a' w'=>∃γ' x,bZ B N γ' (k.lF false true (writes c) σ x) a' w'∧Ext B γ σ.mem w γ' (k.lF false true (writes c) σ x).mem w'∧vJ (writes c) a a'∧rounds f m x=some z) (n:=n) ?_ ?_
 ·obtain⟨s,x⟩:=l9 (lock:=true) (wr:=writes c) hk h h (Ext.refl _ _ _ _) (fun _ _=>rfl) (fun b bx hb _=>⟨bx.lk,hb⟩) hx0;exact⟨γ,x0,s,x,vJ.refl _ _,hn⟩
 ·intro m a1 w1 hI;obtain⟨ff,x,s1,e1,f1,hr⟩:=hI;cases m with
  | zero=>cases hr
  | succ m =>
    simp only[rounds] at hr;obtain⟨r,NS,hr2⟩:=Option.bind_eq_some_iff.1 hr;obtain⟨e,y,hm,hwp⟩:=hf x r NS;refine hwp ff a1 w1 _ s1 fun jS γ' a' w' ho hkp s2 e2 f2=>?_;have hx:=e1.trans e2;have hfr:=f1.trans f2;have hkeep:∀b bx,σ.mem b=some bx→nO k.M b=false→jS.mem b=some { bx with lk:=true }:=fun b bx hb hin=>by
     have:=hkp b _ (Fg hb hin) (by simp);simpa using this
    cases r with
    | inl y' =>
      obtain⟨rfl,rfl⟩:=hm;obtain⟨s3,e3⟩:=l9 (lock:=true) (wr:=writes c) hk h s2 hx hfr (fun b bx hb hin=>⟨true,hkeep b bx hb hin⟩) ho;exact⟨m,HO m,γ',y',s3,e3,hfr,hr2⟩
    | inr z' =>
      obtain⟨h0,hO⟩:=hm;obtain rfl:=ax hr2;have hb0:Nat.beq e 0=false:=fJ h0;rw[hb0] at ho;obtain⟨Sq,s3,e3⟩:=vL (wr:=writes c) hk h s2 hx hfr hkeep ho;have:=final e y h0 hO Sq a' w' s3 e3 hfr
      match e,h0,this with
      | 0,h0,_=>exact absurd rfl h0
      | 1,_,this=>exact this
      | i+2,_,this=>exact this
theorem Js{S:Type}{o:Option (S⊕(Nat×S))}{r:S⊕S}(h:kQ o=some r):(∃y,r=.inl y∧o=some (.inl y))∨∃i y,r=.inr y∧o=some (.inr (i,y)):=by
 unfold kQ at h;obtain⟨q,h1,h2⟩:=Option.map_eq_some_iff.1 h;cases q with
 | inl y=>exact .inl ⟨y,h2.symm,h1⟩
 | inr p=>exact .inr ⟨p.1,p.2,h2.symm,h1⟩
theorem mb(l8:P.follows .mixedOrders=true)(hc:eo P cx)(dc:jP P B.G cx)(iq:oE P B.G inl)(hkeep:∀f vals σ v σ',(inl f vals σ).run=some (v,σ')→aN σ σ') :
  ∀(c:Code) {pl:List (Option Em)} {σ:St} {γ:Gh} {a:Act} {w:World} {e:Nat} {σ':St} {Q:Exit→Act→World→Prop},(∀t∈writes c,t<N)→(fF cx nb bf inl c pl σ).run=some (e,σ')→bZ B N γ σ a w →
   (∀γ' a' w',bZ B N γ' σ' a' w'→Ext B γ σ.mem w γ' σ'.mem w'→vJ (writes c) a a'→Q (As e) a' w')→c.wp P Q a w:=by
 intro c;induction c with
 | skip =>
   intro pl σ γ a w e σ' Q hd hr h hK;obtain⟨rfl,rfl⟩:=cr (ax hr);exact wp_skip (hK γ a w h (Ext.refl _ _ _ _) (vJ.refl _ _))
 | label l =>
   intro pl σ γ a w e σ' Q hd hr h hK;obtain⟨rfl,rfl⟩:=cr (ax hr);exact wp_label (hK γ a w h (Ext.refl _ _ _ _) (vJ.refl _ _))
 | ret =>
   intro pl σ γ a w e σ' Q hd hr h hK;obtain⟨rfl,rfl⟩:=cr (ax hr);exact wp_ret (hK γ a w h (Ext.refl _ _ _ _) (vJ.refl _ _))
 | exit i =>
   intro pl σ γ a w e σ' Q hd hr h hK;obtain⟨rfl,rfl⟩:=cr (ax hr);exact wp_exit (hK γ a w h (Ext.refl _ _ _ _) (vJ.refl _ _))
 | region id ops dr =>
   intro pl σ γ a w e σ' Q hd hr h hK;obtain⟨σ1,h1,h2⟩:=bind_some hr;obtain⟨rfl,rfl⟩:=cr (ax h2);have hd':∀o∈ops.toList,∀k,o.dst=some k→k<N:=fun o ho k hk=>hd k (DB ho hk);have hfr:∀{a a':Act},Fr (number 0 ops.toList) a a'→vJ (writes (.region id ops dr)) a a':=fun hf t ht=>hf t (Ff ht);cases dr with
   | true=>exact Fa l8 hc dc iq hd' h1 h fun γ' a' w' s x f=>hK γ' a' w' s x (hfr f)
   | false=>exact Dk hc dc iq hkeep hd' h1 h fun γ' a' w' s x f=>hK γ' a' w' s x (hfr f)
 | seq x y RG RH =>
   intro pl σ γ a w e σ' Q hd hr h hK;obtain⟨r1,h1,h2⟩:=bind_some hr;obtain⟨e1,σ1⟩:=r1;have RI:∀t∈writes x,t<N:=fun t ht=>hd t (tC _ ht);have RJ:∀t∈writes y,t<N:=fun t ht=>hd t (sK _ ht);refine wp_seq (RG RI h1 h fun γ' a' w' s1 x1 f1=>?_);cases e1 with
   | zero=>exact RH RJ h2 s1 fun Nh UP w'' s2 x2 f2=>hK Nh UP w'' s2 (x1.trans x2) (f1.left.trans f2.right)
   | succ e1 =>
     obtain⟨rfl,rfl⟩:=cr (ax h2);have:=hK γ' a' w' s1 x1 f1.left;cases e1 with
     | zero=>exact this
     | succ i=>exact this
 | block i x ih =>
   intro pl σ γ a w e σ' Q hd hr h hK;obtain⟨r1,h1,h2⟩:=bind_some hr;obtain⟨e1,σ1⟩:=r1;obtain⟨rfl,rfl⟩:=cr (ax h2);refine wp_block (ih hd h1 h fun γ' a' w' s1 x1 f1=>?_);have:=hK γ' a' w' s1 x1 f1
   match e1,this with
   | 0,this=>exact this
   | 1,this=>exact this
   | j+2,this =>
     show Exit.inBlock i Q (.exit j) a' w'
     unfold Exit.inBlock;by_cases e:j=i
     ·subst e;simp only[jr];simpa [As] using this
     ·simp only[cT e];have hb:Nat.beq (j+2) (i+2)=false:=fJ (by omega);rw[hb] at this;exact this
 | scope x ih =>
   intro pl σ γ a w e σ' Q hd hr h hK;refine wp_scope_straight (ih hd hr h fun γ' a' w' s1 x1 f1=>?_);have:=hK γ' a' w' s1 x1 f1
   match e,this with
   | 0,this=>exact this
   | 1,this=>exact this
   | j+2,this=>exact this
 | cond o x y RG RH =>
   intro pl σ γ a w e σ' Q hd hr h hK;have RI:∀t∈writes x,t<N:=fun t ht=>hd t (tC _ ht);have RJ:∀t∈writes y,t<N:=fun t ht=>hd t (sK _ ht);unfold fF at hr;split at hr
   ·rename_i c0 LR Nk;change Bool at c0;have hev:=h.bN o;rw[Nk] at hev;have hev:=qz hev;have hn:=eI hr;cases c0 with
    | false=>exact wp_cond_false hev (RH RJ hn h fun γ' a' w' s1 x1 f1=>hK γ' a' w' s1 x1 f1.right)
    | true=>exact wp_cond_true hev (RG RI hn h fun γ' a' w' s1 x1 f1=>hK γ' a' w' s1 x1 f1.left)
   ·rename_i c0 p LR Nk;change Bool at c0;have hev:=h.bN o;rw[Nk] at hev;have hev:=qz hev;split at hr
    ·cases hr
    rename_i σ GZ;obtain⟨γ,h,hx⟩:=xV GZ h;replace hK:=fun γ' a' w' s x f=>hK γ' a' w' s (hx.trans x) f;clear hx;split at hr
    ·cases hr
    rename_i k hk;have hok:=qF hk;dsimp only at hr;have go:∀{r:Nat×St},(Tree.node c0 (fF cx nb bf inl x LR (k.lock σ)) (fF cx nb bf inl y (LR.drop (marks x)) (k.lock σ))).run=some r→∀{v:k.ty.den},k.zq p.fz σ r.2=some v →
      (∀γ' a' w',bZ B N γ' (k.lF p.fz false (writes x++writes y) σ v) a' w'→Ext B γ σ.mem w γ' (k.lF p.fz false (writes x++writes y) σ v).mem w'→vJ (writes x++writes y) a a'→Q (As r.1) a' w') →
      (Code.cond o x y).wp P Q a w:=by
     intro r hrun v ho hQ;have hlk:bZ B N γ (k.lock σ) a w:=by rw[NR];exact h.mZ
     have hle:Ext B γ σ.mem w γ (k.lock σ).mem w:=by rw[vK];exact Ext.mZ
     have fin:aN (k.lock σ) r.2→∀γ' a' w',bZ B N γ' r.2 a' w'→Ext B γ (k.lock σ).mem w γ' r.2.mem w'→vJ (writes x++writes y) a a'→Q (As r.1) a' w':=by
      intro hkp γ' a' w' s1 x1 f1;obtain⟨tG,s2,x2⟩:=vL (wr:=writes x++writes y) hok h s1 (hle.trans x1) f1 (fun b bx hb hin=>hkp b _ (by rw[vK,Cn hb,hin];rfl) rfl) ho;exact hQ tG a' w' s2 x2 f1
     have hn:=eI hrun;cases c0 with
     | false=>exact wp_cond_false hev (RH RJ hn hlk fun γ' a' w' s1 x1 f1=>fin (nZ hkeep _ _ _ _ hn) γ' a' w' s1 x1 f1.right)
     | true=>exact wp_cond_true hev (RG RI hn hlk fun γ' a' w' s1 x1 f1=>fin (nZ hkeep _ _ _ _ hn) γ' a' w' s1 x1 f1.left)
    split at hr
    ·obtain⟨v,h1,h2⟩:=xb hr;obtain⟨rfl,rfl⟩:=cr (ax h2);obtain⟨r,h3,h4⟩:=bind_some h1;obtain⟨h5,h6⟩:=aq h4;refine go h3 (Au h6) fun γ' a' w' s x f=>?_;rw[dz h5];exact hK γ' a' w' s x f
    ·rename_i es MZ;obtain⟨v,h1,h2⟩:=xb hr;obtain⟨r,h3,h4⟩:=bind_some h1;split at h4
     ·rename_i i v' OY ho;obtain rfl:=ax h4;rw[Co OY] at h2;obtain⟨rfl,rfl⟩:=cr (ax h2);exact go h3 ho fun γ' a' w' s x f=>hK γ' a' w' s x f
     ·cases h4
   ·cases hr
 | loop c ih =>
   intro pl σ γ a w e σ' Q hd hr h hK;unfold fF at hr;split at hr
   case h_2 =>
    rename_i LR;generalize 100000=n at hr;refine w9 (fun m a' w'=>∃γ' σ1,bZ B N γ' σ1 a' w'∧Ext B γ σ.mem w γ' σ1.mem w'∧vJ (writes c) a a'∧(again (fun σ=>fF cx nb bf inl c LR σ) m σ1).run=some (e,σ')) (n:=n) ⟨γ,σ,h,Ext.refl _ _ _ _,vJ.refl _ _,hr⟩ ?_;intro m a1 w1 hI;obtain⟨ff,σ1,s1,e1,f1,gE⟩:=hI;cases m with
    | zero=>cases gE
    | succ m =>
      obtain⟨r,q1,q2⟩:=bind_some gE;obtain⟨e',σ2⟩:=r;refine ih hd q1 s1 fun γ' a' w' s2 e2 f2=>?_;cases hq:Nat.beq e' 0 with
      | true =>
        dsimp only at q2;rw[hq] at q2;obtain rfl:=dz hq;exact⟨m,HO m,γ',σ2,s2,e1.trans e2,f1.trans f2,q2⟩
      | false =>
        dsimp only at q2;rw[hq] at q2;obtain⟨rfl,rfl⟩:=cr (ax q2);have:=hK γ' a' w' s2 (e1.trans e2) (f1.trans f2)
        match e',hq,this with
        | 0,hq,_=>cases hq
        | 1,_,this=>exact this
        | i+2,_,this=>exact this
   case h_3=>cases hr
   rename_i p LR;split at hr
   ·rename_i ct hct;generalize 100=n at hr;generalize 0=j at hr;refine w9 (fun m a' w'=>∃γ' σ1 j',bZ B N γ' σ1 a' w'∧Ext B γ σ.mem w γ' σ1.mem w'∧vJ (writes c) a a'∧(wJ (fun σ=>fF cx nb bf inl c LR σ) ct m j' σ1).run=some (e,σ')) (n:=n) ⟨γ,σ,j,h,Ext.refl _ _ _ _,vJ.refl _ _,hr⟩ ?_;intro m a1 w1 hI;obtain⟨ff,σ1,j1,s1,e1,f1,gE⟩:=hI;cases m with
    | zero=>cases gE
    | succ m =>
      unfold wJ at gE;split at gE
      case h_2=>cases gE
      rename_i x hx;obtain⟨hj,hr2⟩:=bK gE;obtain⟨r,q1,q2⟩:=bind_some hr2;obtain⟨e',σ2⟩:=r;change Int at x;have OJ:x=(j1:Int):=wq (show decide (x=(j1:Int))=true from hj);have s1':bZ B N ff (σ1.put ct (.data (.int .i64) (j1:Int))) a1 w1:=s1.Ie (by
       have:=s1.slots ct;rw[hx] at this;rw[←OJ];exact this)
      refine ih hd q1 s1' fun γ' a' w' s2 e2 f2=>?_;have e2:Ext B ff σ1.mem w1 γ' σ2.mem w':=e2;cases hq:Nat.beq e' 0 with
      | true =>
        dsimp only at q2;rw[hq] at q2;obtain rfl:=dz hq;exact⟨m,HO m,γ',σ2,j1+1,s2,e1.trans e2,f1.trans f2,q2⟩
      | false =>
        dsimp only at q2;rw[hq] at q2;obtain⟨rfl,rfl⟩:=cr (ax q2);have:=hK γ' a' w' s2 (e1.trans e2) (f1.trans f2)
        match e',hq,this with
        | 0,hq,_=>cases hq
        | 1,_,this=>exact this
        | i+2,_,this=>exact this
   split at hr
   ·cases hr
   rename_i σ GZ;obtain⟨γ,h,hx⟩:=xV GZ h;replace hK:=fun γ' a' w' s x f=>hK γ' a' w' s (hx.trans x) f;clear hx;split at hr
   ·cases hr
   rename_i k hk;have hok:=qF hk;dsimp only at hr;split at hr
   ·cases hr
   rename_i x0 hx0;have hb:∀x r,roundOf cx nb bf inl k p.fz σ c LR x=some r→∃e jS y,(fF cx nb bf inl c LR (k.lF false true (writes c) σ x)).run=some (e,jS)∧(bif Nat.beq e 0 then k.out false σ jS else k.zq p.fz σ jS)=some y∧((e=0∧r=.inl y)∨(e≠0∧∃i,yd (mN c) e=some i∧r=.inr (i,y))):=by
    intro x r hx;unfold roundOf at hx;obtain⟨q,q1,q2⟩:=bind_some hx;obtain⟨e,jS⟩:=q;dsimp only at q2;cases he:Nat.beq e 0 with
    | true =>
      rw[he] at q2;simp only[jk] at q2;split at q2
      ·rename_i y hy;exact⟨e,jS,y,q1,by rw[he];exact hy,.inl ⟨dz he,(ax q2).symm⟩⟩
      ·cases q2
    | false =>
      rw[he] at q2;simp only[gj] at q2;split at q2
      ·rename_i i y hi hy;exact⟨e,jS,y,q1,by rw[he];exact hy,.inr ⟨fun e0=>(by subst e0;cases he),i,hi,(ax q2).symm⟩⟩
      ·cases q2
   have step:∀{x:k.ty.den} {e:Nat} {jS:St} {y:k.ty.den},(fF cx nb bf inl c LR (k.lF false true (writes c) σ x)).run=some (e,jS)→(bif Nat.beq e 0 then k.out false σ jS else k.zq p.fz σ jS)=some y→∀ff a1 w1 (Q':Exit→Act→World→Prop),bZ B N ff (k.lF false true (writes c) σ x) a1 w1 →
     (∀jS γ' a' w',(bif Nat.beq e 0 then k.out false σ jS else k.zq p.fz σ jS)=some y→aN (k.lF false true (writes c) σ x) jS→bZ B N γ' jS a' w'→Ext B ff (k.lF false true (writes c) σ x).mem w1 γ' jS.mem w'→vJ (writes c) a1 a'→Q' (As e) a' w')→c.wp P Q' a1 w1:=by
    intro x e jS y hrun ho ff a1 w1 Q' s hQ;exact ih hd hrun s fun γ' a' w' s1 x1 f1=>hQ jS γ' a' w' ho (nZ hkeep _ _ _ _ hrun) s1 x1 f1
   split at hr
   ·rename_i e0 MZ;obtain⟨v,h1,h2⟩:=bE hr;obtain⟨rfl,rfl⟩:=cr (ax h2);refine Cp (fz:=p.fz) hok h hx0 _ (fun z e' y=>e'=e0∧z=y) h1 (fun x r hx=>?_) (fun e' y hne hO γ' a' w' s x f=>?_)
    ·rcases Js hx with ⟨y,rfl,hy⟩|⟨i,y,rfl,hy⟩
     ·obtain⟨e,jS,y',q1,q2,q3⟩:=hb x _ hy;rcases q3 with ⟨rfl,q3⟩|⟨_,i,_,q3⟩
      ·obtain rfl:=Sum.inl.inj q3;exact⟨0,y,⟨rfl,rfl⟩,step q1 q2⟩
      ·cases q3
     ·obtain⟨e,jS,y',q1,q2,q3⟩:=hb x _ hy;rcases q3 with ⟨rfl,q3⟩|⟨hne,i',OY,q3⟩
      ·cases q3
      ·obtain⟨rfl,rfl⟩:=cr (Sum.inr.inj q3);rw[MZ] at OY;exact⟨e,y,⟨hne,LS OY,rfl⟩,step q1 q2⟩
    ·obtain⟨rfl,rfl⟩:=hO;exact hK γ' a' w' s x f
   ·obtain⟨v,h1,h2⟩:=bE hr;refine Cp (fz:=p.fz) hok h hx0 _ (fun z e' y=>yd (mN c) e'=some z.1∧z.2=y) h1 (fun x r hx=>?_) (fun e' y hne hO γ' a' w' s x f=>?_)
    ·obtain⟨e,jS,y',q1,q2,q3⟩:=hb x _ hx;rcases q3 with ⟨rfl,rfl⟩|⟨hne,i,OY,rfl⟩
     ·exact⟨0,y',⟨rfl,rfl⟩,step q1 q2⟩
     ·exact⟨e,y',⟨hne,OY,rfl⟩,step q1 q2⟩
    ·obtain⟨OY,rfl⟩:=hO;rw[Co OY] at h2;obtain⟨rfl,rfl⟩:=cr (ax h2);exact hK γ' a' w' s x f
 | _=>intro pl σ γ a w e σ' Q hd hr h hK;cases hr
end
end Go.Ge
namespace Go.Ge
variable [Lp]
open RowKit
def Jt(fn:Func):Bool:=!(fn.name == "runtime.NumGoroutine")&&(match fn.body with|some c=>(writes c).all fun t=>Nat.blt t fn.ntmps|none=>true)
def Fi(cx:Ctx):Prop:=∀f fn,find cx.fns f=some fn→Jt fn=true
theorem mc{α:Type}{l:List (Nat×α)}{k:Nat}{x:α}(h:find l k=some x):(k,x)∈l:=by
 induction l with
 | nil=>cases h
 | cons p r ih =>
   obtain⟨i,a⟩:=p;simp only[find] at h;cases hb:Nat.beq i k with
   | true =>
     rw[hb] at h;obtain rfl:=ax h;obtain rfl:=dz hb;exact nG ..
   | false=>rw[hb] at h;exact nF _ (ih h)
theorem LU{cx:Ctx}(h:(cx.fns.all fun p=>Jt p.2)=true):Fi cx:=fun f fn hf=>by
 rw[yb] at h;exact h _ (mc hf)
section
variable {P:Program} {B:ld} {N:Nat} {γ:Gh} {σ:St} {a:Act} {w:World} {cx:Ctx}
def xd(tmps:Array Value):ResultVar→Sem Value
 | .tmp t=>pure (tmps.getD t undef)
 | .cell a t=>do loadVar t (←asAddr (tmps.getD a undef))
theorem rq(hc:eo P cx)(h:bZ B N γ σ a w){r:ResultVar}{v:ay}(hr:(wK cx σ r).run=some v):∃val,(xd a.tmps r).run P w=.ok val w∧bH γ σ.mem w v .val [val]:=by
 cases r with
 | tmp t =>
   obtain rfl:=ax hr;exact⟨_,rfl,h.slots t⟩
 | cell t ty =>
   obtain⟨τ,h1,h2⟩:=bind_some hr;obtain rfl:=ax h2;obtain⟨u,val,ad,rfl,g1,g2,g3⟩:=Ev (P:=P) hc (x:=.tmp t) h h1;refine⟨val,?_,?_⟩
   ·have UQ:a.tmps.getD t undef=.pointer (some ad):=g1;simp only[xd,UQ,asAddr,Sem.run_bind,Sem.run_pure,Result.andThen_ok,g2]
   ·simpa [St.aD,St.put] using g3
theorem Av(hc:eo P cx)(h:bZ B N γ σ a w):∀{rs:List ResultVar} {v:ay},(uW cx σ rs).run=some v→∃vals:List Value,vals.length=rs.length∧(rs.mapM (xd a.tmps)).run P w=.ok vals w∧bH γ σ.mem w v .many vals:=by
 intro rs;induction rs with
 | nil=>intro v hr;obtain rfl:=ax hr;exact⟨[],rfl,rfl,rfl⟩
 | cons r rs ih =>
   intro v hr;obtain⟨v1,h1,h2⟩:=bind_some hr;obtain⟨l,h3,h4⟩:=bind_some h2;obtain rfl:=ax h4;obtain⟨val,g1,g2⟩:=rq hc h h1;obtain⟨vals,k1,k2,k3⟩:=ih h3;refine⟨val::vals,by simp[k1],?_,val,vals,rfl,g2,k3⟩;simp only[HQ,Sem.run_bind,g1,Result.andThen_ok,k2,Sem.run_pure]
theorem G0(fn:Func)(tmps:Array Value):results fn tmps=(do
  let vs ←fn.results.toList.mapM (xd tmps)
  pure (if h:vs.toArray.size=1 then vs.toArray[0] else .tuple vs.toArray)):=by
 have h:results fn tmps=(do
   let vs ←fn.results.mapM (xd tmps)
   pure (if h:vs.size=1 then vs[0] else .tuple vs)):=by
  unfold results
  congr 1
 rw[h,Array.mapM_eq_mapM_toList];simp only[bind_map_left]
theorem pq(hc:eo P cx)(h:bZ B N γ σ a w){fn:Func}{v:ay}(hr:(results1 cx σ fn.results.toList).run=some v):∃val,(results fn a.tmps).run P w=.ok val w∧bH γ σ.mem w v .val [val]:=by
 rw[G0];generalize fn.results.toList=rs at hr;have many:∀{l:ay},rs.length≠1→(uW cx σ rs).run=some l→∃val,(do
   let vs ←rs.mapM (xd a.tmps)
   pure (if h:vs.toArray.size=1 then vs.toArray[0] else .tuple vs.toArray):Sem Value).run P w=.ok val w∧bH γ σ.mem w (.om l) .val [val]:=by
  intro l hne hl;obtain⟨vals,k1,k2,k3⟩:=Av hc h hl;refine⟨.tuple vals.toArray,?_,vals.toArray,rfl,by simpa using k3⟩;have:¬vals.toArray.size=1:=by simp[k1,hne]
  simp only[Sem.run_bind,k2,Result.andThen_ok,Sem.run_pure,dif_neg this]
 match rs,hr with
 | [],hr =>
   obtain⟨l,h1,h2⟩:=bind_some hr;obtain rfl:=ax h2;exact many (by simp) h1
 | [r],hr =>
   obtain⟨val,g1,g2⟩:=rq hc h hr;refine⟨val,?_,g2⟩;simp only[HQ,List.mapM_nil,Sem.run_bind,g1,Result.andThen_ok,Sem.run_pure];rfl
 | r::s::rs,hr =>
   obtain⟨l,h1,h2⟩:=bind_some hr;obtain rfl:=ax h2;exact many (by simp) h1
theorem xe{mem:Nat→Option aY}(hm:aV B γ mem w){vals:List ay}{xs:Array Value}(hv:ij γ mem w vals xs.toList)(n:Nat) :
  bZ B (xs.size+(n-xs.size)) γ (xC mem vals) { tmps:=xs++Array.replicate (n-xs.size) undef,defers:=[] } w where
 slots:=fun t=>by
  show bH γ mem w ((vals[t]?).getD .undef) .val [_]
  cases hq:vals[t]? with
  | none=>exact⟨_,rfl⟩
  | some v =>
    have ht:t<xs.size:=by
     have:=(List.getElem?_eq_some_iff.1 hq).1;have h2:=hv.1;simp at h2;omega
    have h1:xs[t]?=some xs[t]:=Array.getElem?_eq_getElem ht;have h2:(xs++Array.replicate (n-xs.size) undef).getD t undef=xs[t]:=by
     rw[FT,Array.getElem?_append_left ht,h1];rfl
    dsimp only;rw[h2];exact hv.2 t v xs[t] hq (by simp[ht])
 size:=by simp
 defers:=rfl
 ok:=hm
noncomputable def Cq(cx:Ctx)(n nb:Nat)(cG:Nat→pV):Nat→List ay→St→Tree (ay×St) :=
 fun g xs σ=>(qY cx n (uo σ.mem ((nb+g+1)*1000) (cG g).CO) cG g xs σ.mem).bind fun r=>.ret (r.1,{ σ with mem:=r.2 })
theorem Aw{n nb f:Nat}{cG:Nat→pV}{vals:List ay}{mem:Nat→Option aY}{r:ay×(Nat→Option aY)}(hr:(qY cx (n+1) nb cG f vals mem).run=some r) :
  ∃fn c,find cx.fns f=some fn∧fn.body=some c∧((zv cx nb (cG f) (Cq cx n nb cG) fn c vals mem).run=some r∨∃R,(HY R vals mem (zv cx nb (cG f) (Cq cx n nb cG) fn c vals)).run=some r):=by
 unfold qY at hr;split at hr
 case h_2=>cases hr
 rename_i fn hfn;split at hr
 case h_2=>cases hr
 rename_i c hb;refine⟨fn,c,hfn,hb,?_⟩;split at hr
 ·exact .inl hr
 ·exact .inr ⟨_,hr⟩
theorem uF{nb:Nat}{p:pV}{inl:Nat→List ay→St→Tree (ay×St)}{fn:Func}{c:Code}{vals:List ay}{mem:Nat→Option aY}{r:ay×(Nat→Option aY)}(hr:(zv cx nb p inl fn c vals mem).run=some r) :
  ∃e σ',(fF cx nb p.CO inl c p.marks (xC mem vals)).run=some (e,σ')∧(e=0∨e=1)∧(results1 cx σ' fn.results.toList).run=some r.1∧r.2=σ'.mem:=by
 obtain⟨q,h1,h2⟩:=bind_some hr;obtain⟨e,σ'⟩:=q;obtain⟨h3,h4⟩:=aq h2;obtain⟨v,h5,h6⟩:=bind_some h4;obtain rfl:=ax h6;refine⟨e,σ',h1,?_,h5,rfl⟩;simp only[zd] at h3;rcases h3 with h3|h3
 ·exact .inl (dz h3)
 ·exact .inr (dz h3)
theorem NT:∀{l:List Ty} {i t:Nat} {s:Sh},(t,s)∈HX l i→∃u,s=.d u:=by
 intro l;induction l with
 | nil=>intro i t s h;cases h
 | cons a r ih =>
   intro i t s h;rcases List.mem_cons.1 h with h|h
   ·obtain⟨rfl,rfl⟩:=cr h;exact⟨a,rfl⟩
   ·exact ih h
theorem Ax{R:Bool×List Ty}{vals:List ay}{mem:Nat→Option aY}{F:(Nat→Option aY)→Tree (ay×(Nat→Option aY))}{r:ay×(Nat→Option aY)}(hr:(HY R vals mem F).run=some r) :
  ∃(k:Carry) (x:k.ty.den) (v:ay) (mem':Nat→Option aY),sX k (fO mem)∧(F (k.lock (fO mem)).mem).run=some (v,mem')∧k.out false (fO mem) (K1 R.1 v mem')=some x∧En R.1 v R.2.length=true ∧
   r=(CR R.1 R.2.length (k.lF false false (List.range R.2.length) (fO mem) x).slots,(k.lF false false (List.range R.2.length) (fO mem) x).mem):=by
 unfold HY at hr;split at hr
 ·cases hr
 rename_i m hm;obtain⟨x,h1,h2⟩:=xb hr;obtain⟨q,h3,h4⟩:=bind_some h1;obtain⟨h5,h4⟩:=aq h4;refine⟨⟨HX R.2 0,m,fun _=>false⟩,x,q.1,q.2,⟨fun t s hts=>?_,LP hm,fun b x hb=>(by cases hb)⟩,h3,Au h4,h5,(ax h2).symm⟩;obtain⟨u,rfl⟩:=NT hts;trivial
theorem LV{γ:Gh}{mem:Nat→Option aY}{w:World}:∀{m:ay} {vs:List Value},bH γ mem w m .many vs→zu m=vs.length∧∀(t:Nat) (u:ay),nth m t=some u→∃v,vs[t]?=some v∧bH γ mem w u .val [v]:=by
 intro m;induction m with
 | mix a b _ iu =>
   intro vs h;obtain⟨v,r,rfl,h1,h2⟩:=h;obtain⟨h3,h4⟩:=iu h2;refine⟨by simp only[zu,kV,h3],fun t u ht=>?_⟩;cases t with
   | zero=>obtain rfl:=ax ht;exact⟨v,rfl,h1⟩
   | succ t=>exact h4 t u ht
 | nl=>intro vs h;obtain rfl:vs=[]:=h;exact⟨rfl,fun t u ht=>(by cases t<;>cases ht)⟩
 | _=>intro vs h;exact h.elim
theorem Ju{γ:Gh}{mem:Nat→Option aY}{w:World}{slots:Nat→ay}:∀(vs:List Value) (i:Nat),(∀(t:Nat) (v:Value),vs[t]?=some v→bH γ mem w (slots (i+t)) .val [v])→bH γ mem w (Pd slots i vs.length) .many vs:=by
 intro vs;induction vs with
 | nil=>intro i h;exact rfl
 | cons v r ih =>
   intro i h;refine⟨v,r,rfl,h 0 v rfl,ih (i+1) fun t u hu=>?_⟩;have:=h (t+1) u (by simpa using hu)
   rwa [show i+(t+1)=i+1+t by omega] at this
theorem G1{cG:Nat→pV}:∀(n nb f:Nat) (vals:List ay) (mem:Nat→Option aY) (r:ay×(Nat→Option aY)),(qY cx n nb cG f vals mem).run=some r→∀b bx,mem b=some bx→bx.lk=true→r.2 b=some bx:=by
 intro n;induction n with
 | zero=>intro nb f vals mem r h;cases h
 | succ n ih =>
   intro nb f vals mem r h b bx hb hl;obtain⟨fn,c,h1,h2,h3⟩:=Aw h;have body:∀{mem:Nat→Option aY} {r:ay×(Nat→Option aY)},(zv cx nb (cG f) (Cq cx n nb cG) fn c vals mem).run=some r→∀b bx,mem b=some bx→bx.lk=true→r.2 b=some bx:=by
    intro mem r h b bx hb hl;obtain⟨e,σ',h3,h4,h5,h6⟩:=uF h;have:=nZ (fun f vals σ v σ' hi=>by
     obtain⟨q,g1,g2⟩:=bind_some (show((qY cx n (uo σ.mem ((nb+f+1)*1000) (cG f).CO) cG f vals σ.mem).bind fun r=>.ret (r.1,{ σ with mem:=r.2 })).run=some (v,σ') from hi);obtain⟨rfl,rfl⟩:=cr (ax g2);exact fun b bx hb hl=>ih _ _ _ _ q g1 b bx hb hl) c _ _ _ h3
    rw[h6];exact this b bx hb hl
   rcases h3 with h3|⟨R,h3⟩
   ·exact body h3 b bx hb hl
   ·obtain⟨k,x,v,mem',hk,_,_,_,rfl⟩:=Ax h3;exact sg (fz:=false) (lock:=false) (wr:=List.range R.2.length) (x:=x) hk b bx hb hl
theorem Ay{cG:Nat→pV}(n nb:Nat):∀f vals σ v σ',(Cq cx n nb cG f vals σ).run=some (v,σ')→aN σ σ':=by
 intro f vals σ v σ' hi;obtain⟨q,g1,g2⟩:=bind_some (show((qY cx n (uo σ.mem ((nb+f+1)*1000) (cG f).CO) cG f vals σ.mem).bind fun r=>.ret (r.1,{ σ with mem:=r.2 })).run=some (v,σ') from hi);obtain⟨rfl,rfl⟩:=cr (ax g2);exact fun b bx hb hl=>G1 _ _ _ _ _ q g1 b bx hb hl
theorem xW(l8:P.follows .mixedOrders=true)(hc:eo P cx){G:eH}(dc:jP P G cx)(G2:Fi cx){cG:Nat→pV} :
  ∀(n nb f:Nat) (B:ld) (γ:Gh) (mem mem':Nat→Option aY) (w:World) (vals:List ay) (xs:Array Value) (v:ay),B.G=G→aV B γ mem w→ij γ mem w vals xs.toList→(qY cx n nb cG f vals mem).run=some (v,mem') →
  (∃fn code,P.funcs[f]?=some fn∧(fn.name == "runtime.NumGoroutine")=false∧fn.body=some code) ∧
  Calls P f xs w fun e w'=>∃val γ',e=.returned val∧aV B γ' mem' w'∧Ext B γ mem w γ' mem' w'∧bH γ' mem' w' v .val [val]:=by
 intro n;induction n with
 | zero=>intro nb f B γ mem mem' w vals xs v _ _ _ h;cases h
 | succ n ih =>
   intro nb f B γ mem mem' w vals xs v hG hm hv h;subst hG;obtain⟨fn,c,h1,h2,h3⟩:=Aw h;have hok:=G2 f fn h1;simp only[Jt,h2,cP,iE,yb] at hok;have hP:=hc.fns f fn h1;refine⟨⟨fn,c,hP,hok.1,h2⟩,?_⟩;have iq:oE P B.G (Cq cx n nb cG):=by
    intro B' γ σ NF w f vals xs v hG hm hv hi;obtain⟨q,g1,g2⟩:=bind_some (show((qY cx n (uo σ.mem ((nb+f+1)*1000) (cG f).CO) cG f vals σ.mem).bind fun r=>.ret (r.1,{ σ with mem:=r.2 })).run=some (v,NF) from hi);obtain⟨rfl,rfl⟩:=cr (ax g2);obtain⟨k1,k2⟩:=ih _ f B' γ σ.mem q.2 w vals xs q.1 hG hm hv g1;exact⟨k1,rfl,k2⟩
   have body:∀{γ:Gh} {mem mem':Nat→Option aY} {v:ay},aV B γ mem w→ij γ mem w vals xs.toList→(zv cx nb (cG f) (Cq cx n nb cG) fn c vals mem).run=some (v,mem') →
     Calls P f xs w fun e w'=>∃val γ',e=.returned val∧aV B γ' mem' w'∧Ext B γ mem w γ' mem' w'∧bH γ' mem' w' v .val [val]:=by
    intro γ mem mem' v hm hv h;obtain⟨e,σ',h3,h4,h5,h6⟩:=uF h;dsimp only at h5 h6;subst h6;refine calls_of_wp hP h2 ?_;refine mb (B:=B) l8 hc dc iq (Ay _ _) c (fun t ht=>?_) h3 (xe hm hv fn.ntmps) fun γ' a' w' s x f=>?_
    ·have:=hok.2 t ht;have:=ya (by simpa [Nat.blt] using this);omega
    ·obtain⟨val,r1,r2⟩:=pq (fn:=fn) hc s h5;have:a'.defers=[]∧∃v1,(results fn a'.tmps).run P w'=.ok v1 w'∧∃val γ',Ending.returned v1=.returned val∧aV B γ' σ'.mem w'∧Ext B γ mem w γ' σ'.mem w'∧bH γ' σ'.mem w' v .val [val] :=
      ⟨s.defers,val,r1,val,γ',rfl,s.ok,x,r2⟩
     rcases h4 with rfl|rfl
     ·exact this
     ·exact this
   rcases h3 with h3|⟨R,h3⟩
   ·exact body hm hv h3
   ·obtain⟨k,x,v1,LW,hk,h4,h5,hsp,h6⟩:=Ax h3;obtain⟨rfl,rfl⟩:=cr h6;have Nr:(k.lock (fO mem)).mem=mZ (fun b bx=>bif nO k.M b then bx.lk else true) mem:=vK k (fO mem);have TA:aV B γ (k.lock (fO mem)).mem w:=by rw[Nr];exact hm.mZ
    have hx1:Ext B γ mem w γ (k.lock (fO mem)).mem w:=by rw[Nr];exact Ext.mZ
    have hkeep:∀b bx,(k.lock (fO mem)).mem b=some bx→bx.lk=true→LW b=some bx:=by
     intro b bx hb hl;obtain⟨e,σ',g3,_,_,g6⟩:=uF h4;have:=nZ (fun f vals σ v σ' hi=>Ay n nb f vals σ v σ' hi) c _ _ _ g3;rw[show LW=σ'.mem from g6];exact this b bx hb hl
    refine(body TA (hv.ext hx1) h4).mono fun e w' hw=>?_;obtain⟨val,ff,rfl,m1,x1,r1⟩:=hw;have fin:∀(n:Nat) (ts:Array Value),ts.size=n→n=R.2.length→(∀t,bH ff LW w' (spread R.1 v1 t) .val [ts.getD t undef]) →
      (∀{NU:Nat→Option aY} {sl:Nat→ay},(∀t,bH ff NU w' (sl t) .val [ts.getD t undef])→bH ff NU w' (CR R.1 R.2.length sl) .val [val]) →
      ∃Q5 tG,Ending.returned val=.returned Q5∧aV B tG (k.lF false false (List.range R.2.length) (fO mem) x).mem w'∧Ext B γ mem w tG (k.lF false false (List.range R.2.length) (fO mem) x).mem w' ∧
       bH tG (k.lF false false (List.range R.2.length) (fO mem) x).mem w' (CR R.1 R.2.length (k.lF false false (List.range R.2.length) (fO mem) x).slots) .val [Q5]:=by
     intro n ts hts hn hr hg;have s0:bZ B n γ (fO mem) { tmps:=Array.replicate n undef,defers:=[] } w:=⟨fun t=>⟨_,rfl⟩,by simp,rfl,hm⟩;have s1:bZ B n ff (K1 R.1 v1 LW) { tmps:=ts,defers:=[] } w':=⟨hr,hts,rfl,m1⟩;obtain⟨s2,x2⟩:=l9 (lock:=false) (wr:=List.range R.2.length) hk s0 s1 (hx1.trans x1) (fun t ht=>by
      have ht:¬t<n:=fun hlt=>by
       have hmem:t∈List.range R.2.length:=List.mem_range.2 (by omega);have:b6 (List.range R.2.length) t=true:=vq.2 hmem;rw[this] at ht;cases ht
      rw[Ks (by show ts.size≤t;omega),Ks (by simp;omega)]) (fun b bx hb hin=>⟨true,hkeep b _ (by rw[Nr];simp only[mZ,show mem b=some bx from hb,hin,gj]) rfl⟩) h5
     exact⟨val,ff,rfl,s2.ok,x2,hg s2.slots⟩
    obtain⟨om,L⟩:=R;cases om with
    | false =>
      have hL:L.length=1:=dz hsp;refine fin 1 #[val] rfl hL.symm (fun t=>?_) (fun h=>h 0);cases t with
      | zero=>exact r1
      | succ t=>exact⟨_,rfl⟩
    | true =>
      cases v1 with
      | om m =>
        obtain⟨arr,e1,r2⟩:=r1;obtain⟨q1,q2⟩:=LV r2;have hL:zu m=L.length:=dz hsp;obtain rfl:val=.tuple arr:=mJ e1;have hsz:arr.size=L.length:=by rw[←hL,q1];simp
        refine fin L.length arr hsz rfl (fun t=>?_) (fun {NU sl} h=>⟨arr,rfl,?_⟩)
        ·show bH ff LW w' (match nth m t with|some u=>u|none=>.undef) .val _
         cases ht:nth m t with
         | none=>exact⟨_,rfl⟩
         | some u =>
           obtain⟨v,g1,g2⟩:=q2 t u ht;dsimp only;rw[FT,←KD,g1];exact g2
        ·have:=Ju (γ:=ff) (mem:=NU) (w:=w') (slots:=sl) arr.toList 0 fun t v ht=>by
          have:=h t;rw[FT,←KD,ht] at this;rw[oY];exact this
         rwa [show arr.toList.length=L.length by rw[←hsz];simp] at this
      | _=>cases hsp
end
end Go.Ge
namespace Go.Ge
variable [Lp]
open RowKit
section
variable {P:Program} {B:ld} {N:Nat} {γ:Gh} {σ:St} {a:Act} {w:World} {cx:Ctx}
theorem DD{mem:Nat→Option aY}{I:Nat→Nat→Prop}{loc:Nat→Option (Nat×Nat)}:∀{A:Ty} {x:A.den} {xs:List Value},fC w I A x xs→ij ⟨I,loc⟩ mem w (wL A x) xs:=by
 intro A;induction A with
 | pair t r F3 ihr =>
   intro x xs h;obtain⟨cs,rest,rfl,h1,h2⟩:=h;have:=ihr h2;refine⟨by simp[wL,this.1],fun i v y hv hy=>?_⟩;cases i with
   | zero =>
     obtain rfl:=ax hv;obtain rfl:=ax hy;exact⟨cs,h1,rfl⟩
   | succ i=>exact this.2 i v y (by simpa [wL] using hv) (by simpa using hy)
 | unit=>intro x xs h;rw[show xs=[] from h];exact⟨rfl,fun i v y hv=>by cases hv⟩
 | _=>intro x xs h;exact h.elim
theorem Fj(hm:aV B γ σ.mem w){I':Nat→Nat→Prop}(hI:∀b o,γ.I b o→I' b o)(Kj:∀b o,B.has b→b<w.heap.size→I' b o):∀{R:Ty} {y:R.den} {u:ay} {vs:List Value},
  bH γ σ.mem w u .many vs→fy σ R (uX u)=some y→bH ⟨I',fun _=>none⟩ (fun _=>none) w (rI R y) .many vs:=by
 intro R;induction R with
 | pair t r F3 ihr =>
   intro y u vs hu hl;cases u with
   | mix p q =>
     obtain⟨v,rest,rfl,h1,h2⟩:=hu;simp only[uX,fy] at hl;split at hl
     ·rename_i x z hx hz;obtain rfl:=ax hl;obtain⟨cs,c1,c2⟩:=zP hm hI Kj h1 hx;exact⟨v,rest,rfl,⟨cs,c1,by rw[c2]⟩,ihr h2 hz⟩
     ·cases hl
   | _=>cases hl
 | unit =>
   intro y u vs hu hl;cases u with
   | mix p q=>cases hl
   | nl=>exact hu
   | _=>exact(show False from hu).elim
 | _=>intro y u vs hu hl;cases u<;>cases hl
theorem Cr(hm:aV B γ σ.mem w){I':Nat→Nat→Prop}(hI:∀b o,γ.I b o→I' b o)(Kj:∀b o,B.has b→b<w.heap.size→I' b o){R:Ty}{y:R.den}{v:ay}{val:Value}
  (hv:bH γ σ.mem w v .val [val]) (hl:fy σ R (uY R v)=some y):iM w I' R y val:=by
 have many:∀{R:Ty} {y:R.den},(nJ R y=.om (rI R y))→(fy σ R (match v with|.om v=>uX v|v=>[v])=some y)→(∀t,R≠.pair t .unit)→iM w I' R y val:=by
  intro R y hres hl hne;unfold iM;rw[hres];have one:∀{v':ay},fy σ R [v']=some y→False:=by
   intro v' h;cases R with
   | pair t r =>
     simp only[fy] at h;split at h
     ·rename_i hr;cases r with
      | unit=>exact hne t rfl
      | _=>cases hr
     ·cases h
   | _=>cases h
  cases v with
  | om u =>
    obtain⟨arr,h1,h2⟩:=hv;exact⟨arr,h1,Fj hm hI Kj h2 hl⟩
  | _=>exact(one hl).elim
 cases R with
 | pair t r =>
   cases r with
   | unit =>
     simp only[uY,fy] at hl;split at hl
     ·rename_i x z hx hz;obtain rfl:=ax hl;obtain⟨cs,c1,c2⟩:=zP hm hI Kj hv hx;exact⟨cs,c1,by rw[c2]⟩
     ·cases hl
   | _=>exact many rfl (by cases v<;>exact hl) (fun t e=>by cases e)
 | _=>exact many rfl (by cases v<;>exact hl) (fun t e=>by cases e)
theorem DE(l8:P.follows .mixedOrders=true)(hc:eo P cx){G:eH}(dc:jP P G cx)(G2:Fi cx){cG:Nat→pV}{n f:Nat}{A R:Ty}{spec:A.den→Option R.den}
  {fn:Func} {code:Code} (hfn:find cx.fns f=some fn) (hbody:fn.body=some code) (h:∀x y,spec x=some y→sem cx n cG f A R x=some y):Holds P G f ⟨A,R,spec⟩ where
 body:=by
  have hok:=G2 f fn hfn;simp only[Jt,hbody,cP,iE] at hok;exact⟨fn,code,hc.fns f fn hfn,hok.1,hbody⟩
 calls:=by
  intro I w args x y hI hG hargs hspec;have hs:=h x y hspec;unfold sem at hs;obtain⟨r,h1,h2⟩:=bind_some hs;obtain⟨v,mem'⟩:=r;have hl:fy (fO mem') R (uY R v)=some y:=by
   dsimp only at h2;split at h2
   ·rename_i y' hy';obtain rfl:=ax h2;exact hy'
   ·cases h2
  have hm:aV (iy G w.heap.size) ⟨I,fun _=>none⟩ (fun _=>none) w :=
   { bG:=fun b Q g=>by
      obtain⟨o,h1,h2⟩:=hG b Q g;exact⟨fun hb=>by have:=ke.1 hb;have:=(Array.getElem?_eq_some_iff.1 h1).1;omega,o,h1,h2⟩
     base:=kS _
     boxes:=fun b bx hb=>by cases hb
     inj:=fun b c blk k k' hb=>absurd rfl hb
     fresh:=fun b blk k hb=>absurd rfl hb
     mW:=hI
     sep:=fun b bx blk k off hb=>by cases hb }
  obtain⟨_,zQ⟩:=xW l8 hc dc G2 n 0 f (iy G w.heap.size) ⟨I,fun _=>none⟩ (fun _=>none) mem' w (wL A x) args v rfl hm (DD hargs) h1;refine zQ.mono fun e w' hw=>?_;obtain⟨val,γ',rfl,m1,x1,r1⟩:=hw;refine⟨val,fun b o=>γ'.I b o∨(w.heap.size≤b∧b<w'.heap.size),rfl,x1.below.below,fun b o hi=>.inl (x1.I b o hi),fun b o hi=>?_,fun b o hi hn=>?_,?_⟩
  ·rcases hi with hi|hi
   ·exact m1.mW b o hi
   ·exact hi.2
  ·rcases hi with hi|hi
   ·exact ke.1 ((x1.mX b o hi).resolve_left hn)
   ·exact hi.1
  ·exact Cr (σ:=fO mem') m1 (fun b o hi=>.inl hi) (fun b o h1 h2=>.inr ⟨ke.1 h1,h2⟩) r1 hl
def Az(N M:List (Nat×Nat))(bs:List Nat)(ls:List (Option (Nat×Nat))):Nat→Option (Nat×Nat):=fo M ls (fo N (bs.map fun b=>some (b,0)) fun _=>none)
theorem NV{I:Nat→Nat→Prop}{N M:List (Nat×Nat)}{bs:List Nat}{ls:List (Option (Nat×Nat))}(hd:(aT N M).Nodup)(hM:M.length=ls.length):kj ⟨I,Az N M bs ls⟩ M ls:=by
 unfold aT at hd;exact qE (List.nodup_append.1 hd).2.1 hM
theorem NW{I:Nat→Nat→Prop}{N M:List (Nat×Nat)}{bs:List Nat}{ls:List (Option (Nat×Nat))}(hd:(aT N M).Nodup)(hN:N.length=bs.length):fK ⟨I,Az N M bs ls⟩ N bs:=by
 unfold aT at hd;obtain⟨h1,h2,h3⟩:=List.nodup_append.1 hd;have e:=qE (loc:=fun _=>none) h1 (ls:=bs.map fun b=>some (b,0)) (by simp[hN]);unfold fK;have e2:N.map (fun p=>(Az N M bs ls p.1).map (·.1))=(N.map fun p=>fo N (bs.map fun b=>some (b,0)) (fun _=>none) p.1).map (Option.map (·.1)):=by
  rw[Ef];refine FX fun p hp=>?_;show(fo M ls _ p.1).map _=_
  rw[uy fun hq=>h3 p.1 (List.mem_map.2 ⟨p,hp,rfl⟩) p.1 hq rfl];rfl
 exact e2.trans (by rw[e,Ef];rfl)
theorem LX{N M:List (Nat×Nat)}{bs:List Nat}{ls:List (Option (Nat×Nat))}(hN:fK γ N bs)(hM:kj γ M ls)(hd:(bL bs ls).Nodup){b c blk k k':Nat}(hb:b∈aT N M)(hc:c∈aT N M)
  (e1:γ.loc b=some (blk,k)) (e2:γ.loc c=some (blk,k')):b=c:=by
 unfold bL at hd;obtain⟨d1,d2,d3⟩:=List.nodup_append.1 hd;have LY:∀{b k},b∈N.map (·.1)→γ.loc b=some (blk,k)→∃i v:Nat,N[i]?=some (b,v)∧bs[i]?=some blk:=by
  intro b k hb e;obtain⟨p,hp,rfl⟩:=List.mem_map.1 hb;obtain⟨i,hi,OP⟩:=FW hp;refine⟨i,p.2,by rw[qV hi,OP],?_⟩;have:=congrArg (fun l=>l[i]?) hN;simp only[zb,qV hi,OP,wu,e] at this;cases hq:bs[i]? with
  | none=>rw[hq] at this;cases this
  | some x=>rw[hq] at this;simp at this;rw[this]
 have nO:∀{b k},b∈M.map (·.1)→γ.loc b=some (blk,k)→∃i v:Nat,M[i]?=some (b,v)∧ls[i]?=some (some (blk,k)):=by
  intro b k hb e;obtain⟨p,hp,rfl⟩:=List.mem_map.1 hb;obtain⟨i,hi,OP⟩:=FW hp;refine⟨i,p.2,by rw[qV hi,OP],?_⟩;rw[←hM,zb,qV hi,OP,wu,e]
 have hmem:∀{i k:Nat},ls[i]?=some (some (blk,k))→blk∈ls.filterMap fun L=>L.map (·.1):=fun h=>List.mem_filterMap.2 ⟨_,D5 h,rfl⟩;unfold aT at hb hc;rcases List.mem_append.1 hb with hb|hb<;>rcases List.mem_append.1 hc with hc|hc
 ·obtain⟨i,v,i1,i2⟩:=LY hb e1;obtain⟨j,v',j1,j2⟩:=LY hc e2;have hij:i=j:=(List.getElem?_inj (List.getElem?_eq_some_iff.1 i2).1 d1).1 (i2.trans j2.symm);subst hij;rw[i1] at j1;exact(cr (ax j1)).1
 ·obtain⟨i,v,i1,i2⟩:=LY hb e1;obtain⟨j,v',j1,j2⟩:=nO hc e2;exact absurd rfl (d3 blk (D5 i2) blk (hmem j2))
 ·obtain⟨i,v,i1,i2⟩:=nO hb e1;obtain⟨j,v',j1,j2⟩:=LY hc e2;exact absurd rfl (d3 blk (D5 j2) blk (hmem i2))
 ·obtain⟨i,v,i1,i2⟩:=nO hb e1;obtain⟨j,v',j1,j2⟩:=nO hc e2;have hij:=Lj d2 i2 j2;subst hij;rw[i1] at j1;exact(cr (ax j1)).1
theorem AA{k:Nat}:∀{n:Nat},(jd k n).length=n:=by
 intro n;induction n generalizing k with
 | zero=>rfl
 | succ n ih=>simp[jd,ih]
theorem AB{k:Nat}:∀{n:Nat},(kZ k n).length=n:=by
 intro n;induction n generalizing k with
 | zero=>rfl
 | succ n ih=>simp[kZ,ih]
theorem Jv:∀{a k b:Nat},(jd k (a+b)).drop a=jd (k+a) b:=by
 intro a;induction a with
 | zero=>intro k b;rw[oY];rfl
 | succ a ih =>
   intro k b;rw[show a+1+b=(a+b)+1 by omega];show(jd (k+1) (a+b)).drop a=_
   rw[ih,show k+1+a=k+(a+1) by omega]
theorem Jw:∀{a k b:Nat},(kZ k (a+b)).drop a=kZ (k+a) b:=by
 intro a;induction a with
 | zero=>intro k b;rw[oY];rfl
 | succ a ih =>
   intro k b;rw[show a+1+b=(a+b)+1 by omega];show(kZ (k+1) (a+b)).drop a=_
   rw[ih,show k+1+a=k+(a+1) by omega]
def G3:OT→Nat→ay
 | .pair o U,k=>.mix (.ptr (uZ k) 0 []) (G3 U (k+o.nr))
 | _,_=>.data .unit ()
theorem G4{mem:Nat→Option aY}:∀{ps:List Bool} {A:Ty} {U:OT} {x:A.den} {u:U.den} {xs en:List Value} {k m:Nat},Cc w γ.I ps A U x xs en→bH γ mem w (zl U u (jd k U.nr) (kZ m U.nb)) .cells en →
  ij γ mem w (u5 ps U A x k) xs∧zl U u (jd k U.nr) (kZ m U.nb)=G3 U k:=by
 intro ps;induction ps with
 | nil =>
   intro A U x u xs en k m h hr;obtain⟨_,rfl,rfl,_⟩:=h;exact⟨⟨rfl,fun i v y hv=>by cases hv⟩,rfl⟩
 | cons p ps ih =>
   intro A U x u xs en k m h hb;cases p with
   | false =>
     cases A<;>first|(exact(show False from h).elim)|skip
     rename_i t A;obtain⟨cs,rest,rfl,h1,h2⟩:=h;obtain⟨this,hc⟩:=ih h2 hb;refine⟨⟨by simp[u5,this.1],fun i v y hv hy=>?_⟩,hc⟩;cases i with
     | zero =>
       obtain rfl:=ax hv;obtain rfl:=ax hy;exact⟨cs,h1,rfl⟩
     | succ i=>exact this.2 i v y (by simpa [u5] using hv) (by simpa using hy)
   | true =>
     cases U<;>first|(exact(show False from h).elim)|skip
     rename_i o U;cases o<;>first|(exact(show False from h).elim)|skip
     rename_i tid o;obtain⟨val,rest,r,rfl,rfl,h1⟩:=h;have e1:zl (.pair (.ref tid o) U) u (jd k (OT.pair (.ref tid o) U).nr) (kZ m (OT.pair (.ref tid o) U).nb)=.mix (.ptr (uZ k) 0 []) (zl U u.2 (jd (k+(OT.ref tid o).nr) U.nr) (kZ (m+(OT.ref tid o).nb) U.nb)):=by
      rw[←Jv,←Jw];show ay.mix (zl (.ref tid o) u.1 _ _) _=_
      congr 1
      show(match(jd k (o.nr+1+U.nr)).take (o.nr+1) with|(b,v)::_=>ay.ptr b v []|[]=>.undef)=_
      rw[show o.nr+1+U.nr=(o.nr+U.nr)+1 by omega];rfl
     rw[e1] at hb⊢;obtain⟨c1,c2,e2,v1,v2⟩:=hb;obtain⟨v,rfl⟩:∃v,c1=[v]:=by obtain⟨⟨v,e,_⟩,_⟩:=v1;exact⟨v,e⟩
     obtain⟨rfl,rfl⟩:=KP e2;obtain⟨this,hc⟩:=ih h1 v2;refine⟨⟨by simp[u5,this.1],fun i v' y hv hy=>?_⟩,?_⟩
     ·cases i with
      | zero =>
        obtain rfl:=ax hv;obtain rfl:=ax hy;exact v1
      | succ i=>exact this.2 i v' y (by simpa [u5] using hv) (by simpa using hy)
     ·rw[hc];rfl
theorem G5{mem:Nat→Option aY}:∀{U:OT} {k:Nat} {u:U.den} {N M:List (Nat×Nat)},Eo mem U k=some (u,N,M)→cj mem U (G3 U k)=some (u,N,M):=by
 intro U;induction U with
 | pair o U _ UR =>
   intro k u N M h;unfold Eo at h;split at h
   ·rename_i x N1 M1 y N2 M2 h1 h2;cases h;exact wY h1 (UR h2)
   ·cases h
 | unit=>intro k u N M h;cases h;rfl
 | _=>intro k u N M h;cases h
theorem Jx:∀{a b:List (Nat×Nat)},CS a b=true→a=b:=by
 intro a;induction a with
 | nil=>intro b h;cases b with|nil=>rfl|cons _ _=>cases h
 | cons p r ih =>
   intro b h;obtain⟨x,y⟩:=p;cases b with
   | nil=>cases h
   | cons q s =>
     obtain⟨z,v⟩:=q;simp only[CS,cP] at h;rw[dz h.1.1,dz h.1.2,ih h.2]
theorem Jy:∀{n k:Nat} {p:Nat×Nat},p∈jd k n→p.2=0:=by
 intro n;induction n with
 | zero=>intro k p h;cases h
 | succ n ih =>
   intro k p h;rcases List.mem_cons.1 h with rfl|h
   ·rfl
   ·exact ih h
theorem DF:∀{a b:List Nat},a.map some=b.map some→a=b:=by
 intro a;induction a with
 | nil=>intro b h;cases b with|nil=>rfl|cons _ _=>cases h
 | cons x r ih =>
   intro b h;cases b with
   | nil=>cases h
   | cons y s =>
     simp only[mT,IJ,jU] at h;rw[h.1,ih h.2]
theorem G6{mem:Nat→Option aY}:∀{u:ay} {vs:List Value},bH γ mem w u .many vs→ij γ mem w (uX u) vs:=by
 intro u;induction u with
 | mix p q pY pg =>
   intro vs h;obtain⟨v,r,rfl,h1,h2⟩:=h;have:=pg h2;refine⟨by simp[uX,this.1],fun i v' y hv hy=>?_⟩;cases i with
   | zero =>
     obtain rfl:=ax hv;obtain rfl:=ax hy;exact h1
   | succ i=>exact this.2 i v' y (by simpa [uX] using hv) (by simpa using hy)
 | nl=>intro vs h;rw[show vs=[] from h];exact⟨rfl,fun i v y hv=>by cases hv⟩
 | _=>intro vs h;exact(show False from h).elim
theorem G7{I:Nat→Nat→Prop}:∀{R:Ty} {y:R.den} {vs:List Value},fC w I R y vs→bH ⟨I,fun _=>none⟩ (fun _=>none) w (rI R y) .many vs:=by
 intro R;induction R with
 | pair t r F3 ihr =>
   intro y vs h;obtain⟨cs,rest,rfl,h1,h2⟩:=h;exact⟨_,rest,rfl,⟨cs,h1,rfl⟩,ihr h2⟩
 | unit=>intro y vs h;exact h
 | _=>intro y vs h;exact h.elim
theorem Fk{mem:Nat→Option aY}{v:ay}{x:Value}(h:bH γ mem w v .val [x]):ij γ mem w [v] [x]:=by
 refine⟨rfl,fun i v' y hv hy=>?_⟩;cases i with
 | zero =>
   obtain rfl:=ax hv;obtain rfl:=ax hy;exact h
 | succ i=>cases hv
theorem G8{mem:Nat→Option aY}{R:Ty}{v:ay}{val:Value}(hv:bH γ mem w v .val [val]) :
  ∃xs,ij γ mem w (uY R v) xs∧∀(I:Nat→Nat→Prop) (y:R.den),fC w I R y xs→iM w I R y val:=by
 have other:∀{R:Ty},(∀t,R≠.pair t .unit)→(∀y,nJ R y=.om (rI R y))→∃xs,ij γ mem w (match v with|.om v=>uX v|v=>[v]) xs∧∀(I:Nat→Nat→Prop) (y:R.den),fC w I R y xs→iM w I R y val:=by
  intro R hne hres;have one:ij γ mem w [v] [val]→∃xs,ij γ mem w [v] xs∧∀(I:Nat→Nat→Prop) (y:R.den),fC w I R y xs→iM w I R y val:=by
   intro h1;refine⟨[val],h1,fun I y h=>?_⟩;exfalso;cases R with
   | pair t r =>
     obtain⟨cs,rest,e,_,h2⟩:=h;obtain⟨_,rfl⟩:=KP e;cases r with
     | unit=>exact hne t rfl
     | pair a b=>obtain⟨_,_,e2,_⟩:=h2;cases e2
     | _=>exact h2.elim
   | unit=>cases (show [val]=[] from h)
   | _=>exact h.elim
  cases v with
  | om u =>
    obtain⟨arr,h1,h2⟩:=hv;refine⟨arr.toList,G6 h2,fun I y h=>?_⟩;unfold iM;rw[hres];exact⟨arr,h1,G7 h⟩
  | _=>exact one (Fk hv)
 cases R with
 | pair t r =>
   cases r with
   | unit =>
     refine⟨[val],by cases v<;>exact Fk hv,fun I y h=>?_⟩;obtain⟨cs,rest,e,h1,h2⟩:=h;obtain⟨rfl,_⟩:=KP e;exact⟨cs,h1,rfl⟩
   | _ =>
     cases v<;>exact other (fun t' e=>by cases e) (fun y=>rfl)
 | _ =>
   cases v<;>exact other (fun t' e=>by cases e) (fun y=>rfl)
theorem BF(l8:P.follows .mixedOrders=true)(hc:eo P cx){G:eH}(dc:jP P G cx)(G2:Fi cx){cG:Nat→pV}{n f:Nat}{ps:List Bool}{A:Ty}{U:OT}{R:Ty}{spec:A.den×U.den→Option (R.den×U.den)}
  {fn:Func} {code:Code} (hfn:find cx.fns f=some fn) (hbody:fn.body=some code) (h:∀x y,spec x=some y→Pe cx n cG f ps A U R x=some y):cH P G f ⟨ps,A,U,R,spec⟩ where
 body:=by
  have hok:=G2 f fn hfn;simp only[Jt,hbody,cP,iE] at hok;exact⟨fn,code,hc.fns f fn hfn,hok.1,hbody⟩
 calls:=by
  intro I w args en bs ls x u y hI hG Sw hargs LZ hnd hspec;have hs:=h (x,u) y hspec;unfold Pe at hs;obtain⟨r,h1,h2⟩:=bind_some hs;obtain⟨v,mem'⟩:=r;obtain⟨y1,y2⟩:=y;have hg:∃σ1 M,gM (fO mem') R (uY R v)=some (y1,σ1)∧Eo σ1.mem U 0=some (y2,jd 0 U.nr,M)∧(aT (jd 0 U.nr) M).Nodup∧(aT (jd 0 U.nr) (kZ 0 U.nb)).Nodup:=by
   dsimp only at h2;split at h2
   ·rename_i y' σ1 hy';split at h2
    ·rename_i u' N M Nv;obtain⟨h3,h4⟩:=aq h2;simp only[cP] at h3;obtain rfl:=Jx h3.1.1;cases h4;exact⟨σ1,M,hy',Nv,wU.1 h3.1.2,wU.1 h3.2⟩
    ·cases h2
   ·cases h2
  obtain⟨σ1,M1,hg1,US,hd1,hd0⟩:=hg;have hlen:=LZ.len;have hNb:fK ⟨I,Az (jd 0 U.nr) (kZ 0 U.nb) bs ls⟩ (jd 0 U.nr) bs:=NW hd0 (by rw[AA,hlen.1]);have Sx:kj ⟨I,Az (jd 0 U.nr) (kZ 0 U.nb) bs ls⟩ (kZ 0 U.nb) ls:=NV hd0 (by rw[AB,hlen.2]);have hin:xM (fI U u (jd 0 U.nr) (kZ 0 U.nb)) U u (jd 0 U.nr) (kZ 0 U.nb):=EG AA AB hd0 fun c bx NX=>NX;have Gp:∀{c bx},fI U u (jd 0 U.nr) (kZ 0 U.nb) c=some bx→_:=fun {c bx} NX=>Cd (γ:=⟨I,Az (jd 0 U.nr) (kZ 0 U.nb) bs ls⟩) LZ hNb Sx hin NX;have hm:aV ⟨w.heap.size,(·∈bL bs ls),G⟩ ⟨I,Az (jd 0 U.nr) (kZ 0 U.nb) bs ls⟩ (fI U u (jd 0 U.nr) (kZ 0 U.nb)) w :=
   { bG:=fun b Q g=>by
      obtain⟨o,h1,h2⟩:=hG b Q g;refine⟨fun hb=>?_,o,h1,h2⟩;have:=(Array.getElem?_eq_some_iff.1 h1).1;rcases hb with hb|hb
      ·exact absurd this (by have hb':w.heap.size≤b:=hb;omega)
      ·exact Sw b Q g hb
     base:=kS _
     boxes:=fun b bx hb=>(Gp hb).1
     inj:=fun b c blk k k' hb NX e1 e2=>by
      obtain⟨bx,jW⟩:=Option.ne_none_iff_exists'.1 hb;obtain⟨Tq,D4⟩:=Option.ne_none_iff_exists'.1 NX;exact LX hNb Sx hnd (jH jW) (jH D4) e1 e2
     fresh:=fun b blk k hb e1=>by
      obtain⟨bx,jW⟩:=Option.ne_none_iff_exists'.1 hb;obtain⟨_,_,g⟩:=Gp jW;obtain⟨g1,⟨z,g2⟩,_⟩:=g blk k e1;exact⟨.inr g1,(Array.getElem?_eq_some_iff.1 g2).1⟩
     mW:=hI
     sep:=fun b bx blk k off hb e1 hi=>by
      obtain⟨_,_,g⟩:=Gp hb;exact absurd hi ((g blk k e1).2.2 off) }
  have rR:=H7 (γ:=⟨I,Az (jd 0 U.nr) (kZ 0 U.nb) bs ls⟩) LZ hNb Sx hin;obtain⟨hv,hchain⟩:=G4 (γ:=⟨I,Az (jd 0 U.nr) (kZ 0 U.nb) bs ls⟩) hargs rR;rw[hchain] at rR;obtain⟨_,zQ⟩:=xW l8 hc dc G2 n 0 f ⟨w.heap.size,(·∈bL bs ls),G⟩ ⟨I,Az (jd 0 U.nr) (kZ 0 U.nb) bs ls⟩ (fI U u (jd 0 U.nr) (kZ 0 U.nb)) mem' w (u5 ps U A x 0) args v rfl hm hv h1;refine zQ.mono fun e w' hw=>?_;obtain⟨val,γ',rfl,m1,x1,r1⟩:=hw;obtain⟨xs,u1,u2⟩:=G8 (R:=R) r1;have G9:bZ ⟨w.heap.size,(·∈bL bs ls),G⟩ 0 γ' (fO mem') { tmps:=#[],defers:=[] } w' :=
   { slots:=fun t=>⟨_,rfl⟩
     size:=rfl
     defers:=rfl
     ok:=m1 }
  obtain⟨tG,s1,s2,s3⟩:=lI G9 u1 hg1;have xx:=x1.trans s2;obtain⟨bs',k1,k2,k3⟩:=Ce s1.ok (rR.ext xx) (G5 US);have UT:bs'=bs:=by
   unfold fK at k1 hNb;have:(jd 0 U.nr).map (fun p=>(tG.loc p.1).map (·.1))=(jd 0 U.nr).map (fun p=>(Az (jd 0 U.nr) (kZ 0 U.nb) bs ls p.1).map (·.1)):=by
    refine FX fun p hp=>?_;obtain⟨fM,j1,j2,_⟩:=k3 p (tC _ hp);obtain⟨cc,jW⟩:=wW (u:=u) (AA (k:=0) (n:=U.nr)) (AB (k:=0) (n:=U.nb)) (tC _ (List.mem_map.2 ⟨p,hp,rfl⟩));obtain⟨oH,q1,q2,q3⟩:=xx.boxes _ cc jW;rw[j1] at q1;obtain rfl:=ax q1;have VC:p.2=0:=Jy hp;rw[(q3 (by omega)).1]
   rw[this,hNb] at k1;exact(DF k1).symm
  subst UT;refine⟨val,tG.I,_,rfl,xx.below,xx.I,s1.ok.mW,fun b o hi hn=>(xx.mX b o hi).resolve_left hn,u2 _ _ s3,k2,xN s1.ok k1 k3 hd1,fun blk hb=>?_⟩;obtain⟨b,k,⟨bx,j1⟩,j2⟩:=Cg k1 k3 (blk:=blk) (by unfold bL at hb⊢;exact sK _ (by simpa using hb));rcases(s1.ok.fresh b blk k (by rw[j1];simp) j2).1 with q|q
  ·exact .inr q
  ·exact .inl q
end
end Go.Ge
namespace Go.Ge
open RowKit ChangeShapes
def BG{α:Type}(f:α→Nat):List α→Nat
 | []=>0
 | x::r=>f x+BG f r
def Ty.bulk:(t:Ty)→t.den→Nat
 | .int _,_=>1
 | .bool,_=>1
 | .str,s=>List.length (α:=UInt8) s+1
 | .slice e,l=>BG e.bulk l+1
 | .arr _ e,l=>BG e.bulk l
 | .pair a b,x=>a.bulk x.1+b.bulk x.2
 | .unit,_=>0
 | .alt _ _ _,_=>0
 | .td,_=>0
def Ty.tN:Ty→Bool
 | .slice e=>e.tN
 | .arr _ e=>e.tN
 | .pair a b=>a.tN&&b.tN
 | .alt _ _ _=>false
 | .td=>false
 | _=>true
structure AD {H:Type} (bulk:DataW H→Nat) (all:List (DataW H)→Nat):Prop where
 lit:∀l,1≤bulk (.lit l)
 str:∀s,bulk (.lit (.string s))=s.length+1
 nil:1≤bulk .nil
 slice:∀e s,bulk (.slice e s)=all e+all s+1
 agg:∀p,bulk (.agg p)=all p+1
 none:all []=0
 cons:∀d r,all (d::r)=bulk d+all r
theorem sY{α β:Type}{f:α→Option β}:∀{l:List α} {ys:List β},l.mapM f=some ys→ys.length=l.length∧∀(i:Nat) x,l[i]?=some x→f x=ys[i]?:=by
 intro l;induction l with
 | nil=>intro ys h;obtain rfl:=ax (show some []=some ys by simpa using h);exact⟨rfl,fun i x hx=>by cases hx⟩
 | cons a l ih =>
   intro ys h;rw[HQ] at h;obtain⟨y,h1,h2⟩:=Option.bind_eq_some_iff.1 h;obtain⟨zs,h3,h4⟩:=Option.bind_eq_some_iff.1 h2;obtain rfl:y::zs=ys:=ax h4;obtain⟨k1,k2⟩:=ih h3;refine⟨by simp[k1],fun i x hx=>?_⟩;cases i with
   | zero=>obtain rfl:=ax hx;exact h1
   | succ i=>exact k2 i x (by simpa using hx)
theorem xX{α β:Type}{R:Nat→α→β→Prop}:∀{ys:List β} {k:Nat},(∀i y,ys[i]?=some y→∃x,R (k+i) x y)→∃xs:List α,xs.length=ys.length∧∀i x y,xs[i]?=some x→ys[i]?=some y→R (k+i) x y:=by
 intro ys;induction ys with
 | nil=>intro k _;exact⟨[],rfl,fun i x y h=>by cases h⟩
 | cons y ys ih =>
   intro k h;obtain⟨x,hx⟩:=h 0 y rfl;obtain⟨xs,h1,h2⟩:=ih (k:=k+1) fun i y hy=>by
    have:=h (i+1) y (by simpa using hy)
    rwa [show k+(i+1)=k+1+i by omega] at this
   refine⟨x::xs,by simp[h1],fun i x' y' hx' hy'=>?_⟩;cases i with
   | zero=>obtain rfl:=ax hx';obtain rfl:=ax hy';exact hx
   | succ i =>
     rw[show k+(i+1)=k+1+i by omega];exact h2 i x' y' (by simpa using hx') (by simpa using hy')
theorem Ig{α β:Type}{f:α→Nat}{g:β→Nat}:∀{xs:List α} {ys:List β},xs.length=ys.length→(∀(i:Nat) x y,xs[i]?=some x→ys[i]?=some y→f x≤g y)→BG f xs≤BG g ys:=by
 intro xs;induction xs with
 | nil=>intro ys _ _;exact oZ _
 | cons x xs ih =>
   intro ys hl h;cases ys with
   | nil=>cases hl
   | cons y ys =>
     have h1:=h 0 x y rfl rfl;have h2:=ih (ys:=ys) (by simpa using hl) fun i x y hx hy=>h (i+1) x y (by simpa using hx) (by simpa using hy);simp only[BG];omega
section
variable {H:Type} {enc:TypeId×Value→H} {P:Program} {w:World} {held:Bool} {bulk:DataW H→Nat} {all:List (DataW H)→Nat}
theorem Ih(hb:AD bulk all){β:Type}(f:β→DataW H):∀l:List β,all (l.map f)=BG (fun y=>bulk (f y)) l:=by
 intro l;induction l with
 | nil=>exact hb.none
 | cons y l ih=>rw[mT,hb.cons,ih];rfl
def old(w:World):Nat→Nat→Prop:=fun b _=>b<w.heap.size
theorem xY{a:Addr}{n:Nat}{cs:List Value}(h:w.cells? 0 a n=some cs):cs.length=n∧∀j,j<n→w.cell? (a.add j)=cs[j]?:=by
 unfold World.cells? at h;rw[ek (oZ _)] at h;obtain⟨h1,h2⟩:=sY h;refine⟨by simpa using h1,fun j hj=>h2 j j ?_⟩;simp[hj]
theorem Fl{b o:Nat}{v:Value}{sp:Option Nat}(h:w.cell? ⟨b,o,sp⟩=some v):b<w.heap.size∧sp=none:=by
 unfold World.cell? at h;split at h
 ·rename_i c t f hg;refine⟨(Array.getElem?_eq_some_iff.1 hg).1,?_⟩;split at h
  ·cases h
  ·rename_i hs;cases sp with
   | none=>rfl
   | some s=>exact absurd rfl hs
 ·cases h
theorem L0(hb:AD bulk all):∀{t:Ty},t.tN=true →
  (∀{fuel tid:Nat} {cs:List Value} {d:DataW H} {ps:List MemPlace},Den P t tid→DataW.trod enc P w 0 (fun _=>true) held fuel tid cs=some (d,ps)→∃x:t.den,bt w (old w) t x cs∧t.bulk x≤bulk d) ∧
  (∀{fuel off:Nat} {fs:List Field} {cs:List Value} {xs:List (DataW H×List MemPlace)},jV P t off fs→(fs.mapM fun f=>DataW.trod enc P w 0 (fun _=>true) held fuel f.type ((cs.drop f.offset).take (P.cellsOf f.type)))=some xs →
   cs.length=off+t.size→∃x:t.den,bt w (old w) t x (cs.drop off)∧t.bulk x≤all (xs.map (·.1))):=by
 intro t;induction t with
 | int k =>
   intro hna;refine⟨fun {fuel tid cs d ps} hd h=>?_,fun hd=>by simp[jV,eE] at hd⟩;cases fuel with
   | zero=>cases h
   | succ fuel =>
     simp only[DataW.trod,hd.int] at h;split at h<;>first|(exfalso;simp_all;done)|skip
     rename_i k0 k' n hk;split at h
     ·rename_i hc;obtain⟨rfl,rfl⟩:=cr (ax h);injection hk with hk;injection hk with hk;subst hk
      obtain⟨rfl,hwf⟩:=hc;simp only[Lit.wf,cP,A8] at hwf;exact⟨(n:Int),⟨rfl,hwf.1,hwf.2⟩,hb.lit _⟩
     ·cases h
 | bool =>
   intro hna;refine⟨fun {fuel tid cs d ps} hd h=>?_,fun hd=>by simp[jV,eE] at hd⟩;cases fuel with
   | zero=>cases h
   | succ fuel =>
     simp only[DataW.trod,hd.bool] at h;split at h<;>first|(exfalso;simp_all;done)|skip
     rename_i b _;obtain⟨rfl,rfl⟩:=cr (ax h);exact⟨b,rfl,hb.lit _⟩
 | str =>
   intro hna;refine⟨fun {fuel tid cs d ps} hd h=>?_,fun hd=>by simp[jV,eE] at hd⟩;cases fuel with
   | zero=>cases h
   | succ fuel =>
     simp only[DataW.trod,hd.str] at h;split at h<;>first|(exfalso;simp_all;done)|skip
     rename_i s _;split at h
     ·rename_i hs;obtain⟨rfl,rfl⟩:=cr (ax h);refine⟨s.data.toList,⟨?_,?_⟩,?_⟩
      ·rfl
      ·have:List.length (α:=UInt8) s.data.toList=s.size:=Ku;rw[this];exact hs
      ·rw[hb.str];exact kS _
     ·cases h
 | slice e ih =>
   intro hna;have ih:=ih hna;refine⟨fun {fuel tid cs d ps} hd h=>?_,fun hd=>by simp[jV,eE] at hd⟩;obtain⟨cq,h1,h2,h3,h4⟩:=hd.slice;cases fuel with
   | zero=>cases h
   | succ fuel =>
     simp only[DataW.trod,h1] at h;split at h<;>first|(exfalso;simp_all;done)|skip
     ·obtain⟨rfl,rfl⟩:=cr (ax h);exact⟨([]:List e.den),.inl ⟨⟨none,rfl⟩,rfl⟩,hb.nil⟩
     ·rename_i e' a len cap he;injection he with he;injection he with he;subst he
      split at h
      case isFalse=>cases h
      rename_i hc;obtain⟨RL,Su,RF⟩:=hc;obtain⟨elems,g1,g2⟩:=Option.bind_eq_some_iff.1 h;obtain⟨rest,g3,g4⟩:=Option.map_eq_some_iff.1 g2;obtain⟨rfl,rfl⟩:=cr g4;simp only[jr] at g3;obtain⟨k1,k2⟩:=sY g1;obtain⟨m1,m2⟩:=sY g3;simp only[List.length_range] at k1 m1;rw[h2.cells] at k2 m2;by_cases hcap:cap=0
      ·subst hcap;obtain rfl:len=0:=by omega
       exact⟨([]:List e.den),.inl ⟨⟨some a,rfl⟩,rfl⟩,by rw[hb.slice];simp[Ty.bulk,BG]⟩
      ·
       have gi:∃y,(w.cells? 0 a e.size).bind (DataW.trod enc P w 0 (fun _=>true) held fuel cq)=some y:=by
        by_cases hlen:len=0
        ·have:=m2 0 0 (Nb (by omega));have hlt:0<rest.length:=by omega
         rw[qV hlt] at this;rw[hlen] at this;simp only[oY,Ee] at this;exact⟨_,by rw[←this];simp[Addr.add]⟩
        ·have:=k2 0 0 (Nb (by omega));have hlt:0<elems.length:=by omega
         rw[qV hlt] at this;simp only[Ee] at this;exact⟨_,by rw[←this];simp[Addr.add]⟩
       obtain⟨y,hy⟩:=gi;obtain⟨es,MZ,_⟩:=Option.bind_eq_some_iff.1 hy;obtain⟨z1,z2⟩:=xY MZ;have z3:=z2 0 h4;rw[qV (by omega)] at z3;have L1:a.spot=none:=by
        have:a.add 0=a:=by simp[Addr.add]
        rw[this] at z3;obtain⟨blk,off,sp⟩:=a;exact(Fl z3).2
       obtain⟨blk,off,sp⟩:=a;dsimp only at L1;subst L1;obtain⟨xs,x1,x2⟩:=xX (R:=fun i (x:e.den) (y:DataW H×List MemPlace)=>(∃es:List Value,es.length=e.size ∧
         (∀(j:Nat) v,es[j]?=some v→w.cell? ⟨blk,off+i*e.size+j,none⟩=some v∧old w blk (off+i*e.size+j))∧bt w (old w) e x es)∧e.bulk x≤bulk y.1) (ys:=elems) (k:=0) fun i y hi=>by
        have hlt:=(List.getElem?_eq_some_iff.1 hi).1;have:=k2 i i (Nb (by omega));rw[hi] at this;obtain⟨es,q1,q2⟩:=Option.bind_eq_some_iff.1 this;rw[addr_add] at q1;obtain⟨q3,q4⟩:=xY q1;obtain⟨x,r1,r2⟩:=ih.1 (d:=y.1) (ps:=y.2) h2 q2;refine⟨x,⟨es,q3,fun j v hv=>?_,r1⟩,r2⟩;have hj:=(List.getElem?_eq_some_iff.1 hv).1;have:=q4 j (by omega);rw[addr_add,hv] at this;rw[oY];exact⟨this,(Fl this).1⟩
       refine⟨xs,.inr ⟨blk,off,cap,?_,?_,RF,fun i x hx=>?_⟩,?_⟩
       ·show [Value.slice _ len cap]=[Value.slice _ (List.length (α:=e.den) xs) cap]
        rw[x1,k1]
       ·show List.length (α:=e.den) xs≤cap
        rw[x1,k1];exact Su
       ·have hx':xs[i]?=some x:=hx;have hlt:=(List.getElem?_eq_some_iff.1 hx').1;obtain⟨y,hy⟩:∃y,elems[i]?=some y:=⟨_,qV (by omega)⟩;have:=(x2 i x y hx' hy).1;rw[oY] at this;exact this
       ·rw[hb.slice,Ih hb];have:=Ig (f:=e.bulk) (g:=fun y:DataW H×List MemPlace=>bulk y.1) x1 fun i x y hx hy=>(x2 i x y hx hy).2;show BG e.bulk xs+1≤_
        omega
 | arr n e ih =>
   intro hna;have ih:=ih hna;refine⟨fun {fuel tid cs d ps} hd h=>?_,fun hd=>by simp[jV,eE] at hd⟩;obtain⟨cq,h1,h2,h4⟩:=hd.arr;cases fuel with
   | zero=>cases h
   | succ fuel =>
     simp only[DataW.trod,h1] at h;split at h
     case isFalse=>cases h
     rename_i hc;obtain⟨ys,g1,g2⟩:=Option.map_eq_some_iff.1 h;obtain⟨rfl,rfl⟩:=cr g2;obtain⟨k1,k2⟩:=sY g1;simp only[List.length_range] at k1;rw[h2.cells] at k2;obtain⟨xs,x1,x2⟩:=xX (R:=fun i (x:e.den) (y:DataW H×List MemPlace)=>bt w (old w) e x ((cs.drop (i*e.size)).take e.size)∧e.bulk x≤bulk y.1) (ys:=ys) (k:=0) fun i y hi=>by
      have hlt:=(List.getElem?_eq_some_iff.1 hi).1;have:=k2 i i (Nb (by omega));rw[hi] at this;obtain⟨x,r1,r2⟩:=ih.1 (d:=y.1) (ps:=y.2) h2 this;exact⟨x,by rw[oY];exact r1,r2⟩
     refine⟨xs,⟨?_,?_,fun i x hx=>?_⟩,?_⟩
     ·show List.length (α:=e.den) xs=n
      rw[x1,k1]
     ·rw[hc,hd.cells];rfl
     ·have hx':xs[i]?=some x:=hx;have hlt:=(List.getElem?_eq_some_iff.1 hx').1;obtain⟨y,hy⟩:∃y,ys[i]?=some y:=⟨_,qV (by omega)⟩;have:=(x2 i x y hx' hy).1;rw[oY] at this;exact this
     ·rw[hb.agg,Ih hb];have:=Ig (f:=e.bulk) (g:=fun y:DataW H×List MemPlace=>bulk y.1) x1 fun i x y hx hy=>(x2 i x y hx hy).2;show BG e.bulk xs≤_
      omega
 | pair a b gy iu =>
   intro hna;simp only[Ty.tN,cP] at hna;have gy:=gy hna.1;have iu:=iu hna.2;have chain:∀{fuel off:Nat} {fs:List Field} {cs:List Value} {xs:List (DataW H×List MemPlace)},jV P (.pair a b) off fs→(fs.mapM fun f=>DataW.trod enc P w 0 (fun _=>true) held fuel f.type ((cs.drop f.offset).take (P.cellsOf f.type)))=some xs →
     cs.length=off+(Ty.pair a b).size→∃x:(Ty.pair a b).den,bt w (old w) (.pair a b) x (cs.drop off)∧(Ty.pair a b).bulk x≤all (xs.map (·.1)):=by
    intro fuel off fs cs xs hd h hl;obtain⟨f,r,rfl,f1,_,f2,f3,f4⟩:=hd.cons;rw[HQ] at h;obtain⟨y,g1,g2⟩:=Option.bind_eq_some_iff.1 h;obtain⟨ys,g3,g4⟩:=Option.bind_eq_some_iff.1 g2;obtain rfl:y::ys=xs:=ax g4;rw[f1,f2.cells] at g1;obtain⟨x1,p1,p2⟩:=gy.1 (d:=y.1) (ps:=y.2) f2 g1;obtain⟨x2,q1,q2⟩:=iu.2 f4 g3 (by simp only[Ty.size] at hl;omega);refine⟨(x1,x2),⟨_,_,?_,p1,q1⟩,?_⟩
    ·rw[←qm,A6]
    ·rw[mT,hb.cons];show a.bulk x1+b.bulk x2≤_
     omega
   refine⟨fun {fuel tid cs d ps} hd h=>?_,chain⟩;obtain⟨fs,h1,h2,_⟩:=hd.pair;cases fuel with
   | zero=>cases h
   | succ fuel =>
     simp only[DataW.trod,h1] at h;split at h
     case isFalse=>cases h
     rename_i hc;obtain⟨ys,g1,g2⟩:=Option.map_eq_some_iff.1 h;obtain⟨rfl,rfl⟩:=cr g2;rw[hd.cells] at hc;obtain⟨x,r1,r2⟩:=chain h2 g1 (by rw[hc,oY]);exact⟨x,by simpa using r1,by rw[hb.agg];omega⟩
 | alt u a r gy ihr=>intro hna;cases hna
 | td=>intro hna;cases hna
 | unit =>
   intro hna;refine⟨fun hd=>by simp[Den,eE] at hd,fun {fuel off fs cs xs} hd h hl=>?_⟩;exact⟨(),by show cs.drop off=[];rw[List.drop_eq_nil_iff];simp[Ty.size] at hl;omega,oZ _⟩
end
end Go.Ge
namespace Go.Ge
open RowKit ChangeShapes WideShapes
def He(P:Program):Ty→List TypeId→Prop
 | .pair t r,tid::ts=>Den P t tid∧He P r ts
 | .unit,[]=>True
 | _,_=>False
section
variable {H:Type} {enc:TypeId×Value→H} {P:Program} {w:World} {held:Bool} {bulk:DataW H→Nat} {all:List (DataW H)→Nat}
theorem Fm{t:Ty}{tid base:Nat}{v:Value}{x:t.den}(hna:t.tN=true)(hd:Den P t tid)(hv:Value.okWide P w .any base tid v)(hr:bt w (old w) t x v.cells.toList):v=bO t v.cells.toList:=by
 cases t with
 | int k=>obtain⟨n,rfl⟩:=okWide_int hd.int hv;rfl
 | bool=>obtain⟨b,rfl⟩:=okWide_bool hd.bool hv;rfl
 | str=>obtain⟨s,rfl⟩:=okWide_string hd.str hv;rfl
 | slice e=>obtain⟨cq,h1,_⟩:=hd.slice;obtain⟨a,len,cap,rfl⟩:=okWide_slice h1 hv;rfl
 | pair a b=>obtain⟨fs,h1,_⟩:=hd.pair;obtain⟨cs,rfl,_⟩:=okWide_struct h1 hv;simp[bO,Ty.isAgg,Value.cells]
 | arr n e =>
   obtain⟨cq,h1,_⟩:=hd.arr;unfold Value.okWide at hv;rw[h1] at hv;obtain⟨cs,rfl,_⟩:=hv;simp[bO,Ty.isAgg,Value.cells]
 | unit=>simp[Den,eE] at hd
 | alt u a r=>cases hna
 | td=>cases hna
theorem L2(hb:AD bulk all){base:Nat}:∀{A:Ty} {ts:List TypeId} {vs:List Value} {ds:List (DataW H)} {ps:List MemPlace},A.tN=true→He P A ts→DataW.TrodAll enc P w 0 (fun _=>true) held ts vs ds ps →
  (∀(j:Nat) t v,ts[j]?=some t→vs[j]?=some v→Value.okWide P w .any base t v)→∃x:A.den,fC w (old w) A x vs∧A.bulk x≤all ds:=by
 intro A;induction A with
 | pair t r F3 ihr =>
   intro ts vs ds ps hna hd h hval;simp only[Ty.tN,cP] at hna;cases ts with
   | nil=>exact hd.elim
   | cons tid ts =>
     obtain⟨h1,h2⟩:=hd;obtain⟨v,vs',d,ds',p,q,rfl,rfl,rfl,⟨fuel,hf⟩,hs⟩:=trodAll_cons h;obtain⟨x,r1,r2⟩:=(L0 hb hna.1).1 h1 hf;obtain⟨y,s1,s2⟩:=ihr hna.2 h2 hs fun j t v hj hv=>hval (j+1) t v (by simpa using hj) (by simpa using hv);refine⟨(x,y),⟨v.cells.toList,vs',?_,r1,s1⟩,?_⟩
     ·rw[←Fm hna.1 h1 (hval 0 tid v rfl rfl) r1]
     ·rw[hb.cons];show t.bulk x+r.bulk y≤_
      omega
 | unit =>
   intro ts vs ds ps hna hd h hval;cases ts with
   | nil =>
     obtain⟨rfl,rfl,rfl⟩:=trodAll_nil h;exact⟨(),rfl,oZ _⟩
   | cons tid ts=>exact hd.elim
 | _=>intro ts vs ds ps hna hd;exact hd.elim
theorem BH(hl:laidOutB P=true){W W':World}{sp:Nat→Bool}:∀{ts:List TypeId} {vs:List Value} {ds:List (DataW H)} {ps:List MemPlace},(∀t∈ts,P.readableRec t=true∧t<P.types.size) →
  DataW.TrodAll enc P W 0 (fun _=>true) true ts vs ds ps→(∀p∈ps,W.sameAt W' p)→(∀p∈ps,sp p.block=true)→DataW.TrodAll enc P W' 0 sp true ts vs ds ps:=by
 intro ts;induction ts with
 | nil=>intro vs ds ps _ h _ _;obtain⟨rfl,rfl,rfl⟩:=trodAll_nil h;rfl
 | cons t ts ih =>
   intro vs ds ps hr h hsame hsp;obtain⟨v,vs',d,ds',p,q,rfl,rfl,rfl,h1,h2⟩:=trodAll_cons h;refine⟨p,q,WideElems.Trod_stays hl (hr t (nG ..)).1 (hr t (nG ..)).2 h1 (fun x hx=>hsame x (tC _ hx)) (fun x hx=>hsp x (tC _ hx)),?_,rfl⟩;exact ih (fun t ht=>hr t (nF _ ht)) h2 (fun x hx=>hsame x (sK _ hx)) (fun x hx=>hsp x (sK _ hx))
def Ty.ok:(t:Ty)→t.den→Prop
 | .int k,n=>k.min≤(show Int from n)∧(show Int from n)≤k.max
 | .bool,_=>True
 | .str,s=>List.length (α:=UInt8) s≤maxLen
 | .slice e,l=>∀(i:Nat) (x:e.den),(show List e.den from l)[i]?=some x→e.ok x
 | .arr n e,l=>List.length (α:=e.den) l=n∧∀(i:Nat) (x:e.den),(show List e.den from l)[i]?=some x→e.ok x
 | .pair a b,x=>a.ok x.1∧b.ok x.2
 | .unit,_=>True
 | .alt _ _ _,_=>True
 | .td,_=>True
theorem bt.ok{I:Nat→Nat→Prop}:∀{t:Ty} {x:t.den} {cs:List Value},bt w I t x cs→t.ok x:=by
 intro t;induction t with
 | int k=>intro x cs h;exact h.2
 | bool=>intro x cs h;trivial
 | str=>intro x cs h;exact h.2
 | slice e ih =>
   intro x cs h i y hy;rcases h with ⟨_,h⟩|⟨blk,off,cap,h1,h2,h3,h4⟩
   ·rw[show(show List e.den from x)=[] from h] at hy;cases hy
   ·obtain⟨es,_,_,hr⟩:=h4 i y hy;exact ih hr
 | arr n e ih=>intro x cs h;exact⟨h.1,fun i y hy=>ih (h.2.2 i y hy)⟩
 | pair a b gy iu=>intro x cs h;obtain⟨c1,c2,_,h1,h2⟩:=h;exact⟨gy h1,iu h2⟩
 | unit=>intro x cs h;trivial
 | alt u a r=>intro x cs h;trivial
 | td=>intro x cs h;trivial
theorem fC.ok{I:Nat→Nat→Prop}:∀{A:Ty} {x:A.den} {xs:List Value},fC w I A x xs→A.ok x:=by
 intro A;induction A with
 | pair t r F3 ihr=>intro x xs h;obtain⟨cs,rest,_,h1,h2⟩:=h;exact⟨h1.ok,ihr h2⟩
 | unit=>intro x xs h;trivial
 | _=>intro x xs h;exact h.elim
theorem Jz(hb:AD bulk all)(hl:laidOutB P=true){fid tb:Nat}{fn:Func}{s:ChangeSpec}{A:Ty}{spec:A.den→Option (Ty.pair .bool .unit).den}{apart fresh handsOn:Bool}
  (ND:He P A fn.params.toList) (hread:∀t∈fn.params.toList,P.readableRec t=true∧t<P.types.size) (hres:fn.resultTypes=#[tb]) (htb:P.underlying tb=some .bool) (hsv:s.vars=[])
  (hs:∀ds:List (DataW H),ds.length=fn.params.toList.length→s.fn H ds={ results:=[.lit (.bool true)],args:=ds }) {G:eH} (hh:Holds P G fid ⟨A,.pair .bool .unit,spec⟩)
  {W:World} (hG:nQ G W) {base:Nat} {args:Array Value} {ds gs:List (DataW H)} {before:List MemPlace} (hval:∀(j:Nat) t v,fn.params[j]?=some t→args[j]?=some v→Value.okWide P W .any base t v)
  (hW:DataW.Whole enc P fn.params.toList s.vars apart W args.toList ds gs before) (hspec:∀x:A.den,A.ok x→A.bulk x≤all (ds++gs)→spec x=some (true,())) (hna:A.tN=true:=by rfl) :
  Calls P fid args W fun e W'=>∃v,e=.returned v∧s.post enc P fn apart fresh handsOn false W args v W':=by
 have hlt:=hW.lt;have TL:=hW;obtain⟨p,q,hA,hV,rfl,hfz,hnd⟩:=hW;rw[hsv] at hV;obtain⟨rfl,rfl⟩:=trodVars_none hV;simp only[A9] at TL hlt hspec;obtain⟨x,x1,x2⟩:=L2 hb (base:=base) hna ND hA fun j t v hj hv=>hval j t v (by simpa using hj) (by simpa using hv);have hlen:∀{ts:List TypeId} {vs:List Value} {ds:List (DataW H)} {ps:List MemPlace},DataW.TrodAll enc P W 0 (fun _=>true) true ts vs ds ps→ds.length=ts.length:=by
  intro ts;induction ts with
  | nil=>intro vs ds ps h;obtain⟨_,rfl,_⟩:=trodAll_nil h;rfl
  | cons t ts ih=>intro vs ds ps h;obtain⟨v,vs',d,ds',p,q,rfl,rfl,rfl,h1,h2⟩:=trodAll_cons h;simp[ih h2]
 have hfn:=hs ds (hlen hA);refine(hh.calls (old W) W args x (true,()) (fun b o h=>h) hG x1 (hspec x x1.ok x2)).mono fun e W' hw=>?_;obtain⟨v,I',rfl,b1,_,_,_,hr⟩:=hw;obtain⟨cs,rfl,hv⟩:=hr;obtain rfl:v=.bool true:=by simpa [bO,Ty.isAgg] using hv
 refine⟨_,rfl,ds,[],p,[],p,[],TL,?_,?_,?_,b1.frame _,fun h=>by cases h⟩
 ·rw[A9,hfn,hres];exact trodAll_mk1 (shut_bool htb true)
 ·rw[A9,hfn];exact BH hl hread hA (fun x hx=>b1.same (hlt x hx)) (fun x hx=>by simpa using hlt x hx)
 ·rw[A9,hfn,hsv];rfl
end
end Go.Ge
