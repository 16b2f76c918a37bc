/- A ghost interpreter of the model's code, and that it tells the truth: part 9. It says of a function of plain data what a call of it comes to. -/
import Derived.Test.YtkgjcocemmnpjaaDoorGeH
import Derived.Scope
import Derived.Laws.Sem
import Derived.ProofKit
set_option linter.unusedSectionVars false
set_option linter.unusedVariables false
set_option linter.unusedSimpArgs false
namespace Go.Ge
variable [Lp]
open RowKit
theorem p4{p:Nat→Prop}(h:∃n,p n):∃n,p n∧∀m,p m→n≤m:=by
 obtain⟨n,hn⟩:=h;induction n using Nat.strongRecOn with
 | _ n ih =>
   by_cases h:∃m,m<n∧p m
   ·obtain⟨m,h1,h2⟩:=h;exact ih m h1 h2
   ·exact⟨n,hn,fun m hm=>Nat.le_of_not_lt fun hlt=>h ⟨m,hlt,hm⟩⟩
open Classical in
noncomputable def least(p:Nat→Prop):Nat:=if h:∃n,p n then Classical.choose (p4 h) else 0
theorem uB{p:Nat→Prop}(h:∃n,p n):p (least p)∧∀m,p m→least p≤m:=by
 unfold least;rw[dif_pos h];exact zK (p4 h)
theorem qK{P:Program}{c:Code}{Q:Exit→Act→World→Prop}{a:Act}{w:World}(I:Nat→Act→World→Prop){n:Nat}(h0:I n a w)
  (round:∀n a w,I n a w→c.wp P (Exit.then (fun a' w'=>∃m,m<n∧I m a' w') Q) a w):(Code.loop c).wp P Q a w:=by
 refine wp_loop (fun a w=>∃n,I n a w) (fun a w=>least fun n=>I n a w) ⟨n,h0⟩ fun a w h=>?_;obtain⟨h1,h2⟩:=uB h;refine wp_mono (round _ a w h1) fun e a' w' hq=>?_;cases e with
 | normal =>
   obtain⟨m,m1,m2⟩:=hq;exact⟨⟨m,m2⟩,Nat.lt_of_le_of_lt ((uB ⟨m,m2⟩).2 m m2) m1⟩
 | _=>exact hq
def uC:Nat→Exit
 | 0=>.normal
 | 1=>.ret
 | i+2=>.exit i
theorem rE{l m:List Nat}{t:Nat}:bN (l++m) t=(bN l t||bN m t):=by
 induction l with
 | nil=>rfl
 | cons i r ih=>simp only[zO,bN,ih,C8]
def p5(ws:List Nat)(a a':Act):Prop:=∀t,bN ws t=false→a'.tmps[t]?=a.tmps[t]?
theorem p5.refl(ws:List Nat)(a:Act):p5 ws a a:=fun _ _=>rfl
theorem p5.trans{ws:List Nat}{a b c:Act}(h:p5 ws a b)(k:p5 ws b c):p5 ws a c:=fun t ht=>(k t ht).trans (h t ht)
theorem p5.left{ws vs:List Nat}{a b:Act}(h:p5 ws a b):p5 (ws++vs) a b:=fun t ht=>h t (by rw[rE,uZ] at ht;exact ht.1)
theorem p5.right{ws vs:List Nat}{a b:Act}(h:p5 vs a b):p5 (ws++vs) a b:=fun t ht=>h t (by rw[rE,uZ] at ht;exact ht.2)
theorem zl{t:Nat}:∀{l:List Oper} {k:Nat},bN (gT l) t=false→fV t (number k l)=false:=by
 intro l;induction l with
 | nil=>intro k _;rfl
 | cons o l ih =>
   intro k h;simp only[number,fV];cases hd:o.dst with
   | none=>simp only[gT,hd] at h;rw[ih h];rfl
   | some d =>
     simp only[gT,hd,bN,uZ] at h;rw[ih h.2];simp only[C7];exact ec fun e=>by subst e;simp at h
theorem xK{l:List Oper}{o:Oper}(h:o∈l){k:Nat}(hk:o.dst=some k):k∈gT l:=by
 induction l with
 | nil=>cases h
 | cons p l ih =>
   rcases List.mem_cons.1 h with h|h
   ·subst h;simp only[gT,hk];exact jy ..
   ·simp only[gT];split
    ·exact jx _ (ih h)
    ·exact ih h
theorem wg{α:Type}{f:Nat→Tree α}:∀{es:List Nat} {e i:Nat},rU es e=some i→(oX es i f).run=(f e).run:=by
 intro es;induction es with
 | nil=>intro e i h;cases h
 | cons k r ih =>
   intro e i h;simp only[rU] at h;have one:∀{b:Bool},(bif b then some 0 else(rU r e).map (·+1))=some i→(b=true∧i=0)∨(b=false∧∃j,rU r e=some j∧i=j+1):=by
    intro b hb;cases b with
    | true=>exact .inl ⟨rfl,(aq hb).symm⟩
    | false =>
      obtain⟨j,h1,h2⟩:=Option.map_eq_some_iff.1 hb;exact .inr ⟨rfl,j,h1,h2.symm⟩
   rcases one h with ⟨h1,rfl⟩|⟨h1,j,h2,rfl⟩
   ·obtain rfl:=cK h1;cases r with
    | nil=>rfl
    | cons m s=>rfl
   ·cases r with
    | nil=>cases h2
    | cons m s=>exact ih h2
section
variable {P:Program} {B:iy} {N:Nat} {cx:Ctx} {nb:Nat} {bf:List Nat} {inl:Nat→List au→St→Tree (au×St)}
theorem AV(hkeep:∀f vals σ v σ',(inl f vals σ).run=some (v,σ')→aH σ σ'):∀(l:List Oper) (k:Nat) (done:List mJ) (σ σ':St),(s6 cx nb bf inl (number k l) done σ).run=some σ'→aH σ σ':=by
 intro l;induction l with
 | nil=>intro k done σ σ' h;obtain rfl:=aq h;exact aH.refl _
 | cons o l ih =>
   intro k done σ σ' h;simp only[number,s6] at h;split at h
   ·cases h
   ·obtain⟨hc,h1⟩:=ah h;obtain⟨σ1,h2,h3⟩:=bind_some h1;exact(mV hkeep σ1 (nJ (fun hb=>sN o σ hb) h2)).trans (ih _ _ _ _ h3)
theorem Cn{fz:Bool}{M V:Nat→Bool}:∀{l:List (Nat×Sh×aR)} {x:(GV l).den} {t:Nat},jF l t=false→s7 fz M V l x t=none:=by
 intro l;induction l with
 | nil=>intro x t _;rfl
 | cons p r ih =>
   obtain⟨i,s,b⟩:=p;intro x t h;simp only[jF,uZ] at h;simp only[s7,h.1,eD];exact ih h.2
theorem zm{k:Carry}{fz lock:Bool}{wr:List Nat}{σ:St}{x:k.ty.den}{b:Nat}{bx:aR}(hb:σ.mem b=some bx)(h:jF k.M b=false):(k.iH fz lock wr σ x).mem b=some { bx with lk:=bx.lk||lock }:=by
 simp only[Carry.iH];rw[Cn h,hb]
theorem mZ{k:Carry}{fz lock:Bool}{wr:List Nat}{σ:St}{x:k.ty.den}(hk:nL k σ):aH σ (k.iH fz lock wr σ x):=by
 intro b bx hb hl;have:jF k.M b=false:=by
  cases hq:jF k.M b with
  | false=>rfl
  | true =>
    obtain⟨s,b0,hm⟩:=Fz hq;obtain⟨h1,_,h3⟩:=hk.M b s b0 hm;rw[hb] at h1;obtain rfl:=aq h1;rw[hl] at h3;cases h3
 rw[zm hb this];cases bx;simp only at hl;subst hl;rfl
theorem rF{α:Type}{Q:α→Prop}{f:Nat→Tree α}(hf:∀e y,(f e).run=some y→Q y):∀{es:List Nat} {i:Nat} {y:α},(oX es i f).run=some y→Q y:=by
 intro es;induction es with
 | nil=>intro i y h;cases h
 | cons k r ih =>
   intro i y h;cases r with
   | nil=>exact hf k y h
   | cons m s =>
     have:=dn h;cases hq:EU i 0 with
     | true=>rw[hq] at this;exact hf k y this
     | false=>rw[hq] at this;exact ih this
theorem uD:∀{l:List Nat} {σ σ':St},oW l σ=some σ'→aH σ σ':=by
 intro l;induction l with
 | nil=>intro σ σ' h;obtain rfl:=aq h;exact aH.refl _
 | cons m r ih =>
   intro σ σ' h;unfold oW at h;cases hm:Nat.ble 2000000 m with
   | false=>rw[hm] at h;exact ih h
   | true =>
     rw[hm] at h;simp only[gD] at h;split at h
     ·split at h
      ·split at h
       ·split at h
        ·rename_i hg;exact(gI hg).trans ((aH.put _ _ _).trans (ih h))
        ·cases h
       ·cases h
      ·cases h
     ·exact ih h
theorem rG{B:iy}{N:Nat}{a:Act}{w:World}:∀{l:List Nat} {σ σ':St} {γ:Gh},oW l σ=some σ'→bP B N γ σ a w→∃γ',bP B N γ' σ' a w∧Ext B γ σ.mem w γ' σ'.mem w:=by
 intro l;induction l with
 | nil=>intro σ σ' γ h hs;obtain rfl:=aq h;exact⟨γ,hs,Ext.refl _ _ _ _⟩
 | cons m r ih =>
   intro σ σ' γ h hs;unfold oW at h;cases hm:Nat.ble 2000000 m with
   | false=>rw[hm] at h;exact ih h hs
   | true =>
     rw[hm] at h;simp only[gD] at h;generalize m-2000000=k at h;split at h
     ·split at h
      ·split at h
       ·split at h
        ·rename_i x σ1 hg;have hv:=hs.slots k;obtain⟨dX,s1,s2,s3⟩:=fM hs hv hg;have s4:bP B N dX (σ1.put k (.data (.slice _) x)) a w:=⟨fun t=>by
          unfold St.put;dsimp only;cases ht:Nat.beq t k with
          | false=>exact s1.slots t
          | true =>
            obtain rfl:=cK ht;exact s3,s1.size,s1.defers,s1.ok⟩
         obtain⟨nY,t1,t2⟩:=ih h s4;exact⟨nY,t1,s2.trans t2⟩
        ·cases h
       ·cases h
      ·cases h
     ·exact ih h hs
theorem AW{f:St→Tree (Nat×St)}(hf:∀σ r,(f σ).run=some r→aH σ r.2):∀(n:Nat) (σ:St) (r:Nat×St),(again f n σ).run=some r→aH σ r.2:=by
 intro n;induction n with
 | zero=>intro σ r h;cases h
 | succ n ih =>
   intro σ r h;obtain⟨r1,h1,h2⟩:=bind_some h;have k1:=hf _ _ h1;cases hq:Nat.beq r1.1 0 with
   | true=>rw[hq] at h2;exact k1.trans (ih _ _ h2)
   | false=>rw[hq] at h2;obtain rfl:=aq h2;exact k1
theorem zn{f:St→Tree (Nat×St)}(hf:∀σ r,(f σ).run=some r→aH σ r.2){c:Nat}:∀(n j:Nat) (σ:St) (r:Nat×St),(qq f c n j σ).run=some r→aH σ r.2:=by
 intro n;induction n with
 | zero=>intro j σ r h;cases h
 | succ n ih =>
   intro j σ r h;unfold qq at h;split at h
   ·have h:=bu h;obtain⟨r1,h1,h2⟩:=bind_some h.2;have k1:=(aH.put σ c _).trans (hf _ _ h1);cases hq:Nat.beq r1.1 0 with
    | true=>rw[hq] at h2;exact k1.trans (ih _ _ _ h2)
    | false=>rw[hq] at h2;obtain rfl:=aq h2;exact k1
   ·cases h
theorem jR(hkeep:∀f vals σ v σ',(inl f vals σ).run=some (v,σ')→aH σ σ'):∀(c:Code) (pl:List (Option yc)) (σ:St) (r:Nat×St),(eL cx nb bf inl c pl σ).run=some r→aH σ r.2:=by
 intro c;induction c with
 | skip=>intro pl σ r h;obtain rfl:=aq h;exact aH.refl _
 | label l=>intro pl σ r h;obtain rfl:=aq h;exact aH.refl _
 | ret=>intro pl σ r h;obtain rfl:=aq h;exact aH.refl _
 | exit i=>intro pl σ r h;obtain rfl:=aq h;exact aH.refl _
 | region id ops dr =>
   intro pl σ r h;obtain⟨σ1,h1,h2⟩:=bind_some h;obtain rfl:=aq h2;cases dr with
   | true =>
     have h1':(kZ cx nb bf inl ops σ).run=some σ1:=h1;unfold kZ at h1';cases hg:ops.any fun o=>o.guard.isSome with
     | true =>
       rw[hg] at h1';obtain⟨hnt,h3⟩:=ah (show(bif eZ ops.toList then jf cx nb bf inl ops (number 0 ops.toList) [] σ (fun _=>false) else .fail).run=some σ1 from h1');exact AO hkeep _ _ _ _ _ _ h3
     | false =>
       rw[hg] at h1';exact AV hkeep _ _ _ _ _ h1'
   | false=>exact pV hkeep _ _ _ _ h1
 | seq a b eN fE =>
   intro pl σ r h;obtain⟨r1,h1,h2⟩:=bind_some h;have k1:=eN _ _ _ h1;cases hq:Nat.beq r1.1 0 with
   | true=>rw[hq] at h2;exact k1.trans (fE _ _ _ h2)
   | false=>rw[hq] at h2;obtain rfl:=aq h2;exact k1
 | block i a ih =>
   intro pl σ r h;obtain⟨r1,h1,h2⟩:=bind_some h;obtain rfl:=aq h2;exact ih _ _ r1 h1
 | scope a ih=>intro pl σ r h;exact ih _ _ _ h
 | cond c a b eN fE =>
   intro pl σ r h;unfold eL at h;split at h
   ·rename_i c0 D4 hn;change Bool at c0;have:=dn h;cases c0 with
    | false=>exact fE _ _ _ this
    | true=>exact eN _ _ _ this
   ·split at h
    ·cases h
    rename_i σ AX;refine(uD AX).trans ?_;split at h
    ·cases h
    ·rename_i k hk;have hok:=lX hk;dsimp only at h;split at h
     ·rw[Tree.mF] at h;obtain⟨x,h1,h2⟩:=Option.bind_eq_some_iff.1 h;obtain rfl:=aq h2;exact mZ hok
     ·rw[Tree.mF] at h;obtain⟨x,h1,h2⟩:=Option.bind_eq_some_iff.1 h;exact rF (Q:=fun r:Nat×St=>aH σ r.2) (fun e y hy=>by obtain rfl:=aq hy;exact mZ hok) h2
   ·cases h
 | loop a ih =>
   intro pl σ r h;unfold eL at h;split at h
   ·split at h
    ·exact zn (fun σ r hr=>ih _ _ _ hr) _ _ _ _ h
    split at h
    ·cases h
    rename_i σ AX;refine(uD AX).trans ?_;split at h
    ·cases h
    ·rename_i k hk;have hok:=lX hk;dsimp only at h;split at h
     ·cases h
     ·split at h
      ·obtain⟨x,h1,h2⟩:=bg h;obtain rfl:=aq h2;exact mZ hok
      ·obtain⟨x,h1,h2⟩:=bg h;exact rF (Q:=fun r:Nat×St=>aH σ r.2) (fun e y hy=>by obtain rfl:=aq hy;exact mZ hok) h2
   ·exact AW (fun σ r hr=>ih _ _ _ hr) _ _ _ h
   ·cases h
 | _=>intro pl σ r h;cases h
end
end Go.Ge
namespace Go.Ge
variable [Lp]
open RowKit
section
variable {P:Program} {B:iy} {N:Nat} {cx:Ctx} {nb:Nat} {bf:List Nat} {inl:Nat→List au→St→Tree (au×St)}
theorem p6(k:Carry)(σ:St):(k.lock σ).mem=jn (fun b bx=>bif jF k.M b then bx.lk else true) σ.mem:=by
 funext b;simp only[Carry.lock,jn];cases σ.mem b with
 | none=>rfl
 | some bx=>simp only;cases jF k.M b<;>rfl
theorem FB(k:Carry)(σ:St):k.lock σ={ σ with mem:=jn (fun b bx=>bif jF k.M b then bx.lk else true) σ.mem }:=by
 have:=p6 k σ;unfold Carry.lock at this⊢;dsimp only at this⊢;rw[this]
theorem qL{T β:Type}{t:Tree T}{k:T→Tree β}{y:β}(h:(t.join k).run=some y):∃x,t.run=some x∧(k x).run=some y:=by
 rw[Tree.mF] at h;exact Option.bind_eq_some_iff.1 h
theorem uE{α:Type}{o:Option α}{y:α}(h:(Tree.Dc o).run=some y):o=some y:=by
 cases o with
 | none=>cases h
 | some x=>exact h
theorem D5{e0 e i:Nat}(h:rU [e0] e=some i):e=e0:=by
 simp only[rU] at h;cases hb:Nat.beq e0 e with
 | true=>exact(cK hb).symm
 | false=>rw[hb] at h;cases h
theorem bP.Bx{γ:Gh}{σ:St}{a:Act}{w:World}(h:bP B N γ σ a w){i:Nat}{v:au}(hv:br γ σ.mem w v .val [a.tmps.getD i Go.undef]):bP B N γ (σ.put i v) a w where
 slots:=fun t=>by
  show br γ σ.mem w (bif Nat.beq t i then v else σ.slots t) .val _
  cases hb:Nat.beq t i with
  | true=>obtain rfl:=cK hb;exact hv
  | false=>exact h.slots t
 size:=h.size
 defers:=h.defers
 ok:=h.ok
theorem xL{a:Act}{w:World}:∀{l:List (Nat×Sh)} {σ σ':St} {γ:Gh},settle l σ=some σ'→bP B N γ σ a w→∃γ',bP B N γ' σ' a w∧Ext B γ σ.mem w γ' σ'.mem w∧aH σ σ':=by
 intro l;induction l with
 | nil=>intro σ σ' γ h hs;obtain rfl:=aq h;exact⟨γ,hs,Ext.refl _ _ _ _,aH.refl _⟩
 | cons p r ih =>
   obtain⟨i,s⟩:=p;intro σ σ' γ h hs;cases s with
   | d t =>
     simp only[settle] at h;split at h
     ·rename_i x σ1 hg;obtain⟨dX,s1,s2,s4⟩:=fM hs (hs.slots i) hg;have s3:bP B N dX (σ1.put i (.data t x)) a w:=s1.Bx s4;obtain⟨nY,t1,t2,t3⟩:=ih h s3;exact⟨nY,t1,s2.trans t2,(gI hg).trans t3⟩
     ·cases h
   | k v=>exact ih h hs
   | m a b=>exact ih h hs
theorem p7{k:Carry}{fz:Bool}{wr:List Nat}{x:k.ty.den}{eR gJ:St}{CR γ:Gh}{a a0:Act}{w w0:World}(hk:nL k eR)(h0:bP B N CR eR a0 w0)(he:bP B N γ gJ a w)(hx:Ext B CR eR.mem w0 γ gJ.mem w)
  (hf:∀t,bN wr t=false→a.tmps[t]?=a0.tmps[t]?) (hkeep:∀b bx,eR.mem b=some bx→jF k.M b=false→gJ.mem b=some { bx with lk:=true }) (ho:k.s8 fz eR gJ=some x) :
  ∃γ',bP B N γ' (k.iH fz false wr eR x) a w∧Ext B CR eR.mem w0 γ' (k.iH fz false wr eR x).mem w:=by
 unfold Carry.s8 at ho;cases fz with
 | false=>exact⟨γ,iT hk h0 he hx hf (fun b bx hb hin=>⟨true,hkeep b bx hb hin⟩) ho⟩
 | true =>
   simp only[gD] at ho;split at ho
   ·rename_i σ1 hs;obtain⟨dX,s1,x1,k1⟩:=xL hs he;exact⟨dX,iT hk h0 s1 (hx.trans x1) hf (fun b bx hb hin=>⟨true,k1 b _ (hkeep b bx hb hin) rfl⟩) ho⟩
   ·cases ho
noncomputable def roundOf(cx:Ctx)(nb:Nat)(bf:List Nat)(inl:Nat→List au→St→Tree (au×St))(k:Carry)(fz:Bool)(σ:St)(c:Code)(pl:List (Option yc))(x:k.ty.den):Option (k.ty.den⊕(Nat×k.ty.den)) :=
 ((eL cx nb bf inl c pl (k.iH false true (writes c) σ x)).bind fun r=>bif Nat.beq r.1 0 then(match k.out false σ r.2 with
   | some y=>.ret (.inl y)
   | none=>.fail)
  else match rU (jg c) r.1,k.s8 fz σ r.2 with
   | some i,some y=>.ret (.inr (i,y))
   | _,_=>.fail).run
theorem wh{c:Code}{k:Carry}{fz:Bool}{σ:St}{γ:Gh}{a:Act}{w:World}{Q:Exit→Act→World→Prop}{R:Type}(hk:nL k σ)(h:bP B N γ σ a w){x0:k.ty.den}(hx0:k.out false σ σ=some x0)
  (f:k.ty.den→Option (k.ty.den⊕R)) (Out:R→Nat→k.ty.den→Prop) {z:R} (hL:Loop f x0=some z)
  (hf:∀x r,f x=some r→∃e y,(match r with|.inl y'=>e=0∧y'=y|.inr z=>e≠0∧Out z e y) ∧
   ∀dX a1 w1 (Q':Exit→Act→World→Prop),bP B N dX (k.iH false true (writes c) σ x) a1 w1→(∀gJ γ' a' w',(bif Nat.beq e 0 then k.out false σ gJ else k.s8 fz σ gJ)=some y→aH (k.iH false true (writes c) σ x) gJ→bP B N γ' gJ a' w'→Ext B dX (k.iH false true (writes c) σ x).mem w1 γ' gJ.mem w'→p5 (writes c) a1 a'→Q' (uC e) a' w') →
    c.wp P Q' a1 w1)
  (final:∀e y,e≠0→Out z e y→∀γ' a' w',bP B N γ' (k.iH fz false (writes c) σ y) a' w'→Ext B γ σ.mem w γ' (k.iH fz false (writes c) σ y).mem w'→p5 (writes c) a a'→Q (uC e) a' w') :
  (Code.loop c).wp P Q a w:=by
 obtain⟨n,hn⟩:=gS hL;refine qK (fun m a' w'=>∃γ' x,bP B N γ' (k.iH false true (writes c) σ x) a' w'∧Ext B γ σ.mem w γ' (k.iH false true (writes c) σ x).mem w'∧p5 (writes c) a a'∧rounds f m x=some z) (n:=n) ?_ ?_
 ·obtain⟨s,x⟩:=iT (lock:=true) (wr:=writes c) hk h h (Ext.refl _ _ _ _) (fun _ _=>rfl) (fun b bx hb _=>⟨bx.lk,hb⟩) hx0;exact⟨γ,x0,s,x,p5.refl _ _,hn⟩
 ·intro m a1 w1 hI;obtain⟨dX,x,s1,e1,f1,hr⟩:=hI;cases m with
  | zero=>cases hr
  | succ m =>
    simp only[rounds] at hr;obtain⟨r,LF,hr2⟩:=Option.bind_eq_some_iff.1 hr;obtain⟨e,y,hm,hwp⟩:=hf x r LF;refine hwp dX a1 w1 _ s1 fun gJ γ' a' w' ho hkp s2 e2 f2=>?_;have hx:=e1.trans e2;have hfr:=f1.trans f2;have hkeep:∀b bx,σ.mem b=some bx→jF k.M b=false→gJ.mem b=some { bx with lk:=true }:=fun b bx hb hin=>by
     have:=hkp b _ (zm hb hin) (by simp);simpa using this
    cases r with
    | inl y' =>
      obtain⟨rfl,rfl⟩:=hm;obtain⟨s3,e3⟩:=iT (lock:=true) (wr:=writes c) hk h s2 hx hfr (fun b bx hb hin=>⟨true,hkeep b bx hb hin⟩) ho;exact⟨m,ES m,γ',y',s3,e3,hfr,hr2⟩
    | inr z' =>
      obtain⟨h0,hO⟩:=hm;obtain rfl:=aq hr2;have hb0:Nat.beq e 0=false:=ec h0;rw[hb0] at ho;obtain⟨JQ,s3,e3⟩:=p7 (wr:=writes c) hk h s2 hx hfr hkeep ho;have:=final e y h0 hO JQ a' w' s3 e3 hfr
      match e,h0,this with
      | 0,h0,_=>exact absurd rfl h0
      | 1,_,this=>exact this
      | i+2,_,this=>exact this
theorem Co{S:Type}{o:Option (S⊕(Nat×S))}{r:S⊕S}(h:BP o=some r):(∃y,r=.inl y∧o=some (.inl y))∨∃i y,r=.inr y∧o=some (.inr (i,y)):=by
 unfold BP at h;obtain⟨q,h1,h2⟩:=Option.map_eq_some_iff.1 h;cases q with
 | inl y=>exact .inl ⟨y,h2.symm,h1⟩
 | inr p=>exact .inr ⟨p.1,p.2,h2.symm,h1⟩
theorem nc(lD:P.follows .mixedOrders=true)(hc:dy P cx)(cQ:ia P B.G cx)(fD:jY P B.G inl)(hkeep:∀f vals σ v σ',(inl f vals σ).run=some (v,σ')→aH σ σ') :
  ∀(c:Code) {pl:List (Option yc)} {σ:St} {γ:Gh} {a:Act} {w:World} {e:Nat} {σ':St} {Q:Exit→Act→World→Prop},(∀t∈writes c,t<N)→(eL cx nb bf inl c pl σ).run=some (e,σ')→bP B N γ σ a w →
   (∀γ' a' w',bP B N γ' σ' a' w'→Ext B γ σ.mem w γ' σ'.mem w'→p5 (writes c) a a'→Q (uC e) a' w')→c.wp P Q a w:=by
 intro c;induction c with
 | skip =>
   intro pl σ γ a w e σ' Q hd hr h hK;obtain⟨rfl,rfl⟩:=bY (aq hr);exact wp_skip (hK γ a w h (Ext.refl _ _ _ _) (p5.refl _ _))
 | label l =>
   intro pl σ γ a w e σ' Q hd hr h hK;obtain⟨rfl,rfl⟩:=bY (aq hr);exact wp_label (hK γ a w h (Ext.refl _ _ _ _) (p5.refl _ _))
 | ret =>
   intro pl σ γ a w e σ' Q hd hr h hK;obtain⟨rfl,rfl⟩:=bY (aq hr);exact wp_ret (hK γ a w h (Ext.refl _ _ _ _) (p5.refl _ _))
 | exit i =>
   intro pl σ γ a w e σ' Q hd hr h hK;obtain⟨rfl,rfl⟩:=bY (aq hr);exact wp_exit (hK γ a w h (Ext.refl _ _ _ _) (p5.refl _ _))
 | region id ops dr =>
   intro pl σ γ a w e σ' Q hd hr h hK;obtain⟨σ1,h1,h2⟩:=bind_some hr;obtain⟨rfl,rfl⟩:=bY (aq h2);have hd':∀o∈ops.toList,∀k,o.dst=some k→k<N:=fun o ho k hk=>hd k (xK ho hk);have hfr:∀{a a':Act},Fr (number 0 ops.toList) a a'→p5 (writes (.region id ops dr)) a a':=fun hf t ht=>hf t (zl ht);cases dr with
   | true=>exact zh lD hc cQ fD hd' h1 h fun γ' a' w' s x f=>hK γ' a' w' s x (hfr f)
   | false=>exact xu hc cQ fD hkeep hd' h1 h fun γ' a' w' s x f=>hK γ' a' w' s x (hfr f)
 | seq x y Ji Jj =>
   intro pl σ γ a w e σ' Q hd hr h hK;obtain⟨r1,h1,h2⟩:=bind_some hr;obtain⟨e1,σ1⟩:=r1;have Jk:∀t∈writes x,t<N:=fun t ht=>hd t (oQ _ ht);have Jl:∀t∈writes y,t<N:=fun t ht=>hd t (nU _ ht);refine wp_seq (Ji Jk h1 h fun γ' a' w' s1 x1 f1=>?_);cases e1 with
   | zero=>exact Jj Jl h2 s1 fun E2 LG w'' s2 x2 f2=>hK E2 LG w'' s2 (x1.trans x2) (f1.left.trans f2.right)
   | succ e1 =>
     obtain⟨rfl,rfl⟩:=bY (aq h2);have:=hK γ' a' w' s1 x1 f1.left;cases e1 with
     | zero=>exact this
     | succ i=>exact this
 | block i x ih =>
   intro pl σ γ a w e σ' Q hd hr h hK;obtain⟨r1,h1,h2⟩:=bind_some hr;obtain⟨e1,σ1⟩:=r1;obtain⟨rfl,rfl⟩:=bY (aq h2);refine wp_block (ih hd h1 h fun γ' a' w' s1 x1 f1=>?_);have:=hK γ' a' w' s1 x1 f1
   match e1,this with
   | 0,this=>exact this
   | 1,this=>exact this
   | j+2,this =>
     show Exit.inBlock i Q (.exit j) a' w'
     unfold Exit.inBlock;by_cases e:j=i
     ·subst e;simp only[iP];simpa [uC] using this
     ·simp only[dW e];have hb:Nat.beq (j+2) (i+2)=false:=ec (by omega);rw[hb] at this;exact this
 | scope x ih =>
   intro pl σ γ a w e σ' Q hd hr h hK;refine wp_scope_straight (ih hd hr h fun γ' a' w' s1 x1 f1=>?_);have:=hK γ' a' w' s1 x1 f1
   match e,this with
   | 0,this=>exact this
   | 1,this=>exact this
   | j+2,this=>exact this
 | cond o x y Ji Jj =>
   intro pl σ γ a w e σ' Q hd hr h hK;have Jk:∀t∈writes x,t<N:=fun t ht=>hd t (oQ _ ht);have Jl:∀t∈writes y,t<N:=fun t ht=>hd t (nU _ ht);unfold eL at hr;split at hr
   ·rename_i c0 D4 G0;change Bool at c0;have hev:=h.bz o;rw[G0] at hev;have hev:=lR hev;have hn:=dn hr;cases c0 with
    | false=>exact wp_cond_false hev (Jj Jl hn h fun γ' a' w' s1 x1 f1=>hK γ' a' w' s1 x1 f1.right)
    | true=>exact wp_cond_true hev (Ji Jk hn h fun γ' a' w' s1 x1 f1=>hK γ' a' w' s1 x1 f1.left)
   ·rename_i c0 p D4 G0;change Bool at c0;have hev:=h.bz o;rw[G0] at hev;have hev:=lR hev;split at hr
    ·cases hr
    rename_i σ AX;obtain⟨γ,h,hx⟩:=rG AX h;replace hK:=fun γ' a' w' s x f=>hK γ' a' w' s (hx.trans x) f;clear hx;split at hr
    ·cases hr
    rename_i k hk;have hok:=lX hk;dsimp only at hr;have go:∀{r:Nat×St},(Tree.node c0 (eL cx nb bf inl x D4 (k.lock σ)) (eL cx nb bf inl y (D4.drop (marks x)) (k.lock σ))).run=some r→∀{v:k.ty.den},k.s8 p.fz σ r.2=some v →
      (∀γ' a' w',bP B N γ' (k.iH p.fz false (writes x++writes y) σ v) a' w'→Ext B γ σ.mem w γ' (k.iH p.fz false (writes x++writes y) σ v).mem w'→p5 (writes x++writes y) a a'→Q (uC r.1) a' w') →
      (Code.cond o x y).wp P Q a w:=by
     intro r hrun v ho hQ;have hlk:bP B N γ (k.lock σ) a w:=by rw[FB];exact h.jn
     have hle:Ext B γ σ.mem w γ (k.lock σ).mem w:=by rw[p6];exact Ext.jn
     have fin:aH (k.lock σ) r.2→∀γ' a' w',bP B N γ' r.2 a' w'→Ext B γ (k.lock σ).mem w γ' r.2.mem w'→p5 (writes x++writes y) a a'→Q (uC r.1) a' w':=by
      intro hkp γ' a' w' s1 x1 f1;obtain⟨nY,s2,x2⟩:=p7 (wr:=writes x++writes y) hok h s1 (hle.trans x1) f1 (fun b bx hb hin=>hkp b _ (by rw[p6,we hb,hin];rfl) rfl) ho;exact hQ nY a' w' s2 x2 f1
     have hn:=dn hrun;cases c0 with
     | false=>exact wp_cond_false hev (Jj Jl hn hlk fun γ' a' w' s1 x1 f1=>fin (jR hkeep _ _ _ _ hn) γ' a' w' s1 x1 f1.right)
     | true=>exact wp_cond_true hev (Ji Jk hn hlk fun γ' a' w' s1 x1 f1=>fin (jR hkeep _ _ _ _ hn) γ' a' w' s1 x1 f1.left)
    split at hr
    ·obtain⟨v,h1,h2⟩:=qL hr;obtain⟨rfl,rfl⟩:=bY (aq h2);obtain⟨r,h3,h4⟩:=bind_some h1;obtain⟨h5,h6⟩:=ah h4;refine go h3 (uE h6) fun γ' a' w' s x f=>?_;rw[cK h5];exact hK γ' a' w' s x f
    ·rename_i es EI;obtain⟨v,h1,h2⟩:=qL hr;obtain⟨r,h3,h4⟩:=bind_some h1;split at h4
     ·rename_i i v' GB ho;obtain rfl:=aq h4;rw[wg GB] at h2;obtain⟨rfl,rfl⟩:=bY (aq h2);exact go h3 ho fun γ' a' w' s x f=>hK γ' a' w' s x f
     ·cases h4
   ·cases hr
 | loop c ih =>
   intro pl σ γ a w e σ' Q hd hr h hK;unfold eL at hr;split at hr
   case h_2 =>
    rename_i D4;generalize 100000=n at hr;refine qK (fun m a' w'=>∃γ' σ1,bP B N γ' σ1 a' w'∧Ext B γ σ.mem w γ' σ1.mem w'∧p5 (writes c) a a'∧(again (fun σ=>eL cx nb bf inl c D4 σ) m σ1).run=some (e,σ')) (n:=n) ⟨γ,σ,h,Ext.refl _ _ _ _,p5.refl _ _,hr⟩ ?_;intro m a1 w1 hI;obtain⟨dX,σ1,s1,e1,f1,eT⟩:=hI;cases m with
    | zero=>cases eT
    | succ m =>
      obtain⟨r,q1,q2⟩:=bind_some eT;obtain⟨e',σ2⟩:=r;refine ih hd q1 s1 fun γ' a' w' s2 e2 f2=>?_;cases hq:Nat.beq e' 0 with
      | true =>
        dsimp only at q2;rw[hq] at q2;obtain rfl:=cK hq;exact⟨m,ES m,γ',σ2,s2,e1.trans e2,f1.trans f2,q2⟩
      | false =>
        dsimp only at q2;rw[hq] at q2;obtain⟨rfl,rfl⟩:=bY (aq q2);have:=hK γ' a' w' s2 (e1.trans e2) (f1.trans f2)
        match e',hq,this with
        | 0,hq,_=>cases hq
        | 1,_,this=>exact this
        | i+2,_,this=>exact this
   case h_3=>cases hr
   rename_i p D4;split at hr
   ·rename_i ct hct;generalize 100=n at hr;generalize 0=j at hr;refine qK (fun m a' w'=>∃γ' σ1 j',bP B N γ' σ1 a' w'∧Ext B γ σ.mem w γ' σ1.mem w'∧p5 (writes c) a a'∧(qq (fun σ=>eL cx nb bf inl c D4 σ) ct m j' σ1).run=some (e,σ')) (n:=n) ⟨γ,σ,j,h,Ext.refl _ _ _ _,p5.refl _ _,hr⟩ ?_;intro m a1 w1 hI;obtain⟨dX,σ1,j1,s1,e1,f1,eT⟩:=hI;cases m with
    | zero=>cases eT
    | succ m =>
      unfold qq at eT;split at eT
      case h_2=>cases eT
      rename_i x hx;obtain⟨hj,hr2⟩:=bu eT;obtain⟨r,q1,q2⟩:=bind_some hr2;obtain⟨e',σ2⟩:=r;change Int at x;have Gn:x=(j1:Int):=xW (show decide (x=(j1:Int))=true from hj);have s1':bP B N dX (σ1.put ct (.data (.int .i64) (j1:Int))) a1 w1:=s1.Bx (by
       have:=s1.slots ct;rw[hx] at this;rw[←Gn];exact this)
      refine ih hd q1 s1' fun γ' a' w' s2 e2 f2=>?_;have e2:Ext B dX σ1.mem w1 γ' σ2.mem w':=e2;cases hq:Nat.beq e' 0 with
      | true =>
        dsimp only at q2;rw[hq] at q2;obtain rfl:=cK hq;exact⟨m,ES m,γ',σ2,j1+1,s2,e1.trans e2,f1.trans f2,q2⟩
      | false =>
        dsimp only at q2;rw[hq] at q2;obtain⟨rfl,rfl⟩:=bY (aq q2);have:=hK γ' a' w' s2 (e1.trans e2) (f1.trans f2)
        match e',hq,this with
        | 0,hq,_=>cases hq
        | 1,_,this=>exact this
        | i+2,_,this=>exact this
   split at hr
   ·cases hr
   rename_i σ AX;obtain⟨γ,h,hx⟩:=rG AX h;replace hK:=fun γ' a' w' s x f=>hK γ' a' w' s (hx.trans x) f;clear hx;split at hr
   ·cases hr
   rename_i k hk;have hok:=lX hk;dsimp only at hr;split at hr
   ·cases hr
   rename_i x0 hx0;have hb:∀x r,roundOf cx nb bf inl k p.fz σ c D4 x=some r→∃e gJ y,(eL cx nb bf inl c D4 (k.iH false true (writes c) σ x)).run=some (e,gJ)∧(bif Nat.beq e 0 then k.out false σ gJ else k.s8 p.fz σ gJ)=some y∧((e=0∧r=.inl y)∨(e≠0∧∃i,rU (jg c) e=some i∧r=.inr (i,y))):=by
    intro x r hx;unfold roundOf at hx;obtain⟨q,q1,q2⟩:=bind_some hx;obtain⟨e,gJ⟩:=q;dsimp only at q2;cases he:Nat.beq e 0 with
    | true =>
      rw[he] at q2;simp only[gD] at q2;split at q2
      ·rename_i y hy;exact⟨e,gJ,y,q1,by rw[he];exact hy,.inl ⟨cK he,(aq q2).symm⟩⟩
      ·cases q2
    | false =>
      rw[he] at q2;simp only[eD] at q2;split at q2
      ·rename_i i y hi hy;exact⟨e,gJ,y,q1,by rw[he];exact hy,.inr ⟨fun e0=>(by subst e0;cases he),i,hi,(aq q2).symm⟩⟩
      ·cases q2
   have step:∀{x:k.ty.den} {e:Nat} {gJ:St} {y:k.ty.den},(eL cx nb bf inl c D4 (k.iH false true (writes c) σ x)).run=some (e,gJ)→(bif Nat.beq e 0 then k.out false σ gJ else k.s8 p.fz σ gJ)=some y→∀dX a1 w1 (Q':Exit→Act→World→Prop),bP B N dX (k.iH false true (writes c) σ x) a1 w1 →
     (∀gJ γ' a' w',(bif Nat.beq e 0 then k.out false σ gJ else k.s8 p.fz σ gJ)=some y→aH (k.iH false true (writes c) σ x) gJ→bP B N γ' gJ a' w'→Ext B dX (k.iH false true (writes c) σ x).mem w1 γ' gJ.mem w'→p5 (writes c) a1 a'→Q' (uC e) a' w')→c.wp P Q' a1 w1:=by
    intro x e gJ y hrun ho dX a1 w1 Q' s hQ;exact ih hd hrun s fun γ' a' w' s1 x1 f1=>hQ gJ γ' a' w' ho (jR hkeep _ _ _ _ hrun) s1 x1 f1
   split at hr
   ·rename_i e0 EI;obtain⟨v,h1,h2⟩:=bg hr;obtain⟨rfl,rfl⟩:=bY (aq h2);refine wh (fz:=p.fz) hok h hx0 _ (fun z e' y=>e'=e0∧z=y) h1 (fun x r hx=>?_) (fun e' y hne hO γ' a' w' s x f=>?_)
    ·rcases Co hx with ⟨y,rfl,hy⟩|⟨i,y,rfl,hy⟩
     ·obtain⟨e,gJ,y',q1,q2,q3⟩:=hb x _ hy;rcases q3 with ⟨rfl,q3⟩|⟨_,i,_,q3⟩
      ·obtain rfl:=Sum.inl.inj q3;exact⟨0,y,⟨rfl,rfl⟩,step q1 q2⟩
      ·cases q3
     ·obtain⟨e,gJ,y',q1,q2,q3⟩:=hb x _ hy;rcases q3 with ⟨rfl,q3⟩|⟨hne,i',GB,q3⟩
      ·cases q3
      ·obtain⟨rfl,rfl⟩:=bY (Sum.inr.inj q3);rw[EI] at GB;exact⟨e,y,⟨hne,D5 GB,rfl⟩,step q1 q2⟩
    ·obtain⟨rfl,rfl⟩:=hO;exact hK γ' a' w' s x f
   ·obtain⟨v,h1,h2⟩:=bg hr;refine wh (fz:=p.fz) hok h hx0 _ (fun z e' y=>rU (jg c) e'=some z.1∧z.2=y) h1 (fun x r hx=>?_) (fun e' y hne hO γ' a' w' s x f=>?_)
    ·obtain⟨e,gJ,y',q1,q2,q3⟩:=hb x _ hx;rcases q3 with ⟨rfl,rfl⟩|⟨hne,i,GB,rfl⟩
     ·exact⟨0,y',⟨rfl,rfl⟩,step q1 q2⟩
     ·exact⟨e,y',⟨hne,GB,rfl⟩,step q1 q2⟩
    ·obtain⟨GB,rfl⟩:=hO;rw[wg GB] at h2;obtain⟨rfl,rfl⟩:=bY (aq h2);exact hK γ' a' w' s x f
 | _=>intro pl σ γ a w e σ' Q hd hr h hK;cases hr
end
end Go.Ge
namespace Go.Ge
variable [Lp]
open RowKit
def Cp(fn:Func):Bool:=!(fn.name == "runtime.NumGoroutine")&&(match fn.body with|some c=>(writes c).all fun t=>Nat.blt t fn.ntmps|none=>true)
def zo(cx:Ctx):Prop:=∀f fn,find cx.fns f=some fn→Cp fn=true
theorem iU{α:Type}{l:List (Nat×α)}{k:Nat}{x:α}(h:find l k=some x):(k,x)∈l:=by
 induction l with
 | nil=>cases h
 | cons p r ih =>
   obtain⟨i,a⟩:=p;simp only[find] at h;cases hb:Nat.beq i k with
   | true =>
     rw[hb] at h;obtain rfl:=aq h;obtain rfl:=cK hb;exact jy ..
   | false=>rw[hb] at h;exact jx _ (ih h)
theorem D6{cx:Ctx}(h:(cx.fns.all fun p=>Cp p.2)=true):zo cx:=fun f fn hf=>by
 rw[rS] at h;exact h _ (iU hf)
section
variable {P:Program} {B:iy} {N:Nat} {γ:Gh} {σ:St} {a:Act} {w:World} {cx:Ctx}
def qM(tmps:Array Value):ResultVar→Sem Value
 | .tmp t=>pure (tmps.getD t undef)
 | .cell a t=>do loadVar t (←asAddr (tmps.getD a undef))
theorem mu(hc:dy P cx)(h:bP B N γ σ a w){r:ResultVar}{v:au}(hr:(qs cx σ r).run=some v):∃val,(qM a.tmps r).run P w=.ok val w∧br γ σ.mem w v .val [val]:=by
 cases r with
 | tmp t =>
   obtain rfl:=aq hr;exact⟨_,rfl,h.slots t⟩
 | cell t ty =>
   obtain⟨τ,h1,h2⟩:=bind_some hr;obtain rfl:=aq h2;obtain⟨u,val,ad,rfl,g1,g2,g3⟩:=ym (P:=P) hc (x:=.tmp t) h h1;refine⟨val,?_,?_⟩
   ·have LH:a.tmps.getD t undef=.pointer (some ad):=g1;simp only[qM,LH,asAddr,Sem.run_bind,Sem.run_pure,Result.andThen_ok,g2]
   ·simpa [St.aD,St.put] using g3
theorem uF(hc:dy P cx)(h:bP B N γ σ a w):∀{rs:List ResultVar} {v:au},(oY cx σ rs).run=some v→∃vals:List Value,vals.length=rs.length∧(rs.mapM (qM a.tmps)).run P w=.ok vals w∧br γ σ.mem w v .many vals:=by
 intro rs;induction rs with
 | nil=>intro v hr;obtain rfl:=aq hr;exact⟨[],rfl,rfl,rfl⟩
 | cons r rs ih =>
   intro v hr;obtain⟨v1,h1,h2⟩:=bind_some hr;obtain⟨l,h3,h4⟩:=bind_some h2;obtain rfl:=aq h4;obtain⟨val,g1,g2⟩:=mu hc h h1;obtain⟨vals,k1,k2,k3⟩:=ih h3;refine⟨val::vals,by simp[k1],?_,val,vals,rfl,g2,k3⟩;simp only[Bh,Sem.run_bind,g1,Result.andThen_ok,k2,Sem.run_pure]
theorem AY(fn:Func)(tmps:Array Value):results fn tmps=(do
  let vs ←fn.results.toList.mapM (qM tmps)
  pure (if h:vs.toArray.size=1 then vs.toArray[0] else .tuple vs.toArray)):=by
 have h:results fn tmps=(do
   let vs ←fn.results.mapM (qM tmps)
   pure (if h:vs.size=1 then vs[0] else .tuple vs)):=by
  unfold results
  congr 1
 rw[h,Array.mapM_eq_mapM_toList];simp only[bind_map_left]
theorem oc(hc:dy P cx)(h:bP B N γ σ a w){fn:Func}{v:au}(hr:(results1 cx σ fn.results.toList).run=some v):∃val,(results fn a.tmps).run P w=.ok val w∧br γ σ.mem w v .val [val]:=by
 rw[AY];generalize fn.results.toList=rs at hr;have many:∀{l:au},rs.length≠1→(oY cx σ rs).run=some l→∃val,(do
   let vs ←rs.mapM (qM a.tmps)
   pure (if h:vs.toArray.size=1 then vs.toArray[0] else .tuple vs.toArray):Sem Value).run P w=.ok val w∧br γ σ.mem w (.jT l) .val [val]:=by
  intro l hne hl;obtain⟨vals,k1,k2,k3⟩:=uF hc h hl;refine⟨.tuple vals.toArray,?_,vals.toArray,rfl,by simpa using k3⟩;have:¬vals.toArray.size=1:=by simp[k1,hne]
  simp only[Sem.run_bind,k2,Result.andThen_ok,Sem.run_pure,dif_neg this]
 match rs,hr with
 | [],hr =>
   obtain⟨l,h1,h2⟩:=bind_some hr;obtain rfl:=aq h2;exact many (by simp) h1
 | [r],hr =>
   obtain⟨val,g1,g2⟩:=mu hc h hr;refine⟨val,?_,g2⟩;simp only[Bh,List.mapM_nil,Sem.run_bind,g1,Result.andThen_ok,Sem.run_pure];rfl
 | r::s::rs,hr =>
   obtain⟨l,h1,h2⟩:=bind_some hr;obtain rfl:=aq h2;exact many (by simp) h1
theorem wk{mem:Nat→Option aR}(hm:aN B γ mem w){vals:List au}{xs:Array Value}(hv:fO γ mem w vals xs.toList)(n:Nat) :
  bP B (xs.size+(n-xs.size)) γ (vN mem vals) { tmps:=xs++Array.replicate (n-xs.size) undef,defers:=[] } w where
 slots:=fun t=>by
  show br γ mem w ((vals[t]?).getD .undef) .val [_]
  cases hq:vals[t]? with
  | none=>exact⟨_,rfl⟩
  | some v =>
    have ht:t<xs.size:=by
     have:=(List.getElem?_eq_some_iff.1 hq).1;have h2:=hv.1;simp at h2;omega
    have h1:xs[t]?=some xs[t]:=Array.getElem?_eq_getElem ht;have h2:(xs++Array.replicate (n-xs.size) undef).getD t undef=xs[t]:=by
     rw[zJ,Array.getElem?_append_left ht,h1];rfl
    dsimp only;rw[h2];exact hv.2 t v xs[t] hq (by simp[ht])
 size:=by simp
 defers:=rfl
 ok:=hm
noncomputable def wm(cx:Ctx)(n nb:Nat)(cI:Nat→ld):Nat→List au→St→Tree (au×St) :=
 fun g xs σ=>(mc cx n ((nb+g+1)*1000) cI g xs σ.mem).bind fun r=>.ret (r.1,{ σ with mem:=r.2 })
theorem uG{n nb f:Nat}{cI:Nat→ld}{vals:List au}{mem:Nat→Option aR}{r:au×(Nat→Option aR)}(hr:(mc cx (n+1) nb cI f vals mem).run=some r) :
  ∃fn c,find cx.fns f=some fn∧fn.body=some c∧((tc cx nb (cI f) (wm cx n nb cI) fn c vals mem).run=some r∨∃R,(Bn R vals mem (tc cx nb (cI f) (wm cx n nb cI) fn c vals)).run=some r):=by
 unfold mc at hr;split at hr
 case h_2=>cases hr
 rename_i fn hfn;split at hr
 case h_2=>cases hr
 rename_i c hb;refine⟨fn,c,hfn,hb,?_⟩;split at hr
 ·exact .inl hr
 ·exact .inr ⟨_,hr⟩
theorem oO{nb:Nat}{p:ld}{inl:Nat→List au→St→Tree (au×St)}{fn:Func}{c:Code}{vals:List au}{mem:Nat→Option aR}{r:au×(Nat→Option aR)}(hr:(tc cx nb p inl fn c vals mem).run=some r) :
  ∃e σ',(eL cx nb p.GU inl c p.marks (vN mem vals)).run=some (e,σ')∧(e=0∨e=1)∧(results1 cx σ' fn.results.toList).run=some r.1∧r.2=σ'.mem:=by
 obtain⟨q,h1,h2⟩:=bind_some hr;obtain⟨e,σ'⟩:=q;obtain⟨h3,h4⟩:=ah h2;obtain⟨v,h5,h6⟩:=bind_some h4;obtain rfl:=aq h6;refine⟨e,σ',h1,?_,h5,rfl⟩;simp only[sR] at h3;rcases h3 with h3|h3
 ·exact .inl (cK h3)
 ·exact .inr (cK h3)
theorem FC:∀{l:List Ty} {i t:Nat} {s:Sh},(t,s)∈Bm l i→∃u,s=.d u:=by
 intro l;induction l with
 | nil=>intro i t s h;cases h
 | cons a r ih =>
   intro i t s h;rcases List.mem_cons.1 h with h|h
   ·obtain⟨rfl,rfl⟩:=bY h;exact⟨a,rfl⟩
   ·exact ih h
theorem uH{R:Bool×List Ty}{vals:List au}{mem:Nat→Option aR}{F:(Nat→Option aR)→Tree (au×(Nat→Option aR))}{r:au×(Nat→Option aR)}(hr:(Bn R vals mem F).run=some r) :
  ∃(k:Carry) (x:k.ty.den) (v:au) (mem':Nat→Option aR),nL k (ep mem)∧(F (k.lock (ep mem)).mem).run=some (v,mem')∧k.out false (ep mem) (Dj R.1 v mem')=some x∧yd R.1 v R.2.length=true ∧
   r=(wO R.1 R.2.length (k.iH false false (List.range R.2.length) (ep mem) x).slots,(k.iH false false (List.range R.2.length) (ep mem) x).mem):=by
 unfold Bn at hr;split at hr
 ·cases hr
 rename_i m hm;obtain⟨x,h1,h2⟩:=qL hr;obtain⟨q,h3,h4⟩:=bind_some h1;obtain⟨h5,h4⟩:=ah h4;refine⟨⟨Bm R.2 0,m,fun _=>false⟩,x,q.1,q.2,⟨fun t s hts=>?_,D2 hm,fun b x hb=>(by cases hb)⟩,h3,uE h4,h5,(aq h2).symm⟩;obtain⟨u,rfl⟩:=FC hts;trivial
theorem D7{γ:Gh}{mem:Nat→Option aR}{w:World}:∀{m:au} {vs:List Value},br γ mem w m .many vs→s9 m=vs.length∧∀(t:Nat) (u:au),nth m t=some u→∃v,vs[t]?=some v∧br γ mem w u .val [v]:=by
 intro m;induction m with
 | mix a b _ fE =>
   intro vs h;obtain⟨v,r,rfl,h1,h2⟩:=h;obtain⟨h3,h4⟩:=fE h2;refine⟨by simp only[s9,CV,h3],fun t u ht=>?_⟩;cases t with
   | zero=>obtain rfl:=aq ht;exact⟨v,rfl,h1⟩
   | succ t=>exact h4 t u ht
 | nl=>intro vs h;obtain rfl:vs=[]:=h;exact⟨rfl,fun t u ht=>(by cases t<;>cases ht)⟩
 | _=>intro vs h;exact h.elim
theorem Cq{γ:Gh}{mem:Nat→Option aR}{w:World}{slots:Nat→au}:∀(vs:List Value) (i:Nat),(∀(t:Nat) (v:Value),vs[t]?=some v→br γ mem w (slots (i+t)) .val [v])→br γ mem w (GX slots i vs.length) .many vs:=by
 intro vs;induction vs with
 | nil=>intro i h;exact rfl
 | cons v r ih =>
   intro i h;refine⟨v,r,rfl,h 0 v rfl,ih (i+1) fun t u hu=>?_⟩;have:=h (t+1) u (by simpa using hu)
   rwa [show i+(t+1)=i+1+t by omega] at this
theorem AZ{cI:Nat→ld}:∀(n nb f:Nat) (vals:List au) (mem:Nat→Option aR) (r:au×(Nat→Option aR)),(mc cx n nb cI f vals mem).run=some r→∀b bx,mem b=some bx→bx.lk=true→r.2 b=some bx:=by
 intro n;induction n with
 | zero=>intro nb f vals mem r h;cases h
 | succ n ih =>
   intro nb f vals mem r h b bx hb hl;obtain⟨fn,c,h1,h2,h3⟩:=uG h;have body:∀{mem:Nat→Option aR} {r:au×(Nat→Option aR)},(tc cx nb (cI f) (wm cx n nb cI) fn c vals mem).run=some r→∀b bx,mem b=some bx→bx.lk=true→r.2 b=some bx:=by
    intro mem r h b bx hb hl;obtain⟨e,σ',h3,h4,h5,h6⟩:=oO h;have:=jR (fun f vals σ v σ' hi=>by
     obtain⟨q,g1,g2⟩:=bind_some (show((mc cx n ((nb+f+1)*1000) cI f vals σ.mem).bind fun r=>.ret (r.1,{ σ with mem:=r.2 })).run=some (v,σ') from hi);obtain⟨rfl,rfl⟩:=bY (aq g2);exact fun b bx hb hl=>ih _ _ _ _ q g1 b bx hb hl) c _ _ _ h3
    rw[h6];exact this b bx hb hl
   rcases h3 with h3|⟨R,h3⟩
   ·exact body h3 b bx hb hl
   ·obtain⟨k,x,v,mem',hk,_,_,_,rfl⟩:=uH h3;exact mZ (fz:=false) (lock:=false) (wr:=List.range R.2.length) (x:=x) hk b bx hb hl
theorem uI{cI:Nat→ld}(n nb:Nat):∀f vals σ v σ',(wm cx n nb cI f vals σ).run=some (v,σ')→aH σ σ':=by
 intro f vals σ v σ' hi;obtain⟨q,g1,g2⟩:=bind_some (show((mc cx n ((nb+f+1)*1000) cI f vals σ.mem).bind fun r=>.ret (r.1,{ σ with mem:=r.2 })).run=some (v,σ') from hi);obtain⟨rfl,rfl⟩:=bY (aq g2);exact fun b bx hb hl=>AZ _ _ _ _ _ q g1 b bx hb hl
theorem rH(lD:P.follows .mixedOrders=true)(hc:dy P cx){G:eM}(cQ:ia P G cx)(A0:zo cx){cI:Nat→ld} :
  ∀(n nb f:Nat) (B:iy) (γ:Gh) (mem mem':Nat→Option aR) (w:World) (vals:List au) (xs:Array Value) (v:au),B.G=G→aN B γ mem w→fO γ mem w vals xs.toList→(mc cx n nb cI f vals mem).run=some (v,mem') →
  (∃fn code,P.funcs[f]?=some fn∧(fn.name == "runtime.NumGoroutine")=false∧fn.body=some code) ∧
  Calls P f xs w fun e w'=>∃val γ',e=.returned val∧aN B γ' mem' w'∧Ext B γ mem w γ' mem' w'∧br γ' mem' w' v .val [val]:=by
 intro n;induction n with
 | zero=>intro nb f B γ mem mem' w vals xs v _ _ _ h;cases h
 | succ n ih =>
   intro nb f B γ mem mem' w vals xs v hG hm hv h;subst hG;obtain⟨fn,c,h1,h2,h3⟩:=uG h;have hok:=A0 f fn h1;simp only[Cp,h2,cA,ny,rS] at hok;have hP:=hc.fns f fn h1;refine⟨⟨fn,c,hP,hok.1,h2⟩,?_⟩;have fD:jY P B.G (wm cx n nb cI):=by
    intro B' γ σ Fo w f vals xs v hG hm hv hi;obtain⟨q,g1,g2⟩:=bind_some (show((mc cx n ((nb+f+1)*1000) cI f vals σ.mem).bind fun r=>.ret (r.1,{ σ with mem:=r.2 })).run=some (v,Fo) from hi);obtain⟨rfl,rfl⟩:=bY (aq g2);obtain⟨k1,k2⟩:=ih _ f B' γ σ.mem q.2 w vals xs q.1 hG hm hv g1;exact⟨k1,rfl,k2⟩
   have body:∀{γ:Gh} {mem mem':Nat→Option aR} {v:au},aN B γ mem w→fO γ mem w vals xs.toList→(tc cx nb (cI f) (wm cx n nb cI) fn c vals mem).run=some (v,mem') →
     Calls P f xs w fun e w'=>∃val γ',e=.returned val∧aN B γ' mem' w'∧Ext B γ mem w γ' mem' w'∧br γ' mem' w' v .val [val]:=by
    intro γ mem mem' v hm hv h;obtain⟨e,σ',h3,h4,h5,h6⟩:=oO h;dsimp only at h5 h6;subst h6;refine calls_of_wp hP h2 ?_;refine nc (B:=B) lD hc cQ fD (uI _ _) c (fun t ht=>?_) h3 (wk hm hv fn.ntmps) fun γ' a' w' s x f=>?_
    ·have:=hok.2 t ht;have:=rR (by simpa [Nat.blt] using this);omega
    ·obtain⟨val,r1,r2⟩:=oc (fn:=fn) hc s h5;have:a'.defers=[]∧∃v1,(results fn a'.tmps).run P w'=.ok v1 w'∧∃val γ',Ending.returned v1=.returned val∧aN B γ' σ'.mem w'∧Ext B γ mem w γ' σ'.mem w'∧br γ' σ'.mem w' v .val [val] :=
      ⟨s.defers,val,r1,val,γ',rfl,s.ok,x,r2⟩
     rcases h4 with rfl|rfl
     ·exact this
     ·exact this
   rcases h3 with h3|⟨R,h3⟩
   ·exact body hm hv h3
   ·obtain⟨k,x,v1,D8,hk,h4,h5,hsp,h6⟩:=uH h3;obtain⟨rfl,rfl⟩:=bY h6;have Fa:(k.lock (ep mem)).mem=jn (fun b bx=>bif jF k.M b then bx.lk else true) mem:=p6 k (ep mem);have Kq:aN B γ (k.lock (ep mem)).mem w:=by rw[Fa];exact hm.jn
    have hx1:Ext B γ mem w γ (k.lock (ep mem)).mem w:=by rw[Fa];exact Ext.jn
    have hkeep:∀b bx,(k.lock (ep mem)).mem b=some bx→bx.lk=true→D8 b=some bx:=by
     intro b bx hb hl;obtain⟨e,σ',g3,_,_,g6⟩:=oO h4;have:=jR (fun f vals σ v σ' hi=>uI n nb f vals σ v σ' hi) c _ _ _ g3;rw[show D8=σ'.mem from g6];exact this b bx hb hl
    refine(body Kq (hv.ext hx1) h4).mono fun e w' hw=>?_;obtain⟨val,dX,rfl,m1,x1,r1⟩:=hw;have fin:∀(n:Nat) (ts:Array Value),ts.size=n→n=R.2.length→(∀t,br dX D8 w' (spread R.1 v1 t) .val [ts.getD t undef]) →
      (∀{FD:Nat→Option aR} {sl:Nat→au},(∀t,br dX FD w' (sl t) .val [ts.getD t undef])→br dX FD w' (wO R.1 R.2.length sl) .val [val]) →
      ∃IL nY,Ending.returned val=.returned IL∧aN B nY (k.iH false false (List.range R.2.length) (ep mem) x).mem w'∧Ext B γ mem w nY (k.iH false false (List.range R.2.length) (ep mem) x).mem w' ∧
       br nY (k.iH false false (List.range R.2.length) (ep mem) x).mem w' (wO R.1 R.2.length (k.iH false false (List.range R.2.length) (ep mem) x).slots) .val [IL]:=by
     intro n ts hts hn hr hg;have s0:bP B n γ (ep mem) { tmps:=Array.replicate n undef,defers:=[] } w:=⟨fun t=>⟨_,rfl⟩,by simp,rfl,hm⟩;have s1:bP B n dX (Dj R.1 v1 D8) { tmps:=ts,defers:=[] } w':=⟨hr,hts,rfl,m1⟩;obtain⟨s2,x2⟩:=iT (lock:=false) (wr:=List.range R.2.length) hk s0 s1 (hx1.trans x1) (fun t ht=>by
      have ht:¬t<n:=fun hlt=>by
       have hmem:t∈List.range R.2.length:=List.mem_range.2 (by omega);have:bN (List.range R.2.length) t=true:=pM.2 hmem;rw[this] at ht;cases ht
      rw[CS (by show ts.size≤t;omega),CS (by simp;omega)]) (fun b bx hb hin=>⟨true,hkeep b _ (by rw[Fa];simp only[jn,show mem b=some bx from hb,hin,eD]) rfl⟩) h5
     exact⟨val,dX,rfl,s2.ok,x2,hg s2.slots⟩
    obtain⟨jT,L⟩:=R;cases jT with
    | false =>
      have hL:L.length=1:=cK hsp;refine fin 1 #[val] rfl hL.symm (fun t=>?_) (fun h=>h 0);cases t with
      | zero=>exact r1
      | succ t=>exact⟨_,rfl⟩
    | true =>
      cases v1 with
      | jT m =>
        obtain⟨arr,e1,r2⟩:=r1;obtain⟨q1,q2⟩:=D7 r2;have hL:s9 m=L.length:=cK hsp;obtain rfl:val=.tuple arr:=sP e1;have hsz:arr.size=L.length:=by rw[←hL,q1];simp
        refine fin L.length arr hsz rfl (fun t=>?_) (fun {FD sl} h=>⟨arr,rfl,?_⟩)
        ·show br dX D8 w' (match nth m t with|some u=>u|none=>.undef) .val _
         cases ht:nth m t with
         | none=>exact⟨_,rfl⟩
         | some u =>
           obtain⟨v,g1,g2⟩:=q2 t u ht;dsimp only;rw[zJ,←GN,g1];exact g2
        ·have:=Cq (γ:=dX) (mem:=FD) (w:=w') (slots:=sl) arr.toList 0 fun t v ht=>by
          have:=h t;rw[zJ,←GN,ht] at this;rw[kS];exact this
         rwa [show arr.toList.length=L.length by rw[←hsz];simp] at this
      | _=>cases hsp
end
end Go.Ge
namespace Go.Ge
variable [Lp]
open RowKit
section
variable {P:Program} {B:iy} {N:Nat} {γ:Gh} {σ:St} {a:Act} {w:World} {cx:Ctx}
theorem xM{mem:Nat→Option aR}{I:Nat→Nat→Prop}{loc:Nat→Option (Nat×Nat)}:∀{A:Ty} {x:A.den} {xs:List Value},dV w I A x xs→fO ⟨I,loc⟩ mem w (qt A x) xs:=by
 intro A;induction A with
 | pair t r zS ihr =>
   intro x xs h;obtain⟨cs,rest,rfl,h1,h2⟩:=h;have:=ihr h2;refine⟨by simp[qt,this.1],fun i v y hv hy=>?_⟩;cases i with
   | zero =>
     obtain rfl:=aq hv;obtain rfl:=aq hy;exact⟨cs,h1,rfl⟩
   | succ i=>exact this.2 i v y (by simpa [qt] using hv) (by simpa using hy)
 | unit=>intro x xs h;rw[show xs=[] from h];exact⟨rfl,fun i v y hv=>by cases hv⟩
 | _=>intro x xs h;exact h.elim
theorem zp(hm:aN B γ σ.mem w){I':Nat→Nat→Prop}(hI:∀b o,γ.I b o→I' b o)(CO:∀b o,B.has b→b<w.heap.size→I' b o):∀{R:Ty} {y:R.den} {u:au} {vs:List Value},
  br γ σ.mem w u .many vs→dR σ R (oZ u)=some y→br ⟨I',fun _=>none⟩ (fun _=>none) w (mG R y) .many vs:=by
 intro R;induction R with
 | pair t r zS ihr =>
   intro y u vs hu hl;cases u with
   | mix p q =>
     obtain⟨v,rest,rfl,h1,h2⟩:=hu;simp only[oZ,dR] at hl;split at hl
     ·rename_i x z hx hz;obtain rfl:=aq hl;obtain⟨cs,c1,c2⟩:=tN hm hI CO h1 hx;exact⟨v,rest,rfl,⟨cs,c1,by rw[c2]⟩,ihr h2 hz⟩
     ·cases hl
   | _=>cases hl
 | unit =>
   intro y u vs hu hl;cases u with
   | mix p q=>cases hl
   | nl=>exact hu
   | _=>exact(show False from hu).elim
 | _=>intro y u vs hu hl;cases u<;>cases hl
theorem wo(hm:aN B γ σ.mem w){I':Nat→Nat→Prop}(hI:∀b o,γ.I b o→I' b o)(CO:∀b o,B.has b→b<w.heap.size→I' b o){R:Ty}{y:R.den}{v:au}{val:Value}
  (hv:br γ σ.mem w v .val [val]) (hl:dR σ R (o5 R v)=some y):fN w I' R y val:=by
 have many:∀{R:Ty} {y:R.den},(jB R y=.jT (mG R y))→(dR σ R (match v with|.jT v=>oZ v|v=>[v])=some y)→(∀t,R≠.pair t .unit)→fN w I' R y val:=by
  intro R y hres hl hne;unfold fN;rw[hres];have one:∀{v':au},dR σ R [v']=some y→False:=by
   intro v' h;cases R with
   | pair t r =>
     simp only[dR] at h;split at h
     ·rename_i hr;cases r with
      | unit=>exact hne t rfl
      | _=>cases hr
     ·cases h
   | _=>cases h
  cases v with
  | jT u =>
    obtain⟨arr,h1,h2⟩:=hv;exact⟨arr,h1,zp hm hI CO h2 hl⟩
  | _=>exact(one hl).elim
 cases R with
 | pair t r =>
   cases r with
   | unit =>
     simp only[o5,dR] at hl;split at hl
     ·rename_i x z hx hz;obtain rfl:=aq hl;obtain⟨cs,c1,c2⟩:=tN hm hI CO hv hx;exact⟨cs,c1,by rw[c2]⟩
     ·cases hl
   | _=>exact many rfl (by cases v<;>exact hl) (fun t e=>by cases e)
 | _=>exact many rfl (by cases v<;>exact hl) (fun t e=>by cases e)
theorem xN(lD:P.follows .mixedOrders=true)(hc:dy P cx){G:eM}(cQ:ia P G cx)(A0:zo cx){cI:Nat→ld}{n f:Nat}{A R:Ty}{spec:A.den→Option R.den}
  {fn:Func} {code:Code} (hfn:find cx.fns f=some fn) (hbody:fn.body=some code) (h:∀x y,spec x=some y→sem cx n cI f A R x=some y):Holds P G f ⟨A,R,spec⟩ where
 body:=by
  have hok:=A0 f fn hfn;simp only[Cp,hbody,cA,ny] at hok;exact⟨fn,code,hc.fns f fn hfn,hok.1,hbody⟩
 calls:=by
  intro I w args x y hI hG hargs hspec;have hs:=h x y hspec;unfold sem at hs;obtain⟨r,h1,h2⟩:=bind_some hs;obtain⟨v,mem'⟩:=r;have hl:dR (ep mem') R (o5 R v)=some y:=by
   dsimp only at h2;split at h2
   ·rename_i y' hy';obtain rfl:=aq h2;exact hy'
   ·cases h2
  have hm:aN (jl G w.heap.size) ⟨I,fun _=>none⟩ (fun _=>none) w :=
   { b6:=fun b Q g=>by
      obtain⟨o,h1,h2⟩:=hG b Q g;exact⟨fun hb=>by have:=jH.1 hb;have:=(Array.getElem?_eq_some_iff.1 h1).1;omega,o,h1,h2⟩
     base:=en _
     boxes:=fun b bx hb=>by cases hb
     inj:=fun b c blk k k' hb=>absurd rfl hb
     fresh:=fun b blk k hb=>absurd rfl hb
     jJ:=hI
     sep:=fun b bx blk k off hb=>by cases hb }
  obtain⟨_,tP⟩:=rH lD hc cQ A0 n 0 f (jl G w.heap.size) ⟨I,fun _=>none⟩ (fun _=>none) mem' w (qt A x) args v rfl hm (xM hargs) h1;refine tP.mono fun e w' hw=>?_;obtain⟨val,γ',rfl,m1,x1,r1⟩:=hw;refine⟨val,fun b o=>γ'.I b o∨(w.heap.size≤b∧b<w'.heap.size),rfl,x1.below.below,fun b o hi=>.inl (x1.I b o hi),fun b o hi=>?_,fun b o hi hn=>?_,?_⟩
  ·rcases hi with hi|hi
   ·exact m1.jJ b o hi
   ·exact hi.2
  ·rcases hi with hi|hi
   ·exact jH.1 ((x1.jK b o hi).resolve_left hn)
   ·exact hi.1
  ·exact wo (σ:=ep mem') m1 (fun b o hi=>.inl hi) (fun b o h1 h2=>.inr ⟨jH.1 h1,h2⟩) r1 hl
def uJ(N M:List (Nat×Nat))(bs:List Nat)(ls:List (Option (Nat×Nat))):Nat→Option (Nat×Nat):=dN M ls (dN N (bs.map fun b=>some (b,0)) fun _=>none)
theorem FE{I:Nat→Nat→Prop}{N M:List (Nat×Nat)}{bs:List Nat}{ls:List (Option (Nat×Nat))}(hd:(aK N M).Nodup)(hM:M.length=ls.length):gW ⟨I,uJ N M bs ls⟩ M ls:=by
 unfold aK at hd;exact lW (List.nodup_append.1 hd).2.1 hM
theorem FF{I:Nat→Nat→Prop}{N M:List (Nat×Nat)}{bs:List Nat}{ls:List (Option (Nat×Nat))}(hd:(aK N M).Nodup)(hN:N.length=bs.length):ef ⟨I,uJ N M bs ls⟩ N bs:=by
 unfold aK at hd;obtain⟨h1,h2,h3⟩:=List.nodup_append.1 hd;have e:=lW (loc:=fun _=>none) h1 (ls:=bs.map fun b=>some (b,0)) (by simp[hN]);unfold ef;have e2:N.map (fun p=>(uJ N M bs ls p.1).map (·.1))=(N.map fun p=>dN N (bs.map fun b=>some (b,0)) (fun _=>none) p.1).map (Option.map (·.1)):=by
  rw[Bj];refine BI fun p hp=>?_;show(dN M ls _ p.1).map _=_
  rw[oH fun hq=>h3 p.1 (List.mem_map.2 ⟨p,hp,rfl⟩) p.1 hq rfl];rfl
 exact e2.trans (by rw[e,Bj];rfl)
theorem D9{N M:List (Nat×Nat)}{bs:List Nat}{ls:List (Option (Nat×Nat))}(hN:ef γ N bs)(hM:gW γ M ls)(hd:(bI bs ls).Nodup){b c blk k k':Nat}(hb:b∈aK N M)(hc:c∈aK N M)
  (e1:γ.loc b=some (blk,k)) (e2:γ.loc c=some (blk,k')):b=c:=by
 unfold bI at hd;obtain⟨d1,d2,d3⟩:=List.nodup_append.1 hd;have Ea:∀{b k},b∈N.map (·.1)→γ.loc b=some (blk,k)→∃i v:Nat,N[i]?=some (b,v)∧bs[i]?=some blk:=by
  intro b k hb e;obtain⟨p,hp,rfl⟩:=List.mem_map.1 hb;obtain⟨i,hi,Gt⟩:=CT hp;refine⟨i,p.2,by rw[qg hi,Gt],?_⟩;have:=congrArg (fun l=>l[i]?) hN;simp only[sQ,qg hi,Gt,rT,e] at this;cases hq:bs[i]? with
  | none=>rw[hq] at this;cases this
  | some x=>rw[hq] at this;simp at this;rw[this]
 have jF:∀{b k},b∈M.map (·.1)→γ.loc b=some (blk,k)→∃i v:Nat,M[i]?=some (b,v)∧ls[i]?=some (some (blk,k)):=by
  intro b k hb e;obtain⟨p,hp,rfl⟩:=List.mem_map.1 hb;obtain⟨i,hi,Gt⟩:=CT hp;refine⟨i,p.2,by rw[qg hi,Gt],?_⟩;rw[←hM,sQ,qg hi,Gt,rT,e]
 have hmem:∀{i k:Nat},ls[i]?=some (some (blk,k))→blk∈ls.filterMap fun L=>L.map (·.1):=fun h=>List.mem_filterMap.2 ⟨_,zL h,rfl⟩;unfold aK at hb hc;rcases List.mem_append.1 hb with hb|hb<;>rcases List.mem_append.1 hc with hc|hc
 ·obtain⟨i,v,i1,i2⟩:=Ea hb e1;obtain⟨j,v',j1,j2⟩:=Ea hc e2;have hij:i=j:=(List.getElem?_inj (List.getElem?_eq_some_iff.1 i2).1 d1).1 (i2.trans j2.symm);subst hij;rw[i1] at j1;exact(bY (aq j1)).1
 ·obtain⟨i,v,i1,i2⟩:=Ea hb e1;obtain⟨j,v',j1,j2⟩:=jF hc e2;exact absurd rfl (d3 blk (zL i2) blk (hmem j2))
 ·obtain⟨i,v,i1,i2⟩:=jF hb e1;obtain⟨j,v',j1,j2⟩:=Ea hc e2;exact absurd rfl (d3 blk (zL j2) blk (hmem i2))
 ·obtain⟨i,v,i1,i2⟩:=jF hb e1;obtain⟨j,v',j1,j2⟩:=jF hc e2;have hij:=DB d2 i2 j2;subst hij;rw[i1] at j1;exact(bY (aq j1)).1
theorem uK{k:Nat}:∀{n:Nat},(fW k n).length=n:=by
 intro n;induction n generalizing k with
 | zero=>rfl
 | succ n ih=>simp[fW,ih]
theorem uL{k:Nat}:∀{n:Nat},(iu k n).length=n:=by
 intro n;induction n generalizing k with
 | zero=>rfl
 | succ n ih=>simp[iu,ih]
theorem Cr:∀{a k b:Nat},(fW k (a+b)).drop a=fW (k+a) b:=by
 intro a;induction a with
 | zero=>intro k b;rw[kS];rfl
 | succ a ih =>
   intro k b;rw[show a+1+b=(a+b)+1 by omega];show(fW (k+1) (a+b)).drop a=_
   rw[ih,show k+1+a=k+(a+1) by omega]
theorem Cs:∀{a k b:Nat},(iu k (a+b)).drop a=iu (k+a) b:=by
 intro a;induction a with
 | zero=>intro k b;rw[kS];rfl
 | succ a ih =>
   intro k b;rw[show a+1+b=(a+b)+1 by omega];show(iu (k+1) (a+b)).drop a=_
   rw[ih,show k+1+a=k+(a+1) by omega]
def A1:OT→Nat→au
 | .pair o U,k=>.mix (.ptr (o6 k) 0 []) (A1 U (k+o.nr))
 | _,_=>.data .unit ()
theorem A2{mem:Nat→Option aR}:∀{ps:List Bool} {A:Ty} {U:OT} {x:A.den} {u:U.den} {xs eo:List Value} {k m:Nat},yz w γ.I ps A U x xs eo→br γ mem w (sY U u (fW k U.nr) (iu m U.nb)) .cells eo →
  fO γ mem w (o7 ps U A x k) xs∧sY U u (fW k U.nr) (iu m U.nb)=A1 U k:=by
 intro ps;induction ps with
 | nil =>
   intro A U x u xs eo k m h hr;obtain⟨_,rfl,rfl,_⟩:=h;exact⟨⟨rfl,fun i v y hv=>by cases hv⟩,rfl⟩
 | cons p ps ih =>
   intro A U x u xs eo k m h hb;cases p with
   | false =>
     cases A<;>first|(exact(show False from h).elim)|skip
     rename_i t A;obtain⟨cs,rest,rfl,h1,h2⟩:=h;obtain⟨this,hc⟩:=ih h2 hb;refine⟨⟨by simp[o7,this.1],fun i v y hv hy=>?_⟩,hc⟩;cases i with
     | zero =>
       obtain rfl:=aq hv;obtain rfl:=aq hy;exact⟨cs,h1,rfl⟩
     | succ i=>exact this.2 i v y (by simpa [o7] using hv) (by simpa using hy)
   | true =>
     cases U<;>first|(exact(show False from h).elim)|skip
     rename_i o U;cases o<;>first|(exact(show False from h).elim)|skip
     rename_i tid o;obtain⟨val,rest,r,rfl,rfl,h1⟩:=h;have e1:sY (.pair (.ref tid o) U) u (fW k (OT.pair (.ref tid o) U).nr) (iu m (OT.pair (.ref tid o) U).nb)=.mix (.ptr (o6 k) 0 []) (sY U u.2 (fW (k+(OT.ref tid o).nr) U.nr) (iu (m+(OT.ref tid o).nb) U.nb)):=by
      rw[←Cr,←Cs];show au.mix (sY (.ref tid o) u.1 _ _) _=_
      congr 1
      show(match(fW k (o.nr+1+U.nr)).take (o.nr+1) with|(b,v)::_=>au.ptr b v []|[]=>.undef)=_
      rw[show o.nr+1+U.nr=(o.nr+U.nr)+1 by omega];rfl
     rw[e1] at hb⊢;obtain⟨c1,c2,e2,v1,v2⟩:=hb;obtain⟨v,rfl⟩:∃v,c1=[v]:=by obtain⟨⟨v,e,_⟩,_⟩:=v1;exact⟨v,e⟩
     obtain⟨rfl,rfl⟩:=C9 e2;obtain⟨this,hc⟩:=ih h1 v2;refine⟨⟨by simp[o7,this.1],fun i v' y hv hy=>?_⟩,?_⟩
     ·cases i with
      | zero =>
        obtain rfl:=aq hv;obtain rfl:=aq hy;exact v1
      | succ i=>exact this.2 i v' y (by simpa [o7] using hv) (by simpa using hy)
     ·rw[hc];rfl
theorem A3{mem:Nat→Option aR}:∀{U:OT} {k:Nat} {u:U.den} {N M:List (Nat×Nat)},ye mem U k=some (u,N,M)→bV mem U (A1 U k)=some (u,N,M):=by
 intro U;induction U with
 | pair o U _ LI =>
   intro k u N M h;unfold ye at h;split at h
   ·rename_i x N1 M1 y N2 M2 h1 h2;cases h;exact qH h1 (LI h2)
   ·cases h
 | unit=>intro k u N M h;cases h;rfl
 | _=>intro k u N M h;cases h
theorem Ct:∀{a b:List (Nat×Nat)},wP a b=true→a=b:=by
 intro a;induction a with
 | nil=>intro b h;cases b with|nil=>rfl|cons _ _=>cases h
 | cons p r ih =>
   intro b h;obtain⟨x,y⟩:=p;cases b with
   | nil=>cases h
   | cons q s =>
     obtain⟨z,v⟩:=q;simp only[wP,cA] at h;rw[cK h.1.1,cK h.1.2,ih h.2]
theorem Cu:∀{n k:Nat} {p:Nat×Nat},p∈fW k n→p.2=0:=by
 intro n;induction n with
 | zero=>intro k p h;cases h
 | succ n ih =>
   intro k p h;rcases List.mem_cons.1 h with rfl|h
   ·rfl
   ·exact ih h
theorem xO:∀{a b:List Nat},a.map some=b.map some→a=b:=by
 intro a;induction a with
 | nil=>intro b h;cases b with|nil=>rfl|cons _ _=>cases h
 | cons x r ih =>
   intro b h;cases b with
   | nil=>cases h
   | cons y s =>
     simp only[jj,BK,iX] at h;rw[h.1,ih h.2]
theorem A4{mem:Nat→Option aR}:∀{u:au} {vs:List Value},br γ mem w u .many vs→fO γ mem w (oZ u) vs:=by
 intro u;induction u with
 | mix p q lq kO =>
   intro vs h;obtain⟨v,r,rfl,h1,h2⟩:=h;have:=kO h2;refine⟨by simp[oZ,this.1],fun i v' y hv hy=>?_⟩;cases i with
   | zero =>
     obtain rfl:=aq hv;obtain rfl:=aq hy;exact h1
   | succ i=>exact this.2 i v' y (by simpa [oZ] using hv) (by simpa using hy)
 | nl=>intro vs h;rw[show vs=[] from h];exact⟨rfl,fun i v y hv=>by cases hv⟩
 | _=>intro vs h;exact(show False from h).elim
theorem A5{I:Nat→Nat→Prop}:∀{R:Ty} {y:R.den} {vs:List Value},dV w I R y vs→br ⟨I,fun _=>none⟩ (fun _=>none) w (mG R y) .many vs:=by
 intro R;induction R with
 | pair t r zS ihr =>
   intro y vs h;obtain⟨cs,rest,rfl,h1,h2⟩:=h;exact⟨_,rest,rfl,⟨cs,h1,rfl⟩,ihr h2⟩
 | unit=>intro y vs h;exact h
 | _=>intro y vs h;exact h.elim
theorem zq{mem:Nat→Option aR}{v:au}{x:Value}(h:br γ mem w v .val [x]):fO γ mem w [v] [x]:=by
 refine⟨rfl,fun i v' y hv hy=>?_⟩;cases i with
 | zero =>
   obtain rfl:=aq hv;obtain rfl:=aq hy;exact h
 | succ i=>cases hv
theorem A6{mem:Nat→Option aR}{R:Ty}{v:au}{val:Value}(hv:br γ mem w v .val [val]) :
  ∃xs,fO γ mem w (o5 R v) xs∧∀(I:Nat→Nat→Prop) (y:R.den),dV w I R y xs→fN w I R y val:=by
 have other:∀{R:Ty},(∀t,R≠.pair t .unit)→(∀y,jB R y=.jT (mG R y))→∃xs,fO γ mem w (match v with|.jT v=>oZ v|v=>[v]) xs∧∀(I:Nat→Nat→Prop) (y:R.den),dV w I R y xs→fN w I R y val:=by
  intro R hne hres;have one:fO γ mem w [v] [val]→∃xs,fO γ mem w [v] xs∧∀(I:Nat→Nat→Prop) (y:R.den),dV w I R y xs→fN w I R y val:=by
   intro h1;refine⟨[val],h1,fun I y h=>?_⟩;exfalso;cases R with
   | pair t r =>
     obtain⟨cs,rest,e,_,h2⟩:=h;obtain⟨_,rfl⟩:=C9 e;cases r with
     | unit=>exact hne t rfl
     | pair a b=>obtain⟨_,_,e2,_⟩:=h2;cases e2
     | _=>exact h2.elim
   | unit=>cases (show [val]=[] from h)
   | _=>exact h.elim
  cases v with
  | jT u =>
    obtain⟨arr,h1,h2⟩:=hv;refine⟨arr.toList,A4 h2,fun I y h=>?_⟩;unfold fN;rw[hres];exact⟨arr,h1,A5 h⟩
  | _=>exact one (zq hv)
 cases R with
 | pair t r =>
   cases r with
   | unit =>
     refine⟨[val],by cases v<;>exact zq hv,fun I y h=>?_⟩;obtain⟨cs,rest,e,h1,h2⟩:=h;obtain⟨rfl,_⟩:=C9 e;exact⟨cs,h1,rfl⟩
   | _ =>
     cases v<;>exact other (fun t' e=>by cases e) (fun y=>rfl)
 | _ =>
   cases v<;>exact other (fun t' e=>by cases e) (fun y=>rfl)
theorem vF(lD:P.follows .mixedOrders=true)(hc:dy P cx){G:eM}(cQ:ia P G cx)(A0:zo cx){cI:Nat→ld}{n f:Nat}{ps:List Bool}{A:Ty}{U:OT}{R:Ty}{spec:A.den×U.den→Option (R.den×U.den)}
  {fn:Func} {code:Code} (hfn:find cx.fns f=some fn) (hbody:fn.body=some code) (h:∀x y,spec x=some y→GY cx n cI f ps A U R x=some y):cg P G f ⟨ps,A,U,R,spec⟩ where
 body:=by
  have hok:=A0 f fn hfn;simp only[Cp,hbody,cA,ny] at hok;exact⟨fn,code,hc.fns f fn hfn,hok.1,hbody⟩
 calls:=by
  intro I w args eo bs ls x u y hI hG LJ hargs Hr hnd hspec;have hs:=h (x,u) y hspec;unfold GY at hs;obtain⟨r,h1,h2⟩:=bind_some hs;obtain⟨v,mem'⟩:=r;obtain⟨y1,y2⟩:=y;have hg:∃σ1 M,eX (ep mem') R (o5 R v)=some (y1,σ1)∧ye σ1.mem U 0=some (y2,fW 0 U.nr,M)∧(aK (fW 0 U.nr) M).Nodup∧(aK (fW 0 U.nr) (iu 0 U.nb)).Nodup:=by
   dsimp only at h2;split at h2
   ·rename_i y' σ1 hy';split at h2
    ·rename_i u' N M Ff;obtain⟨h3,h4⟩:=ah h2;simp only[cA] at h3;obtain rfl:=Ct h3.1.1;cases h4;exact⟨σ1,M,hy',Ff,qD.1 h3.1.2,qD.1 h3.2⟩
    ·cases h2
   ·cases h2
  obtain⟨σ1,M1,hg1,LK,hd1,hd0⟩:=hg;have hlen:=Hr.len;have hNb:ef ⟨I,uJ (fW 0 U.nr) (iu 0 U.nb) bs ls⟩ (fW 0 U.nr) bs:=FF hd0 (by rw[uK,hlen.1]);have JV:gW ⟨I,uJ (fW 0 U.nr) (iu 0 U.nb) bs ls⟩ (iu 0 U.nb) ls:=FE hd0 (by rw[uL,hlen.2]);have hin:ru (dZ U u (fW 0 U.nr) (iu 0 U.nb)) U u (fW 0 U.nr) (iu 0 U.nb):=yB uK uL hd0 fun c bx IM=>IM;have Ak:∀{c bx},dZ U u (fW 0 U.nr) (iu 0 U.nb) c=some bx→_:=fun {c bx} IM=>vS (γ:=⟨I,uJ (fW 0 U.nr) (iu 0 U.nb) bs ls⟩) Hr hNb JV hin IM;have hm:aN ⟨w.heap.size,(·∈bI bs ls),G⟩ ⟨I,uJ (fW 0 U.nr) (iu 0 U.nb) bs ls⟩ (dZ U u (fW 0 U.nr) (iu 0 U.nb)) w :=
   { b6:=fun b Q g=>by
      obtain⟨o,h1,h2⟩:=hG b Q g;refine⟨fun hb=>?_,o,h1,h2⟩;have:=(Array.getElem?_eq_some_iff.1 h1).1;rcases hb with hb|hb
      ·exact absurd this (by have hb':w.heap.size≤b:=hb;omega)
      ·exact LJ b Q g hb
     base:=en _
     boxes:=fun b bx hb=>(Ak hb).1
     inj:=fun b c blk k k' hb IM e1 e2=>by
      obtain⟨bx,gN⟩:=Option.ne_none_iff_exists'.1 hb;obtain⟨Kh,xV⟩:=Option.ne_none_iff_exists'.1 IM;exact D9 hNb JV hnd (gB gN) (gB xV) e1 e2
     fresh:=fun b blk k hb e1=>by
      obtain⟨bx,gN⟩:=Option.ne_none_iff_exists'.1 hb;obtain⟨_,_,g⟩:=Ak gN;obtain⟨g1,⟨z,g2⟩,_⟩:=g blk k e1;exact⟨.inr g1,(Array.getElem?_eq_some_iff.1 g2).1⟩
     jJ:=hI
     sep:=fun b bx blk k off hb e1 hi=>by
      obtain⟨_,_,g⟩:=Ak hb;exact absurd hi ((g blk k e1).2.2 off) }
  have qw:=Bq (γ:=⟨I,uJ (fW 0 U.nr) (iu 0 U.nb) bs ls⟩) Hr hNb JV hin;obtain⟨hv,hchain⟩:=A2 (γ:=⟨I,uJ (fW 0 U.nr) (iu 0 U.nb) bs ls⟩) hargs qw;rw[hchain] at qw;obtain⟨_,tP⟩:=rH lD hc cQ A0 n 0 f ⟨w.heap.size,(·∈bI bs ls),G⟩ ⟨I,uJ (fW 0 U.nr) (iu 0 U.nb) bs ls⟩ (dZ U u (fW 0 U.nr) (iu 0 U.nb)) mem' w (o7 ps U A x 0) args v rfl hm hv h1;refine tP.mono fun e w' hw=>?_;obtain⟨val,γ',rfl,m1,x1,r1⟩:=hw;obtain⟨xs,u1,u2⟩:=A6 (R:=R) r1;have FG:bP ⟨w.heap.size,(·∈bI bs ls),G⟩ 0 γ' (ep mem') { tmps:=#[],defers:=[] } w' :=
   { slots:=fun t=>⟨_,rfl⟩
     size:=rfl
     defers:=rfl
     ok:=m1 }
  obtain⟨nY,s1,s2,s3⟩:=iK FG u1 hg1;have xx:=x1.trans s2;obtain⟨bs',k1,k2,k3⟩:=vT s1.ok (qw.ext xx) (A3 LK);have LL:bs'=bs:=by
   unfold ef at k1 hNb;have:(fW 0 U.nr).map (fun p=>(nY.loc p.1).map (·.1))=(fW 0 U.nr).map (fun p=>(uJ (fW 0 U.nr) (iu 0 U.nb) bs ls p.1).map (·.1)):=by
    refine BI fun p hp=>?_;obtain⟨eg,j1,j2,_⟩:=k3 p (oQ _ hp);obtain⟨bT,gN⟩:=qF (u:=u) (uK (k:=0) (n:=U.nr)) (uL (k:=0) (n:=U.nb)) (oQ _ (List.mem_map.2 ⟨p,hp,rfl⟩));obtain⟨ke,q1,q2,q3⟩:=xx.boxes _ bT gN;rw[j1] at q1;obtain rfl:=aq q1;have L4:p.2=0:=Cu hp;rw[(q3 (by omega)).1]
   rw[this,hNb] at k1;exact(xO k1).symm
  subst LL;refine⟨val,nY.I,_,rfl,xx.below,xx.I,s1.ok.jJ,fun b o hi hn=>(xx.jK b o hi).resolve_left hn,u2 _ _ s3,k2,ry s1.ok k1 k3 hd1,fun blk hb=>?_⟩;obtain⟨b,k,⟨bx,j1⟩,j2⟩:=vV k1 k3 (blk:=blk) (by unfold bI at hb⊢;exact nU _ (by simpa using hb));rcases(s1.ok.fresh b blk k (by rw[j1];simp) j2).1 with q|q
  ·exact .inr q
  ·exact .inl q
end
end Go.Ge
namespace Go.Ge
open RowKit ChangeShapes
def vG{α:Type}(f:α→Nat):List α→Nat
 | []=>0
 | x::r=>f x+vG f r
def Ty.bulk:(t:Ty)→t.den→Nat
 | .int _,_=>1
 | .bool,_=>1
 | .str,s=>List.length (α:=UInt8) s+1
 | .slice e,l=>vG e.bulk l+1
 | .arr _ e,l=>vG e.bulk l
 | .pair a b,x=>a.bulk x.1+b.bulk x.2
 | .unit,_=>0
 | .alt _ _ _,_=>0
 | .nO,_=>0
def Ty.oe:Ty→Bool
 | .slice e=>e.oe
 | .arr _ e=>e.oe
 | .pair a b=>a.oe&&b.oe
 | .alt _ _ _=>false
 | .nO=>false
 | _=>true
structure uM {H:Type} (bulk:DataW H→Nat) (all:List (DataW H)→Nat):Prop where
 lit:∀l,1≤bulk (.lit l)
 str:∀s,bulk (.lit (.string s))=s.length+1
 nil:1≤bulk .nil
 slice:∀e s,bulk (.slice e s)=all e+all s+1
 agg:∀p,bulk (.agg p)=all p+1
 none:all []=0
 cons:∀d r,all (d::r)=bulk d+all r
theorem nM{α β:Type}{f:α→Option β}:∀{l:List α} {ys:List β},l.mapM f=some ys→ys.length=l.length∧∀(i:Nat) x,l[i]?=some x→f x=ys[i]?:=by
 intro l;induction l with
 | nil=>intro ys h;obtain rfl:=aq (show some []=some ys by simpa using h);exact⟨rfl,fun i x hx=>by cases hx⟩
 | cons a l ih =>
   intro ys h;rw[Bh] at h;obtain⟨y,h1,h2⟩:=Option.bind_eq_some_iff.1 h;obtain⟨zs,h3,h4⟩:=Option.bind_eq_some_iff.1 h2;obtain rfl:y::zs=ys:=aq h4;obtain⟨k1,k2⟩:=ih h3;refine⟨by simp[k1],fun i x hx=>?_⟩;cases i with
   | zero=>obtain rfl:=aq hx;exact h1
   | succ i=>exact k2 i x (by simpa using hx)
theorem rI{α β:Type}{R:Nat→α→β→Prop}:∀{ys:List β} {k:Nat},(∀i y,ys[i]?=some y→∃x,R (k+i) x y)→∃xs:List α,xs.length=ys.length∧∀i x y,xs[i]?=some x→ys[i]?=some y→R (k+i) x y:=by
 intro ys;induction ys with
 | nil=>intro k _;exact⟨[],rfl,fun i x y h=>by cases h⟩
 | cons y ys ih =>
   intro k h;obtain⟨x,hx⟩:=h 0 y rfl;obtain⟨xs,h1,h2⟩:=ih (k:=k+1) fun i y hy=>by
    have:=h (i+1) y (by simpa using hy)
    rwa [show k+(i+1)=k+1+i by omega] at this
   refine⟨x::xs,by simp[h1],fun i x' y' hx' hy'=>?_⟩;cases i with
   | zero=>obtain rfl:=aq hx';obtain rfl:=aq hy';exact hx
   | succ i =>
     rw[show k+(i+1)=k+1+i by omega];exact h2 i x' y' (by simpa using hx') (by simpa using hy')
theorem Bz{α β:Type}{f:α→Nat}{g:β→Nat}:∀{xs:List α} {ys:List β},xs.length=ys.length→(∀(i:Nat) x y,xs[i]?=some x→ys[i]?=some y→f x≤g y)→vG f xs≤vG g ys:=by
 intro xs;induction xs with
 | nil=>intro ys _ _;exact kD _
 | cons x xs ih =>
   intro ys hl h;cases ys with
   | nil=>cases hl
   | cons y ys =>
     have h1:=h 0 x y rfl rfl;have h2:=ih (ys:=ys) (by simpa using hl) fun i x y hx hy=>h (i+1) x y (by simpa using hx) (by simpa using hy);simp only[vG];omega
section
variable {H:Type} {enc:TypeId×Value→H} {P:Program} {w:World} {held:Bool} {bulk:DataW H→Nat} {all:List (DataW H)→Nat}
theorem BA(hb:uM bulk all){β:Type}(f:β→DataW H):∀l:List β,all (l.map f)=vG (fun y=>bulk (f y)) l:=by
 intro l;induction l with
 | nil=>exact hb.none
 | cons y l ih=>rw[jj,hb.cons,ih];rfl
def old(w:World):Nat→Nat→Prop:=fun b _=>b<w.heap.size
theorem rJ{a:Addr}{n:Nat}{cs:List Value}(h:w.cells? 0 a n=some cs):cs.length=n∧∀j,j<n→w.cell? (a.add j)=cs[j]?:=by
 unfold World.cells? at h;rw[fF (kD _)] at h;obtain⟨h1,h2⟩:=nM h;refine⟨by simpa using h1,fun j hj=>h2 j j ?_⟩;simp[hj]
theorem zu{b o:Nat}{v:Value}{sp:Option Nat}(h:w.cell? ⟨b,o,sp⟩=some v):b<w.heap.size∧sp=none:=by
 unfold World.cell? at h;split at h
 ·rename_i c t f hg;refine⟨(Array.getElem?_eq_some_iff.1 hg).1,?_⟩;split at h
  ·cases h
  ·rename_i hs;cases sp with
   | none=>rfl
   | some s=>exact absurd rfl hs
 ·cases h
theorem Eb(hb:uM bulk all):∀{t:Ty},t.oe=true →
  (∀{fuel tid:Nat} {cs:List Value} {d:DataW H} {ps:List MemPlace},Den P t tid→DataW.trod enc P w 0 (fun _=>true) held fuel tid cs=some (d,ps)→∃x:t.den,aX w (old w) t x cs∧t.bulk x≤bulk d) ∧
  (∀{fuel off:Nat} {fs:List Field} {cs:List Value} {xs:List (DataW H×List MemPlace)},gL P t off fs→(fs.mapM fun f=>DataW.trod enc P w 0 (fun _=>true) held fuel f.type ((cs.drop f.offset).take (P.cellsOf f.type)))=some xs →
   cs.length=off+t.size→∃x:t.den,aX w (old w) t x (cs.drop off)∧t.bulk x≤all (xs.map (·.1))):=by
 intro t;induction t with
 | int k =>
   intro hna;refine⟨fun {fuel tid cs d ps} hd h=>?_,fun hd=>by simp[gL,dc] at hd⟩;cases fuel with
   | zero=>cases h
   | succ fuel =>
     simp only[DataW.trod,hd.int] at h;split at h<;>first|(exfalso;simp_all;done)|skip
     rename_i k0 k' n hk;split at h
     ·rename_i hc;obtain⟨rfl,rfl⟩:=bY (aq h);injection hk with hk;injection hk with hk;subst hk
      obtain⟨rfl,hwf⟩:=hc;simp only[Lit.wf,cA,u5] at hwf;exact⟨(n:Int),⟨rfl,hwf.1,hwf.2⟩,hb.lit _⟩
     ·cases h
 | bool =>
   intro hna;refine⟨fun {fuel tid cs d ps} hd h=>?_,fun hd=>by simp[gL,dc] at hd⟩;cases fuel with
   | zero=>cases h
   | succ fuel =>
     simp only[DataW.trod,hd.bool] at h;split at h<;>first|(exfalso;simp_all;done)|skip
     rename_i b _;obtain⟨rfl,rfl⟩:=bY (aq h);exact⟨b,rfl,hb.lit _⟩
 | str =>
   intro hna;refine⟨fun {fuel tid cs d ps} hd h=>?_,fun hd=>by simp[gL,dc] at hd⟩;cases fuel with
   | zero=>cases h
   | succ fuel =>
     simp only[DataW.trod,hd.str] at h;split at h<;>first|(exfalso;simp_all;done)|skip
     rename_i s _;split at h
     ·rename_i hs;obtain⟨rfl,rfl⟩:=bY (aq h);refine⟨s.data.toList,⟨?_,?_⟩,?_⟩
      ·rfl
      ·have:List.length (α:=UInt8) s.data.toList=s.size:=EO;rw[this];exact hs
      ·rw[hb.str];exact en _
     ·cases h
 | slice e ih =>
   intro hna;have ih:=ih hna;refine⟨fun {fuel tid cs d ps} hd h=>?_,fun hd=>by simp[gL,dc] at hd⟩;obtain⟨bX,h1,h2,h3,h4⟩:=hd.slice;cases fuel with
   | zero=>cases h
   | succ fuel =>
     simp only[DataW.trod,h1] at h;split at h<;>first|(exfalso;simp_all;done)|skip
     ·obtain⟨rfl,rfl⟩:=bY (aq h);exact⟨([]:List e.den),.inl ⟨⟨none,rfl⟩,rfl⟩,hb.nil⟩
     ·rename_i e' a len cap he;injection he with he;injection he with he;subst he
      split at h
      case isFalse=>cases h
      rename_i hc;obtain⟨KC,JT,Jh⟩:=hc;obtain⟨elems,g1,g2⟩:=Option.bind_eq_some_iff.1 h;obtain⟨rest,g3,g4⟩:=Option.map_eq_some_iff.1 g2;obtain⟨rfl,rfl⟩:=bY g4;simp only[iP] at g3;obtain⟨k1,k2⟩:=nM g1;obtain⟨m1,m2⟩:=nM g3;simp only[List.length_range] at k1 m1;rw[h2.cells] at k2 m2;by_cases hcap:cap=0
      ·subst hcap;obtain rfl:len=0:=by omega
       exact⟨([]:List e.den),.inl ⟨⟨some a,rfl⟩,rfl⟩,by rw[hb.slice];simp[Ty.bulk,vG]⟩
      ·
       have eH:∃y,(w.cells? 0 a e.size).bind (DataW.trod enc P w 0 (fun _=>true) held fuel bX)=some y:=by
        by_cases hlen:len=0
        ·have:=m2 0 0 (EP (by omega));have hlt:0<rest.length:=by omega
         rw[qg hlt] at this;rw[hlen] at this;simp only[kS,C1] at this;exact⟨_,by rw[←this];simp[Addr.add]⟩
        ·have:=k2 0 0 (EP (by omega));have hlt:0<elems.length:=by omega
         rw[qg hlt] at this;simp only[C1] at this;exact⟨_,by rw[←this];simp[Addr.add]⟩
       obtain⟨y,hy⟩:=eH;obtain⟨es,EI,_⟩:=Option.bind_eq_some_iff.1 hy;obtain⟨z1,z2⟩:=rJ EI;have z3:=z2 0 h4;rw[qg (by omega)] at z3;have Ec:a.spot=none:=by
        have:a.add 0=a:=by simp[Addr.add]
        rw[this] at z3;obtain⟨blk,off,sp⟩:=a;exact(zu z3).2
       obtain⟨blk,off,sp⟩:=a;dsimp only at Ec;subst Ec;obtain⟨xs,x1,x2⟩:=rI (R:=fun i (x:e.den) (y:DataW H×List MemPlace)=>(∃es:List Value,es.length=e.size ∧
         (∀(j:Nat) v,es[j]?=some v→w.cell? ⟨blk,off+i*e.size+j,none⟩=some v∧old w blk (off+i*e.size+j))∧aX w (old w) e x es)∧e.bulk x≤bulk y.1) (ys:=elems) (k:=0) fun i y hi=>by
        have hlt:=(List.getElem?_eq_some_iff.1 hi).1;have:=k2 i i (EP (by omega));rw[hi] at this;obtain⟨es,q1,q2⟩:=Option.bind_eq_some_iff.1 this;rw[addr_add] at q1;obtain⟨q3,q4⟩:=rJ q1;obtain⟨x,r1,r2⟩:=ih.1 (d:=y.1) (ps:=y.2) h2 q2;refine⟨x,⟨es,q3,fun j v hv=>?_,r1⟩,r2⟩;have hj:=(List.getElem?_eq_some_iff.1 hv).1;have:=q4 j (by omega);rw[addr_add,hv] at this;rw[kS];exact⟨this,(zu this).1⟩
       refine⟨xs,.inr ⟨blk,off,cap,?_,?_,Jh,fun i x hx=>?_⟩,?_⟩
       ·show [Value.slice _ len cap]=[Value.slice _ (List.length (α:=e.den) xs) cap]
        rw[x1,k1]
       ·show List.length (α:=e.den) xs≤cap
        rw[x1,k1];exact JT
       ·have hx':xs[i]?=some x:=hx;have hlt:=(List.getElem?_eq_some_iff.1 hx').1;obtain⟨y,hy⟩:∃y,elems[i]?=some y:=⟨_,qg (by omega)⟩;have:=(x2 i x y hx' hy).1;rw[kS] at this;exact this
       ·rw[hb.slice,BA hb];have:=Bz (f:=e.bulk) (g:=fun y:DataW H×List MemPlace=>bulk y.1) x1 fun i x y hx hy=>(x2 i x y hx hy).2;show vG e.bulk xs+1≤_
        omega
 | arr n e ih =>
   intro hna;have ih:=ih hna;refine⟨fun {fuel tid cs d ps} hd h=>?_,fun hd=>by simp[gL,dc] at hd⟩;obtain⟨bX,h1,h2,h4⟩:=hd.arr;cases fuel with
   | zero=>cases h
   | succ fuel =>
     simp only[DataW.trod,h1] at h;split at h
     case isFalse=>cases h
     rename_i hc;obtain⟨ys,g1,g2⟩:=Option.map_eq_some_iff.1 h;obtain⟨rfl,rfl⟩:=bY g2;obtain⟨k1,k2⟩:=nM g1;simp only[List.length_range] at k1;rw[h2.cells] at k2;obtain⟨xs,x1,x2⟩:=rI (R:=fun i (x:e.den) (y:DataW H×List MemPlace)=>aX w (old w) e x ((cs.drop (i*e.size)).take e.size)∧e.bulk x≤bulk y.1) (ys:=ys) (k:=0) fun i y hi=>by
      have hlt:=(List.getElem?_eq_some_iff.1 hi).1;have:=k2 i i (EP (by omega));rw[hi] at this;obtain⟨x,r1,r2⟩:=ih.1 (d:=y.1) (ps:=y.2) h2 this;exact⟨x,by rw[kS];exact r1,r2⟩
     refine⟨xs,⟨?_,?_,fun i x hx=>?_⟩,?_⟩
     ·show List.length (α:=e.den) xs=n
      rw[x1,k1]
     ·rw[hc,hd.cells];rfl
     ·have hx':xs[i]?=some x:=hx;have hlt:=(List.getElem?_eq_some_iff.1 hx').1;obtain⟨y,hy⟩:∃y,ys[i]?=some y:=⟨_,qg (by omega)⟩;have:=(x2 i x y hx' hy).1;rw[kS] at this;exact this
     ·rw[hb.agg,BA hb];have:=Bz (f:=e.bulk) (g:=fun y:DataW H×List MemPlace=>bulk y.1) x1 fun i x y hx hy=>(x2 i x y hx hy).2;show vG e.bulk xs≤_
      omega
 | pair a b eN fE =>
   intro hna;simp only[Ty.oe,cA] at hna;have eN:=eN hna.1;have fE:=fE hna.2;have chain:∀{fuel off:Nat} {fs:List Field} {cs:List Value} {xs:List (DataW H×List MemPlace)},gL P (.pair a b) off fs→(fs.mapM fun f=>DataW.trod enc P w 0 (fun _=>true) held fuel f.type ((cs.drop f.offset).take (P.cellsOf f.type)))=some xs →
     cs.length=off+(Ty.pair a b).size→∃x:(Ty.pair a b).den,aX w (old w) (.pair a b) x (cs.drop off)∧(Ty.pair a b).bulk x≤all (xs.map (·.1)):=by
    intro fuel off fs cs xs hd h hl;obtain⟨f,r,rfl,f1,_,f2,f3,f4⟩:=hd.cons;rw[Bh] at h;obtain⟨y,g1,g2⟩:=Option.bind_eq_some_iff.1 h;obtain⟨ys,g3,g4⟩:=Option.bind_eq_some_iff.1 g2;obtain rfl:y::ys=xs:=aq g4;rw[f1,f2.cells] at g1;obtain⟨x1,p1,p2⟩:=eN.1 (d:=y.1) (ps:=y.2) f2 g1;obtain⟨x2,q1,q2⟩:=fE.2 f4 g3 (by simp only[Ty.size] at hl;omega);refine⟨(x1,x2),⟨_,_,?_,p1,q1⟩,?_⟩
    ·rw[←lH,wC]
    ·rw[jj,hb.cons];show a.bulk x1+b.bulk x2≤_
     omega
   refine⟨fun {fuel tid cs d ps} hd h=>?_,chain⟩;obtain⟨fs,h1,h2,_⟩:=hd.pair;cases fuel with
   | zero=>cases h
   | succ fuel =>
     simp only[DataW.trod,h1] at h;split at h
     case isFalse=>cases h
     rename_i hc;obtain⟨ys,g1,g2⟩:=Option.map_eq_some_iff.1 h;obtain⟨rfl,rfl⟩:=bY g2;rw[hd.cells] at hc;obtain⟨x,r1,r2⟩:=chain h2 g1 (by rw[hc,kS]);exact⟨x,by simpa using r1,by rw[hb.agg];omega⟩
 | alt u a r eN ihr=>intro hna;cases hna
 | nO=>intro hna;cases hna
 | unit =>
   intro hna;refine⟨fun hd=>by simp[Den,dc] at hd,fun {fuel off fs cs xs} hd h hl=>?_⟩;exact⟨(),by show cs.drop off=[];rw[List.drop_eq_nil_iff];simp[Ty.size] at hl;omega,kD _⟩
end
end Go.Ge
namespace Go.Ge
open RowKit ChangeShapes WideShapes
def A7(P:Program):Ty→List TypeId→Prop
 | .pair t r,tid::ts=>Den P t tid∧A7 P r ts
 | .unit,[]=>True
 | _,_=>False
section
variable {H:Type} {enc:TypeId×Value→H} {P:Program} {w:World} {held:Bool} {bulk:DataW H→Nat} {all:List (DataW H)→Nat}
theorem zv{t:Ty}{tid base:Nat}{v:Value}{x:t.den}(hna:t.oe=true)(hd:Den P t tid)(hv:Value.okWide P w .any base tid v)(hr:aX w (old w) t x v.cells.toList):v=bA t v.cells.toList:=by
 cases t with
 | int k=>obtain⟨n,rfl⟩:=okWide_int hd.int hv;rfl
 | bool=>obtain⟨b,rfl⟩:=okWide_bool hd.bool hv;rfl
 | str=>obtain⟨s,rfl⟩:=okWide_string hd.str hv;rfl
 | slice e=>obtain⟨bX,h1,_⟩:=hd.slice;obtain⟨a,len,cap,rfl⟩:=okWide_slice h1 hv;rfl
 | pair a b=>obtain⟨fs,h1,_⟩:=hd.pair;obtain⟨cs,rfl,_⟩:=okWide_struct h1 hv;simp[bA,Ty.isAgg,Value.cells]
 | arr n e =>
   obtain⟨bX,h1,_⟩:=hd.arr;unfold Value.okWide at hv;rw[h1] at hv;obtain⟨cs,rfl,_⟩:=hv;simp[bA,Ty.isAgg,Value.cells]
 | unit=>simp[Den,dc] at hd
 | alt u a r=>cases hna
 | nO=>cases hna
theorem Ed(hb:uM bulk all){base:Nat}:∀{A:Ty} {ts:List TypeId} {vs:List Value} {ds:List (DataW H)} {ps:List MemPlace},A.oe=true→A7 P A ts→DataW.TrodAll enc P w 0 (fun _=>true) held ts vs ds ps →
  (∀(j:Nat) t v,ts[j]?=some t→vs[j]?=some v→Value.okWide P w .any base t v)→∃x:A.den,dV w (old w) A x vs∧A.bulk x≤all ds:=by
 intro A;induction A with
 | pair t r zS ihr =>
   intro ts vs ds ps hna hd h hval;simp only[Ty.oe,cA] at hna;cases ts with
   | nil=>exact hd.elim
   | cons tid ts =>
     obtain⟨h1,h2⟩:=hd;obtain⟨v,vs',d,ds',p,q,rfl,rfl,rfl,⟨fuel,hf⟩,hs⟩:=trodAll_cons h;obtain⟨x,r1,r2⟩:=(Eb hb hna.1).1 h1 hf;obtain⟨y,s1,s2⟩:=ihr hna.2 h2 hs fun j t v hj hv=>hval (j+1) t v (by simpa using hj) (by simpa using hv);refine⟨(x,y),⟨v.cells.toList,vs',?_,r1,s1⟩,?_⟩
     ·rw[←zv hna.1 h1 (hval 0 tid v rfl rfl) r1]
     ·rw[hb.cons];show t.bulk x+r.bulk y≤_
      omega
 | unit =>
   intro ts vs ds ps hna hd h hval;cases ts with
   | nil =>
     obtain⟨rfl,rfl,rfl⟩:=trodAll_nil h;exact⟨(),rfl,kD _⟩
   | cons tid ts=>exact hd.elim
 | _=>intro ts vs ds ps hna hd;exact hd.elim
theorem vH(hl:laidOutB P=true){W W':World}{sp:Nat→Bool}:∀{ts:List TypeId} {vs:List Value} {ds:List (DataW H)} {ps:List MemPlace},(∀t∈ts,P.readableRec t=true∧t<P.types.size) →
  DataW.TrodAll enc P W 0 (fun _=>true) true ts vs ds ps→(∀p∈ps,W.sameAt W' p)→(∀p∈ps,sp p.block=true)→DataW.TrodAll enc P W' 0 sp true ts vs ds ps:=by
 intro ts;induction ts with
 | nil=>intro vs ds ps _ h _ _;obtain⟨rfl,rfl,rfl⟩:=trodAll_nil h;rfl
 | cons t ts ih =>
   intro vs ds ps hr h hsame hsp;obtain⟨v,vs',d,ds',p,q,rfl,rfl,rfl,h1,h2⟩:=trodAll_cons h;refine⟨p,q,WideElems.Trod_stays hl (hr t (jy ..)).1 (hr t (jy ..)).2 h1 (fun x hx=>hsame x (oQ _ hx)) (fun x hx=>hsp x (oQ _ hx)),?_,rfl⟩;exact ih (fun t ht=>hr t (jx _ ht)) h2 (fun x hx=>hsame x (nU _ hx)) (fun x hx=>hsp x (nU _ hx))
def Ty.ok:(t:Ty)→t.den→Prop
 | .int k,n=>k.min≤(show Int from n)∧(show Int from n)≤k.max
 | .bool,_=>True
 | .str,s=>List.length (α:=UInt8) s≤maxLen
 | .slice e,l=>∀(i:Nat) (x:e.den),(show List e.den from l)[i]?=some x→e.ok x
 | .arr n e,l=>List.length (α:=e.den) l=n∧∀(i:Nat) (x:e.den),(show List e.den from l)[i]?=some x→e.ok x
 | .pair a b,x=>a.ok x.1∧b.ok x.2
 | .unit,_=>True
 | .alt _ _ _,_=>True
 | .nO,_=>True
theorem aX.ok{I:Nat→Nat→Prop}:∀{t:Ty} {x:t.den} {cs:List Value},aX w I t x cs→t.ok x:=by
 intro t;induction t with
 | int k=>intro x cs h;exact h.2
 | bool=>intro x cs h;trivial
 | str=>intro x cs h;exact h.2
 | slice e ih =>
   intro x cs h i y hy;rcases h with ⟨_,h⟩|⟨blk,off,cap,h1,h2,h3,h4⟩
   ·rw[show(show List e.den from x)=[] from h] at hy;cases hy
   ·obtain⟨es,_,_,hr⟩:=h4 i y hy;exact ih hr
 | arr n e ih=>intro x cs h;exact⟨h.1,fun i y hy=>ih (h.2.2 i y hy)⟩
 | pair a b eN fE=>intro x cs h;obtain⟨c1,c2,_,h1,h2⟩:=h;exact⟨eN h1,fE h2⟩
 | unit=>intro x cs h;trivial
 | alt u a r=>intro x cs h;trivial
 | nO=>intro x cs h;trivial
theorem dV.ok{I:Nat→Nat→Prop}:∀{A:Ty} {x:A.den} {xs:List Value},dV w I A x xs→A.ok x:=by
 intro A;induction A with
 | pair t r zS ihr=>intro x xs h;obtain⟨cs,rest,_,h1,h2⟩:=h;exact⟨h1.ok,ihr h2⟩
 | unit=>intro x xs h;trivial
 | _=>intro x xs h;exact h.elim
theorem Cv(hb:uM bulk all)(hl:laidOutB P=true){fid tb:Nat}{fn:Func}{s:ChangeSpec}{A:Ty}{spec:A.den→Option (Ty.pair .bool .unit).den}{apart fresh handsOn:Bool}
  (Fm:A7 P A fn.params.toList) (hread:∀t∈fn.params.toList,P.readableRec t=true∧t<P.types.size) (hres:fn.resultTypes=#[tb]) (htb:P.underlying tb=some .bool) (hsv:s.vars=[])
  (hs:∀ds:List (DataW H),ds.length=fn.params.toList.length→s.fn H ds={ results:=[.lit (.bool true)],args:=ds }) {G:eM} (hh:Holds P G fid ⟨A,.pair .bool .unit,spec⟩)
  {W:World} (hG:kK G W) {base:Nat} {args:Array Value} {ds gs:List (DataW H)} {before:List MemPlace} (hval:∀(j:Nat) t v,fn.params[j]?=some t→args[j]?=some v→Value.okWide P W .any base t v)
  (hW:DataW.Whole enc P fn.params.toList s.vars apart W args.toList ds gs before) (hspec:∀x:A.den,A.ok x→A.bulk x≤all (ds++gs)→spec x=some (true,())) (hna:A.oe=true:=by rfl) :
  Calls P fid args W fun e W'=>∃v,e=.returned v∧s.post enc P fn apart fresh handsOn false W args v W':=by
 have hlt:=hW.lt;have KD:=hW;obtain⟨p,q,hA,hV,rfl,hfz,hnd⟩:=hW;rw[hsv] at hV;obtain⟨rfl,rfl⟩:=trodVars_none hV;simp only[xX] at KD hlt hspec;obtain⟨x,x1,x2⟩:=Ed hb (base:=base) hna Fm hA fun j t v hj hv=>hval j t v (by simpa using hj) (by simpa using hv);have hlen:∀{ts:List TypeId} {vs:List Value} {ds:List (DataW H)} {ps:List MemPlace},DataW.TrodAll enc P W 0 (fun _=>true) true ts vs ds ps→ds.length=ts.length:=by
  intro ts;induction ts with
  | nil=>intro vs ds ps h;obtain⟨_,rfl,_⟩:=trodAll_nil h;rfl
  | cons t ts ih=>intro vs ds ps h;obtain⟨v,vs',d,ds',p,q,rfl,rfl,rfl,h1,h2⟩:=trodAll_cons h;simp[ih h2]
 have hfn:=hs ds (hlen hA);refine(hh.calls (old W) W args x (true,()) (fun b o h=>h) hG x1 (hspec x x1.ok x2)).mono fun e W' hw=>?_;obtain⟨v,I',rfl,b1,_,_,_,hr⟩:=hw;obtain⟨cs,rfl,hv⟩:=hr;obtain rfl:v=.bool true:=by simpa [bA,Ty.isAgg] using hv
 refine⟨_,rfl,ds,[],p,[],p,[],KD,?_,?_,?_,b1.frame _,fun h=>by cases h⟩
 ·rw[xX,hfn,hres];exact trodAll_mk1 (shut_bool htb true)
 ·rw[xX,hfn];exact vH hl hread hA (fun x hx=>b1.same (hlt x hx)) (fun x hx=>by simpa using hlt x hx)
 ·rw[xX,hfn,hsv];rfl
end
end Go.Ge
