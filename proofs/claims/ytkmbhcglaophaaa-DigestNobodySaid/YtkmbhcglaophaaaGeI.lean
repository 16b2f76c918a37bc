/- A ghost interpreter of the model's code, and that it tells the truth: part 9. It says of a function of plain data what a call of it comes to. -/
import Derived.Test.YtkmbhcglaophaaaGeH
import Derived.Scope
import Derived.Laws.Sem
import Derived.ProofKit
set_option linter.unusedSectionVars false
set_option linter.unusedVariables false
set_option linter.unusedSimpArgs false
namespace Go.Ge
variable [Lp]
open RowKit
theorem qW{p:Nat→Prop}(h:∃n,p n):∃n,p n∧∀m,p m→n≤m:=by
 obtain⟨n,hn⟩:=h;induction n using Nat.strongRecOn with
 | _ n ih =>
   by_cases h:∃m,m<n∧p m
   ·obtain⟨m,h1,h2⟩:=h;exact ih m h1 h2
   ·exact⟨n,hn,fun m hm=>Nat.le_of_not_lt fun hlt=>h ⟨m,hlt,hm⟩⟩
open Classical in
noncomputable def least(p:Nat→Prop):Nat:=if h:∃n,p n then Classical.choose (qW h) else 0
theorem vO{p:Nat→Prop}(h:∃n,p n):p (least p)∧∀m,p m→least p≤m:=by
 unfold least;rw[dif_pos h];exact DO (qW h)
theorem si{P:Program}{c:Code}{Q:Exit→Act→World→Prop}{a:Act}{w:World}(I:Nat→Act→World→Prop){n:Nat}(h0:I n a w)
  (round:∀n a w,I n a w→c.wp P (Exit.then (fun a' w'=>∃m,m<n∧I m a' w') Q) a w):(Code.loop c).wp P Q a w:=by
 refine wp_loop (fun a w=>∃n,I n a w) (fun a w=>least fun n=>I n a w) ⟨n,h0⟩ fun a w h=>?_;obtain⟨h1,h2⟩:=vO h;refine wp_mono (round _ a w h1) fun e a' w' hq=>?_;cases e with
 | normal =>
   obtain⟨m,m1,m2⟩:=hq;exact⟨⟨m,m2⟩,Nat.lt_of_le_of_lt ((vO ⟨m,m2⟩).2 m m2) m1⟩
 | _=>exact hq
def vP:Nat→Exit
 | 0=>.normal
 | 1=>.ret
 | i+2=>.exit i
theorem sY{l m:List Nat}{t:Nat}:bC (l++m) t=(bC l t||bC m t):=by
 induction l with
 | nil=>rfl
 | cons i r ih=>simp only[zP,bC,ih,FF]
def qX(ws:List Nat)(a a':Act):Prop:=∀t,bC ws t=false→a'.tmps[t]?=a.tmps[t]?
theorem qX.refl(ws:List Nat)(a:Act):qX ws a a:=fun _ _=>rfl
theorem qX.trans{ws:List Nat}{a b c:Act}(h:qX ws a b)(k:qX ws b c):qX ws a c:=fun t ht=>(k t ht).trans (h t ht)
theorem qX.left{ws vs:List Nat}{a b:Act}(h:qX ws a b):qX (ws++vs) a b:=fun t ht=>h t (by rw[sY,wF] at ht;exact ht.1)
theorem qX.right{ws vs:List Nat}{a b:Act}(h:qX vs a b):qX (ws++vs) a b:=fun t ht=>h t (by rw[sY,wF] at ht;exact ht.2)
theorem A5{t:Nat}:∀{l:List Oper} {k:Nat},bC (hY l) t=false→gi t (number k l)=false:=by
 intro l;induction l with
 | nil=>intro k _;rfl
 | cons o l ih =>
   intro k h;simp only[number,gi];cases hd:o.dst with
   | none=>simp only[hY,hd] at h;rw[ih h];rfl
   | some d =>
     simp only[hY,hd,bC,wF] at h;rw[ih h.2];simp only[FD];exact dO fun e=>by subst e;simp at h
theorem zu{l:List Oper}{o:Oper}(h:o∈l){k:Nat}(hk:o.dst=some k):k∈hY l:=by
 induction l with
 | nil=>cases h
 | cons p l ih =>
   rcases List.mem_cons.1 h with h|h
   ·subst h;simp only[hY,hk];exact jU ..
   ·simp only[hY];split
    ·exact jT _ (ih h)
    ·exact ih h
theorem x7{α:Type}{f:Nat→Tree α}:∀{es:List Nat} {e i:Nat},tC es e=some i→(ql es i f).run=(f e).run:=by
 intro es;induction es with
 | nil=>intro e i h;cases h
 | cons k r ih =>
   intro e i h;simp only[tC] at h;have one:∀{b:Bool},(bif b then some 0 else(tC r e).map (·+1))=some i→(b=true∧i=0)∨(b=false∧∃j,tC r e=some j∧i=j+1):=by
    intro b hb;cases b with
    | true=>exact .inl ⟨rfl,(au hb).symm⟩
    | false =>
      obtain⟨j,h1,h2⟩:=Option.map_eq_some_iff.1 hb;exact .inr ⟨rfl,j,h1,h2.symm⟩
   rcases one h with ⟨h1,rfl⟩|⟨h1,j,h2,rfl⟩
   ·obtain rfl:=cB h1;cases r with
    | nil=>rfl
    | cons m s=>rfl
   ·cases r with
    | nil=>cases h2
    | cons m s=>exact ih h2
section
variable {P:Program} {B:iP} {N:Nat} {cx:Ctx} {nb:Nat} {bf:List Nat} {inl:Nat→List av→St→Tree (av×St)}
theorem CB(hkeep:∀f vals σ v σ',(inl f vals σ).run=some (v,σ')→aE σ σ'):∀(l:List Oper) (k:Nat) (done:List nD) (σ σ':St),(uJ cx nb bf inl (number k l) done σ).run=some σ'→aE σ σ':=by
 intro l;induction l with
 | nil=>intro k done σ σ' h;obtain rfl:=au h;exact aE.refl _
 | cons o l ih =>
   intro k done σ σ' h;simp only[number,uJ] at h;split at h
   ·cases h
   ·obtain⟨hc,h1⟩:=ai h;obtain⟨σ1,h2,h3⟩:=bind_some h1;exact(nP hkeep σ1 (oE (fun hb=>uv o σ hb) h2)).trans (ih _ _ _ _ h3)
theorem Eu{fz:Bool}{M V:Nat→Bool}:∀{l:List (Nat×Sh×aI)} {x:(J0 l).den} {t:Nat},j8 l t=false→uK fz M V l x t=none:=by
 intro l;induction l with
 | nil=>intro x t _;rfl
 | cons p r ih =>
   obtain⟨i,s,b⟩:=p;intro x t h;simp only[j8,wF] at h;simp only[uK,h.1,ez];exact ih h.2
theorem A6{k:Carry}{fz lock:Bool}{wr:List Nat}{σ:St}{x:k.ty.den}{b:Nat}{bx:aI}(hb:σ.mem b=some bx)(h:j8 k.M b=false):(k.jh fz lock wr σ x).mem b=some { bx with lk:=bx.lk||lock }:=by
 simp only[Carry.jh];rw[Eu h,hb]
theorem nT{k:Carry}{fz lock:Bool}{wr:List Nat}{σ:St}{x:k.ty.den}(hk:oG k σ):aE σ (k.jh fz lock wr σ x):=by
 intro b bx hb hl;have:j8 k.M b=false:=by
  cases hq:j8 k.M b with
  | false=>rfl
  | true =>
    obtain⟨s,b0,hm⟩:=Iy hq;obtain⟨h1,_,h3⟩:=hk.M b s b0 hm;rw[hb] at h1;obtain rfl:=au h1;rw[hl] at h3;cases h3
 rw[A6 hb this];cases bx;simp only at hl;subst hl;rfl
theorem sZ{α:Type}{Q:α→Prop}{f:Nat→Tree α}(hf:∀e y,(f e).run=some y→Q y):∀{es:List Nat} {i:Nat} {y:α},(ql es i f).run=some y→Q y:=by
 intro es;induction es with
 | nil=>intro i y h;cases h
 | cons k r ih =>
   intro i y h;cases r with
   | nil=>exact hf k y h
   | cons m s =>
     have:=cT h;cases hq:Ju i 0 with
     | true=>rw[hq] at this;exact hf k y this
     | false=>rw[hq] at this;exact ih this
theorem vQ:∀{l:List Nat} {σ σ':St},qk l σ=some σ'→aE σ σ':=by
 intro l;induction l with
 | nil=>intro σ σ' h;obtain rfl:=au h;exact aE.refl _
 | cons m r ih =>
   intro σ σ' h;unfold qk at h;cases hm:Nat.ble 2000000 m with
   | false=>rw[hm] at h;exact ih h
   | true =>
     rw[hm] at h;simp only[bZ] at h;split at h
     ·split at h
      ·split at h
       ·split at h
        ·rename_i hg;exact(gT hg).trans ((aE.put _ _ _).trans (ih h))
        ·cases h
       ·cases h
      ·cases h
     ·exact ih h
theorem s5{B:iP}{N:Nat}{a:Act}{w:World}:∀{l:List Nat} {σ σ':St} {γ:Gh},qk l σ=some σ'→bE B N γ σ a w→∃γ',bE B N γ' σ' a w∧Ext B γ σ.mem w γ' σ'.mem w:=by
 intro l;induction l with
 | nil=>intro σ σ' γ h hs;obtain rfl:=au h;exact⟨γ,hs,Ext.refl _ _ _ _⟩
 | cons m r ih =>
   intro σ σ' γ h hs;unfold qk at h;cases hm:Nat.ble 2000000 m with
   | false=>rw[hm] at h;exact ih h hs
   | true =>
     rw[hm] at h;simp only[bZ] at h;generalize m-2000000=k at h;split at h
     ·split at h
      ·split at h
       ·split at h
        ·rename_i x σ1 hg;have hv:=hs.slots k;obtain⟨dS,s1,s2,s3⟩:=fQ hs hv hg;have s4:bE B N dS (σ1.put k (.data (.slice _) x)) a w:=⟨fun t=>by
          unfold St.put;dsimp only;cases ht:Nat.beq t k with
          | false=>exact s1.slots t
          | true =>
            obtain rfl:=cB ht;exact s3,s1.size,s1.defers,s1.ok⟩
         obtain⟨oY,t1,t2⟩:=ih h s4;exact⟨oY,t1,s2.trans t2⟩
        ·cases h
       ·cases h
      ·cases h
     ·exact ih h hs
theorem CC{f:St→Tree (Nat×St)}(hf:∀σ r,(f σ).run=some r→aE σ r.2):∀(n:Nat) (σ:St) (r:Nat×St),(again f n σ).run=some r→aE σ r.2:=by
 intro n;induction n with
 | zero=>intro σ r h;cases h
 | succ n ih =>
   intro σ r h;obtain⟨r1,h1,h2⟩:=bind_some h;have k1:=hf _ _ h1;cases hq:Nat.beq r1.1 0 with
   | true=>rw[hq] at h2;exact k1.trans (ih _ _ h2)
   | false=>rw[hq] at h2;obtain rfl:=au h2;exact k1
theorem A7{f:St→Tree (Nat×St)}(hf:∀σ r,(f σ).run=some r→aE σ r.2){c:Nat}:∀(n j:Nat) (σ:St) (r:Nat×St),(rM f c n j σ).run=some r→aE σ r.2:=by
 intro n;induction n with
 | zero=>intro j σ r h;cases h
 | succ n ih =>
   intro j σ r h;unfold rM at h;split at h
   ·have h:=aX h;obtain⟨r1,h1,h2⟩:=bind_some h.2;have k1:=(aE.put σ c _).trans (hf _ _ h1);cases hq:Nat.beq r1.1 0 with
    | true=>rw[hq] at h2;exact k1.trans (ih _ _ _ h2)
    | false=>rw[hq] at h2;obtain rfl:=au h2;exact k1
   ·cases h
theorem ku(hkeep:∀f vals σ v σ',(inl f vals σ).run=some (v,σ')→aE σ σ'):∀(c:Code) (pl:List (Option Ac)) (σ:St) (r:Nat×St),(eW cx nb bf inl c pl σ).run=some r→aE σ r.2:=by
 intro c;induction c with
 | skip=>intro pl σ r h;obtain rfl:=au h;exact aE.refl _
 | label l=>intro pl σ r h;obtain rfl:=au h;exact aE.refl _
 | ret=>intro pl σ r h;obtain rfl:=au h;exact aE.refl _
 | exit i=>intro pl σ r h;obtain rfl:=au h;exact aE.refl _
 | region id ops dr =>
   intro pl σ r h;obtain⟨σ1,h1,h2⟩:=bind_some h;obtain rfl:=au h2;cases dr with
   | true =>
     have h1':(lW cx nb bf inl ops σ).run=some σ1:=h1;unfold lW at h1';cases hg:ops.any fun o=>o.guard.isSome with
     | true =>
       rw[hg] at h1';obtain⟨hnt,h3⟩:=ai (show(bif fe ops.toList then jA cx nb bf inl ops (number 0 ops.toList) [] σ (fun _=>false) else .fail).run=some σ1 from h1');exact Cw hkeep _ _ _ _ _ _ h3
     | false =>
       rw[hg] at h1';exact CB hkeep _ _ _ _ _ h1'
   | false=>exact qQ hkeep _ _ _ _ h1
 | seq a b eH fF =>
   intro pl σ r h;obtain⟨r1,h1,h2⟩:=bind_some h;have k1:=eH _ _ _ h1;cases hq:Nat.beq r1.1 0 with
   | true=>rw[hq] at h2;exact k1.trans (fF _ _ _ h2)
   | false=>rw[hq] at h2;obtain rfl:=au h2;exact k1
 | block i a ih =>
   intro pl σ r h;obtain⟨r1,h1,h2⟩:=bind_some h;obtain rfl:=au h2;exact ih _ _ r1 h1
 | scope a ih=>intro pl σ r h;exact ih _ _ _ h
 | cond c a b eH fF =>
   intro pl σ r h;unfold eW at h;split at h
   ·rename_i c0 GL hn;change Bool at c0;have:=cT h;cases c0 with
    | false=>exact fF _ _ _ this
    | true=>exact eH _ _ _ this
   ·split at h
    ·cases h
    rename_i σ CD;refine(vQ CD).trans ?_;split at h
    ·cases h
    ·rename_i k hk;have hok:=mT hk;dsimp only at h;split at h
     ·rw[Tree.ny] at h;obtain⟨x,h1,h2⟩:=Option.bind_eq_some_iff.1 h;obtain rfl:=au h2;exact nT hok
     ·rw[Tree.ny] at h;obtain⟨x,h1,h2⟩:=Option.bind_eq_some_iff.1 h;exact sZ (Q:=fun r:Nat×St=>aE σ r.2) (fun e y hy=>by obtain rfl:=au hy;exact nT hok) h2
   ·cases h
 | loop a ih =>
   intro pl σ r h;unfold eW at h;split at h
   ·split at h
    ·exact A7 (fun σ r hr=>ih _ _ _ hr) _ _ _ _ h
    split at h
    ·cases h
    rename_i σ CD;refine(vQ CD).trans ?_;split at h
    ·cases h
    ·rename_i k hk;have hok:=mT hk;dsimp only at h;split at h
     ·cases h
     ·split at h
      ·obtain⟨x,h1,h2⟩:=aR h;obtain rfl:=au h2;exact nT hok
      ·obtain⟨x,h1,h2⟩:=aR h;exact sZ (Q:=fun r:Nat×St=>aE σ r.2) (fun e y hy=>by obtain rfl:=au hy;exact nT hok) h2
   ·exact CC (fun σ r hr=>ih _ _ _ hr) _ _ _ h
   ·cases h
 | _=>intro pl σ r h;cases h
end
end Go.Ge
namespace Go.Ge
variable [Lp]
open RowKit
section
variable {P:Program} {B:iP} {N:Nat} {cx:Ctx} {nb:Nat} {bf:List Nat} {inl:Nat→List av→St→Tree (av×St)}
theorem qY(k:Carry)(σ:St):(k.lock σ).mem=jL (fun b bx=>bif j8 k.M b then bx.lk else true) σ.mem:=by
 funext b;simp only[Carry.lock,jL];cases σ.mem b with
 | none=>rfl
 | some bx=>simp only;cases j8 k.M b<;>rfl
theorem IA(k:Carry)(σ:St):k.lock σ={ σ with mem:=jL (fun b bx=>bif j8 k.M b then bx.lk else true) σ.mem }:=by
 have:=qY k σ;unfold Carry.lock at this⊢;dsimp only at this⊢;rw[this]
theorem sj{T β:Type}{t:Tree T}{k:T→Tree β}{y:β}(h:(t.join k).run=some y):∃x,t.run=some x∧(k x).run=some y:=by
 rw[Tree.ny] at h;exact Option.bind_eq_some_iff.1 h
theorem vR{α:Type}{o:Option α}{y:α}(h:(Tree.FJ o).run=some y):o=some y:=by
 cases o with
 | none=>cases h
 | some x=>exact h
theorem GM{e0 e i:Nat}(h:tC [e0] e=some i):e=e0:=by
 simp only[tC] at h;cases hb:Nat.beq e0 e with
 | true=>exact(cB hb).symm
 | false=>rw[hb] at h;cases h
theorem bE.Dz{γ:Gh}{σ:St}{a:Act}{w:World}(h:bE B N γ σ a w){i:Nat}{v:av}(hv:aV γ σ.mem w v .val [a.tmps.getD i Go.undef]):bE B N γ (σ.put i v) a w where
 slots:=fun t=>by
  show aV γ σ.mem w (bif Nat.beq t i then v else σ.slots t) .val _
  cases hb:Nat.beq t i with
  | true=>obtain rfl:=cB hb;exact hv
  | false=>exact h.slots t
 size:=h.size
 defers:=h.defers
 ok:=h.ok
theorem zv{a:Act}{w:World}:∀{l:List (Nat×Sh)} {σ σ':St} {γ:Gh},settle l σ=some σ'→bE B N γ σ a w→∃γ',bE B N γ' σ' a w∧Ext B γ σ.mem w γ' σ'.mem w∧aE σ σ':=by
 intro l;induction l with
 | nil=>intro σ σ' γ h hs;obtain rfl:=au h;exact⟨γ,hs,Ext.refl _ _ _ _,aE.refl _⟩
 | cons p r ih =>
   obtain⟨i,s⟩:=p;intro σ σ' γ h hs;cases s with
   | d t =>
     simp only[settle] at h;split at h
     ·rename_i x σ1 hg;obtain⟨dS,s1,s2,s4⟩:=fQ hs (hs.slots i) hg;have s3:bE B N dS (σ1.put i (.data t x)) a w:=s1.Dz s4;obtain⟨oY,t1,t2,t3⟩:=ih h s3;exact⟨oY,t1,s2.trans t2,(gT hg).trans t3⟩
     ·cases h
   | k v=>exact ih h hs
   | m a b=>exact ih h hs
theorem qZ{k:Carry}{fz:Bool}{wr:List Nat}{x:k.ty.den}{eM gU:St}{Fa γ:Gh}{a a0:Act}{w w0:World}(hk:oG k eM)(h0:bE B N Fa eM a0 w0)(he:bE B N γ gU a w)(hx:Ext B Fa eM.mem w0 γ gU.mem w)
  (hf:∀t,bC wr t=false→a.tmps[t]?=a0.tmps[t]?) (hkeep:∀b bx,eM.mem b=some bx→j8 k.M b=false→gU.mem b=some { bx with lk:=true }) (ho:k.uL fz eM gU=some x) :
  ∃γ',bE B N γ' (k.jh fz false wr eM x) a w∧Ext B Fa eM.mem w0 γ' (k.jh fz false wr eM x).mem w:=by
 unfold Carry.uL at ho;cases fz with
 | false=>exact⟨γ,jk hk h0 he hx hf (fun b bx hb hin=>⟨true,hkeep b bx hb hin⟩) ho⟩
 | true =>
   simp only[bZ] at ho;split at ho
   ·rename_i σ1 hs;obtain⟨dS,s1,x1,k1⟩:=zv hs he;exact⟨dS,jk hk h0 s1 (hx.trans x1) hf (fun b bx hb hin=>⟨true,k1 b _ (hkeep b bx hb hin) rfl⟩) ho⟩
   ·cases ho
noncomputable def roundOf(cx:Ctx)(nb:Nat)(bf:List Nat)(inl:Nat→List av→St→Tree (av×St))(k:Carry)(fz:Bool)(σ:St)(c:Code)(pl:List (Option Ac))(x:k.ty.den):Option (k.ty.den⊕(Nat×k.ty.den)) :=
 ((eW cx nb bf inl c pl (k.jh false true (writes c) σ x)).bind fun r=>bif Nat.beq r.1 0 then(match k.out false σ r.2 with
   | some y=>.ret (.inl y)
   | none=>.fail)
  else match tC (jB c) r.1,k.uL fz σ r.2 with
   | some i,some y=>.ret (.inr (i,y))
   | _,_=>.fail).run
theorem x8{c:Code}{k:Carry}{fz:Bool}{σ:St}{γ:Gh}{a:Act}{w:World}{Q:Exit→Act→World→Prop}{R:Type}(hk:oG k σ)(h:bE B N γ σ a w){x0:k.ty.den}(hx0:k.out false σ σ=some x0)
  (f:k.ty.den→Option (k.ty.den⊕R)) (Out:R→Nat→k.ty.den→Prop) {z:R} (hL:Loop f x0=some z)
  (hf:∀x r,f x=some r→∃e y,(match r with|.inl y'=>e=0∧y'=y|.inr z=>e≠0∧Out z e y) ∧
   ∀dS a1 w1 (Q':Exit→Act→World→Prop),bE B N dS (k.jh false true (writes c) σ x) a1 w1→(∀gU γ' a' w',(bif Nat.beq e 0 then k.out false σ gU else k.uL fz σ gU)=some y→aE (k.jh false true (writes c) σ x) gU→bE B N γ' gU a' w'→Ext B dS (k.jh false true (writes c) σ x).mem w1 γ' gU.mem w'→qX (writes c) a1 a'→Q' (vP e) a' w') →
    c.wp P Q' a1 w1)
  (final:∀e y,e≠0→Out z e y→∀γ' a' w',bE B N γ' (k.jh fz false (writes c) σ y) a' w'→Ext B γ σ.mem w γ' (k.jh fz false (writes c) σ y).mem w'→qX (writes c) a a'→Q (vP e) a' w') :
  (Code.loop c).wp P Q a w:=by
 obtain⟨n,hn⟩:=hU hL;refine si (fun m a' w'=>∃γ' x,bE B N γ' (k.jh false true (writes c) σ x) a' w'∧Ext B γ σ.mem w γ' (k.jh false true (writes c) σ x).mem w'∧qX (writes c) a a'∧rounds f m x=some z) (n:=n) ?_ ?_
 ·obtain⟨s,x⟩:=jk (lock:=true) (wr:=writes c) hk h h (Ext.refl _ _ _ _) (fun _ _=>rfl) (fun b bx hb _=>⟨bx.lk,hb⟩) hx0;exact⟨γ,x0,s,x,qX.refl _ _,hn⟩
 ·intro m a1 w1 hI;obtain⟨dS,x,s1,e1,f1,hr⟩:=hI;cases m with
  | zero=>cases hr
  | succ m =>
    simp only[rounds] at hr;obtain⟨r,OQ,hr2⟩:=Option.bind_eq_some_iff.1 hr;obtain⟨e,y,hm,hwp⟩:=hf x r OQ;refine hwp dS a1 w1 _ s1 fun gU γ' a' w' ho hkp s2 e2 f2=>?_;have hx:=e1.trans e2;have hfr:=f1.trans f2;have hkeep:∀b bx,σ.mem b=some bx→j8 k.M b=false→gU.mem b=some { bx with lk:=true }:=fun b bx hb hin=>by
     have:=hkp b _ (A6 hb hin) (by simp);simpa using this
    cases r with
    | inl y' =>
      obtain⟨rfl,rfl⟩:=hm;obtain⟨s3,e3⟩:=jk (lock:=true) (wr:=writes c) hk h s2 hx hfr (fun b bx hb hin=>⟨true,hkeep b bx hb hin⟩) ho;exact⟨m,De m,γ',y',s3,e3,hfr,hr2⟩
    | inr z' =>
      obtain⟨h0,hO⟩:=hm;obtain rfl:=au hr2;have hb0:Nat.beq e 0=false:=dO h0;rw[hb0] at ho;obtain⟨MJ,s3,e3⟩:=qZ (wr:=writes c) hk h s2 hx hfr hkeep ho;have:=final e y h0 hO MJ a' w' s3 e3 hfr
      match e,h0,this with
      | 0,h0,_=>exact absurd rfl h0
      | 1,_,this=>exact this
      | i+2,_,this=>exact this
theorem Ev{S:Type}{o:Option (S⊕(Nat×S))}{r:S⊕S}(h:iK o=some r):(∃y,r=.inl y∧o=some (.inl y))∨∃i y,r=.inr y∧o=some (.inr (i,y)):=by
 unfold iK at h;obtain⟨q,h1,h2⟩:=Option.map_eq_some_iff.1 h;cases q with
 | inl y=>exact .inl ⟨y,h2.symm,h1⟩
 | inr p=>exact .inr ⟨p.1,p.2,h2.symm,h1⟩
theorem A8(qV:P.follows .mixedOrders=true)(hc:dw P cx)(dy:jD P B.G cx)(fE:mb P B.G inl)(hkeep:∀f vals σ v σ',(inl f vals σ).run=some (v,σ')→aE σ σ') :
  ∀(c:Code) {pl:List (Option Ac)} {σ:St} {γ:Gh} {a:Act} {w:World} {e:Nat} {σ':St} {Q:Exit→Act→World→Prop},(∀t∈writes c,t<N)→(eW cx nb bf inl c pl σ).run=some (e,σ')→bE B N γ σ a w →
   (∀γ' a' w',bE B N γ' σ' a' w'→Ext B γ σ.mem w γ' σ'.mem w'→qX (writes c) a a'→Q (vP e) a' w')→c.wp P Q a w:=by
 intro c;induction c with
 | skip =>
   intro pl σ γ a w e σ' Q hd hr h hK;obtain⟨rfl,rfl⟩:=bM (au hr);exact wp_skip (hK γ a w h (Ext.refl _ _ _ _) (qX.refl _ _))
 | label l =>
   intro pl σ γ a w e σ' Q hd hr h hK;obtain⟨rfl,rfl⟩:=bM (au hr);exact wp_label (hK γ a w h (Ext.refl _ _ _ _) (qX.refl _ _))
 | ret =>
   intro pl σ γ a w e σ' Q hd hr h hK;obtain⟨rfl,rfl⟩:=bM (au hr);exact wp_ret (hK γ a w h (Ext.refl _ _ _ _) (qX.refl _ _))
 | exit i =>
   intro pl σ γ a w e σ' Q hd hr h hK;obtain⟨rfl,rfl⟩:=bM (au hr);exact wp_exit (hK γ a w h (Ext.refl _ _ _ _) (qX.refl _ _))
 | region id ops dr =>
   intro pl σ γ a w e σ' Q hd hr h hK;obtain⟨σ1,h1,h2⟩:=bind_some hr;obtain⟨rfl,rfl⟩:=bM (au h2);have hd':∀o∈ops.toList,∀k,o.dst=some k→k<N:=fun o ho k hk=>hd k (zu ho hk);have hfr:∀{a a':Act},Fr (number 0 ops.toList) a a'→qX (writes (.region id ops dr)) a a':=fun hf t ht=>hf t (A5 ht);cases dr with
   | true=>exact A1 qV hc dy fE hd' h1 h fun γ' a' w' s x f=>hK γ' a' w' s x (hfr f)
   | false=>exact zb hc dy fE hkeep hd' h1 h fun γ' a' w' s x f=>hK γ' a' w' s x (hfr f)
 | seq x y L6 L7 =>
   intro pl σ γ a w e σ' Q hd hr h hK;obtain⟨r1,h1,h2⟩:=bind_some hr;obtain⟨e1,σ1⟩:=r1;have L8:∀t∈writes x,t<N:=fun t ht=>hd t (rB _ ht);have L9:∀t∈writes y,t<N:=fun t ht=>hd t (qc _ ht);refine wp_seq (L6 L8 h1 h fun γ' a' w' s1 x1 f1=>?_);cases e1 with
   | zero=>exact L7 L9 h2 s1 fun HV OR w'' s2 x2 f2=>hK HV OR w'' s2 (x1.trans x2) (f1.left.trans f2.right)
   | succ e1 =>
     obtain⟨rfl,rfl⟩:=bM (au h2);have:=hK γ' a' w' s1 x1 f1.left;cases e1 with
     | zero=>exact this
     | succ i=>exact this
 | block i x ih =>
   intro pl σ γ a w e σ' Q hd hr h hK;obtain⟨r1,h1,h2⟩:=bind_some hr;obtain⟨e1,σ1⟩:=r1;obtain⟨rfl,rfl⟩:=bM (au h2);refine wp_block (ih hd h1 h fun γ' a' w' s1 x1 f1=>?_);have:=hK γ' a' w' s1 x1 f1
   match e1,this with
   | 0,this=>exact this
   | 1,this=>exact this
   | j+2,this =>
     show Exit.inBlock i Q (.exit j) a' w'
     unfold Exit.inBlock;by_cases e:j=i
     ·subst e;simp only[iE];simpa [vP] using this
     ·simp only[cY e];have hb:Nat.beq (j+2) (i+2)=false:=dO (by omega);rw[hb] at this;exact this
 | scope x ih =>
   intro pl σ γ a w e σ' Q hd hr h hK;refine wp_scope_straight (ih hd hr h fun γ' a' w' s1 x1 f1=>?_);have:=hK γ' a' w' s1 x1 f1
   match e,this with
   | 0,this=>exact this
   | 1,this=>exact this
   | j+2,this=>exact this
 | cond o x y L6 L7 =>
   intro pl σ γ a w e σ' Q hd hr h hK;have L8:∀t∈writes x,t<N:=fun t ht=>hd t (rB _ ht);have L9:∀t∈writes y,t<N:=fun t ht=>hd t (qc _ ht);unfold eW at hr;split at hr
   ·rename_i c0 GL HY;change Bool at c0;have hev:=h.aZ o;rw[HY] at hev;have hev:=mN hev;have hn:=cT hr;cases c0 with
    | false=>exact wp_cond_false hev (L7 L9 hn h fun γ' a' w' s1 x1 f1=>hK γ' a' w' s1 x1 f1.right)
    | true=>exact wp_cond_true hev (L6 L8 hn h fun γ' a' w' s1 x1 f1=>hK γ' a' w' s1 x1 f1.left)
   ·rename_i c0 p GL HY;change Bool at c0;have hev:=h.aZ o;rw[HY] at hev;have hev:=mN hev;split at hr
    ·cases hr
    rename_i σ CD;obtain⟨γ,h,hx⟩:=s5 CD h;replace hK:=fun γ' a' w' s x f=>hK γ' a' w' s (hx.trans x) f;clear hx;split at hr
    ·cases hr
    rename_i k hk;have hok:=mT hk;dsimp only at hr;have go:∀{r:Nat×St},(Tree.node c0 (eW cx nb bf inl x GL (k.lock σ)) (eW cx nb bf inl y (GL.drop (marks x)) (k.lock σ))).run=some r→∀{v:k.ty.den},k.uL p.fz σ r.2=some v →
      (∀γ' a' w',bE B N γ' (k.jh p.fz false (writes x++writes y) σ v) a' w'→Ext B γ σ.mem w γ' (k.jh p.fz false (writes x++writes y) σ v).mem w'→qX (writes x++writes y) a a'→Q (vP r.1) a' w') →
      (Code.cond o x y).wp P Q a w:=by
     intro r hrun v ho hQ;have hlk:bE B N γ (k.lock σ) a w:=by rw[IA];exact h.jL
     have hle:Ext B γ σ.mem w γ (k.lock σ).mem w:=by rw[qY];exact Ext.jL
     have fin:aE (k.lock σ) r.2→∀γ' a' w',bE B N γ' r.2 a' w'→Ext B γ (k.lock σ).mem w γ' r.2.mem w'→qX (writes x++writes y) a a'→Q (vP r.1) a' w':=by
      intro hkp γ' a' w' s1 x1 f1;obtain⟨oY,s2,x2⟩:=qZ (wr:=writes x++writes y) hok h s1 (hle.trans x1) f1 (fun b bx hb hin=>hkp b _ (by rw[qY,x6 hb,hin];rfl) rfl) ho;exact hQ oY a' w' s2 x2 f1
     have hn:=cT hrun;cases c0 with
     | false=>exact wp_cond_false hev (L7 L9 hn hlk fun γ' a' w' s1 x1 f1=>fin (ku hkeep _ _ _ _ hn) γ' a' w' s1 x1 f1.right)
     | true=>exact wp_cond_true hev (L6 L8 hn hlk fun γ' a' w' s1 x1 f1=>fin (ku hkeep _ _ _ _ hn) γ' a' w' s1 x1 f1.left)
    split at hr
    ·obtain⟨v,h1,h2⟩:=sj hr;obtain⟨rfl,rfl⟩:=bM (au h2);obtain⟨r,h3,h4⟩:=bind_some h1;obtain⟨h5,h6⟩:=ai h4;refine go h3 (vR h6) fun γ' a' w' s x f=>?_;rw[cB h5];exact hK γ' a' w' s x f
    ·rename_i es HI;obtain⟨v,h1,h2⟩:=sj hr;obtain⟨r,h3,h4⟩:=bind_some h1;split at h4
     ·rename_i i v' JO ho;obtain rfl:=au h4;rw[x7 JO] at h2;obtain⟨rfl,rfl⟩:=bM (au h2);exact go h3 ho fun γ' a' w' s x f=>hK γ' a' w' s x f
     ·cases h4
   ·cases hr
 | loop c ih =>
   intro pl σ γ a w e σ' Q hd hr h hK;unfold eW at hr;split at hr
   case h_2 =>
    rename_i GL;generalize 100000=n at hr;refine si (fun m a' w'=>∃γ' σ1,bE B N γ' σ1 a' w'∧Ext B γ σ.mem w γ' σ1.mem w'∧qX (writes c) a a'∧(again (fun σ=>eW cx nb bf inl c GL σ) m σ1).run=some (e,σ')) (n:=n) ⟨γ,σ,h,Ext.refl _ _ _ _,qX.refl _ _,hr⟩ ?_;intro m a1 w1 hI;obtain⟨dS,σ1,s1,e1,f1,eP⟩:=hI;cases m with
    | zero=>cases eP
    | succ m =>
      obtain⟨r,q1,q2⟩:=bind_some eP;obtain⟨e',σ2⟩:=r;refine ih hd q1 s1 fun γ' a' w' s2 e2 f2=>?_;cases hq:Nat.beq e' 0 with
      | true =>
        dsimp only at q2;rw[hq] at q2;obtain rfl:=cB hq;exact⟨m,De m,γ',σ2,s2,e1.trans e2,f1.trans f2,q2⟩
      | false =>
        dsimp only at q2;rw[hq] at q2;obtain⟨rfl,rfl⟩:=bM (au q2);have:=hK γ' a' w' s2 (e1.trans e2) (f1.trans f2)
        match e',hq,this with
        | 0,hq,_=>cases hq
        | 1,_,this=>exact this
        | i+2,_,this=>exact this
   case h_3=>cases hr
   rename_i p GL;split at hr
   ·rename_i ct hct;generalize 100=n at hr;generalize 0=j at hr;refine si (fun m a' w'=>∃γ' σ1 j',bE B N γ' σ1 a' w'∧Ext B γ σ.mem w γ' σ1.mem w'∧qX (writes c) a a'∧(rM (fun σ=>eW cx nb bf inl c GL σ) ct m j' σ1).run=some (e,σ')) (n:=n) ⟨γ,σ,j,h,Ext.refl _ _ _ _,qX.refl _ _,hr⟩ ?_;intro m a1 w1 hI;obtain⟨dS,σ1,j1,s1,e1,f1,eP⟩:=hI;cases m with
    | zero=>cases eP
    | succ m =>
      unfold rM at eP;split at eP
      case h_2=>cases eP
      rename_i x hx;obtain⟨hj,hr2⟩:=aX eP;obtain⟨r,q1,q2⟩:=bind_some hr2;obtain⟨e',σ2⟩:=r;change Int at x;have JB:x=(j1:Int):=BD (show decide (x=(j1:Int))=true from hj);have s1':bE B N dS (σ1.put ct (.data (.int .i64) (j1:Int))) a1 w1:=s1.Dz (by
       have:=s1.slots ct;rw[hx] at this;rw[←JB];exact this)
      refine ih hd q1 s1' fun γ' a' w' s2 e2 f2=>?_;have e2:Ext B dS σ1.mem w1 γ' σ2.mem w':=e2;cases hq:Nat.beq e' 0 with
      | true =>
        dsimp only at q2;rw[hq] at q2;obtain rfl:=cB hq;exact⟨m,De m,γ',σ2,j1+1,s2,e1.trans e2,f1.trans f2,q2⟩
      | false =>
        dsimp only at q2;rw[hq] at q2;obtain⟨rfl,rfl⟩:=bM (au q2);have:=hK γ' a' w' s2 (e1.trans e2) (f1.trans f2)
        match e',hq,this with
        | 0,hq,_=>cases hq
        | 1,_,this=>exact this
        | i+2,_,this=>exact this
   split at hr
   ·cases hr
   rename_i σ CD;obtain⟨γ,h,hx⟩:=s5 CD h;replace hK:=fun γ' a' w' s x f=>hK γ' a' w' s (hx.trans x) f;clear hx;split at hr
   ·cases hr
   rename_i k hk;have hok:=mT hk;dsimp only at hr;split at hr
   ·cases hr
   rename_i x0 hx0;have hb:∀x r,roundOf cx nb bf inl k p.fz σ c GL x=some r→∃e gU y,(eW cx nb bf inl c GL (k.jh false true (writes c) σ x)).run=some (e,gU)∧(bif Nat.beq e 0 then k.out false σ gU else k.uL p.fz σ gU)=some y∧((e=0∧r=.inl y)∨(e≠0∧∃i,tC (jB c) e=some i∧r=.inr (i,y))):=by
    intro x r hx;unfold roundOf at hx;obtain⟨q,q1,q2⟩:=bind_some hx;obtain⟨e,gU⟩:=q;dsimp only at q2;cases he:Nat.beq e 0 with
    | true =>
      rw[he] at q2;simp only[bZ] at q2;split at q2
      ·rename_i y hy;exact⟨e,gU,y,q1,by rw[he];exact hy,.inl ⟨cB he,(au q2).symm⟩⟩
      ·cases q2
    | false =>
      rw[he] at q2;simp only[ez] at q2;split at q2
      ·rename_i i y hi hy;exact⟨e,gU,y,q1,by rw[he];exact hy,.inr ⟨fun e0=>(by subst e0;cases he),i,hi,(au q2).symm⟩⟩
      ·cases q2
   have step:∀{x:k.ty.den} {e:Nat} {gU:St} {y:k.ty.den},(eW cx nb bf inl c GL (k.jh false true (writes c) σ x)).run=some (e,gU)→(bif Nat.beq e 0 then k.out false σ gU else k.uL p.fz σ gU)=some y→∀dS a1 w1 (Q':Exit→Act→World→Prop),bE B N dS (k.jh false true (writes c) σ x) a1 w1 →
     (∀gU γ' a' w',(bif Nat.beq e 0 then k.out false σ gU else k.uL p.fz σ gU)=some y→aE (k.jh false true (writes c) σ x) gU→bE B N γ' gU a' w'→Ext B dS (k.jh false true (writes c) σ x).mem w1 γ' gU.mem w'→qX (writes c) a1 a'→Q' (vP e) a' w')→c.wp P Q' a1 w1:=by
    intro x e gU y hrun ho dS a1 w1 Q' s hQ;exact ih hd hrun s fun γ' a' w' s1 x1 f1=>hQ gU γ' a' w' ho (ku hkeep _ _ _ _ hrun) s1 x1 f1
   split at hr
   ·rename_i e0 HI;obtain⟨v,h1,h2⟩:=aR hr;obtain⟨rfl,rfl⟩:=bM (au h2);refine x8 (fz:=p.fz) hok h hx0 _ (fun z e' y=>e'=e0∧z=y) h1 (fun x r hx=>?_) (fun e' y hne hO γ' a' w' s x f=>?_)
    ·rcases Ev hx with ⟨y,rfl,hy⟩|⟨i,y,rfl,hy⟩
     ·obtain⟨e,gU,y',q1,q2,q3⟩:=hb x _ hy;rcases q3 with ⟨rfl,q3⟩|⟨_,i,_,q3⟩
      ·obtain rfl:=Sum.inl.inj q3;exact⟨0,y,⟨rfl,rfl⟩,step q1 q2⟩
      ·cases q3
     ·obtain⟨e,gU,y',q1,q2,q3⟩:=hb x _ hy;rcases q3 with ⟨rfl,q3⟩|⟨hne,i',JO,q3⟩
      ·cases q3
      ·obtain⟨rfl,rfl⟩:=bM (Sum.inr.inj q3);rw[HI] at JO;exact⟨e,y,⟨hne,GM JO,rfl⟩,step q1 q2⟩
    ·obtain⟨rfl,rfl⟩:=hO;exact hK γ' a' w' s x f
   ·obtain⟨v,h1,h2⟩:=aR hr;refine x8 (fz:=p.fz) hok h hx0 _ (fun z e' y=>tC (jB c) e'=some z.1∧z.2=y) h1 (fun x r hx=>?_) (fun e' y hne hO γ' a' w' s x f=>?_)
    ·obtain⟨e,gU,y',q1,q2,q3⟩:=hb x _ hx;rcases q3 with ⟨rfl,rfl⟩|⟨hne,i,JO,rfl⟩
     ·exact⟨0,y',⟨rfl,rfl⟩,step q1 q2⟩
     ·exact⟨e,y',⟨hne,JO,rfl⟩,step q1 q2⟩
    ·obtain⟨JO,rfl⟩:=hO;rw[x7 JO] at h2;obtain⟨rfl,rfl⟩:=bM (au h2);exact hK γ' a' w' s x f
 | _=>intro pl σ γ a w e σ' Q hd hr h hK;cases hr
end
end Go.Ge
namespace Go.Ge
variable [Lp]
open RowKit
def Ew(fn:Func):Bool:=!(fn.name == "runtime.NumGoroutine")&&(match fn.body with|some c=>(writes c).all fun t=>Nat.blt t fn.ntmps|none=>true)
def A9(cx:Ctx):Prop:=∀f fn,find cx.fns f=some fn→Ew fn=true
theorem jl{α:Type}{l:List (Nat×α)}{k:Nat}{x:α}(h:find l k=some x):(k,x)∈l:=by
 induction l with
 | nil=>cases h
 | cons p r ih =>
   obtain⟨i,a⟩:=p;simp only[find] at h;cases hb:Nat.beq i k with
   | true =>
     rw[hb] at h;obtain rfl:=au h;obtain rfl:=cB hb;exact jU ..
   | false=>rw[hb] at h;exact jT _ (ih h)
theorem GN{cx:Ctx}(h:(cx.fns.all fun p=>Ew p.2)=true):A9 cx:=fun f fn hf=>by
 rw[tr] at h;exact h _ (jl hf)
section
variable {P:Program} {B:iP} {N:Nat} {γ:Gh} {σ:St} {a:Act} {w:World} {cx:Ctx}
def sn(tmps:Array Value):ResultVar→Sem Value
 | .tmp t=>pure (tmps.getD t undef)
 | .cell a t=>do loadVar t (←asAddr (tmps.getD a undef))
theorem nj(hc:dw P cx)(h:bE B N γ σ a w){r:ResultVar}{v:av}(hr:(rN cx σ r).run=some v):∃val,(sn a.tmps r).run P w=.ok val w∧aV γ σ.mem w v .val [val]:=by
 cases r with
 | tmp t =>
   obtain rfl:=au hr;exact⟨_,rfl,h.slots t⟩
 | cell t ty =>
   obtain⟨τ,h1,h2⟩:=bind_some hr;obtain rfl:=au h2;obtain⟨u,val,ad,rfl,g1,g2,g3⟩:=Ak (P:=P) hc (x:=.tmp t) h h1;refine⟨val,?_,?_⟩
   ·have OS:a.tmps.getD t undef=.pointer (some ad):=g1;simp only[sn,OS,asAddr,Sem.run_bind,Sem.run_pure,Result.andThen_ok,g2]
   ·simpa [St.aA,St.put] using g3
theorem vS(hc:dw P cx)(h:bE B N γ σ a w):∀{rs:List ResultVar} {v:av},(qm cx σ rs).run=some v→∃vals:List Value,vals.length=rs.length∧(rs.mapM (sn a.tmps)).run P w=.ok vals w∧aV γ σ.mem w v .many vals:=by
 intro rs;induction rs with
 | nil=>intro v hr;obtain rfl:=au hr;exact⟨[],rfl,rfl,rfl⟩
 | cons r rs ih =>
   intro v hr;obtain⟨v1,h1,h2⟩:=bind_some hr;obtain⟨l,h3,h4⟩:=bind_some h2;obtain rfl:=au h4;obtain⟨val,g1,g2⟩:=nj hc h h1;obtain⟨vals,k1,k2,k3⟩:=ih h3;refine⟨val::vals,by simp[k1],?_,val,vals,rfl,g2,k3⟩;simp only[Dh,Sem.run_bind,g1,Result.andThen_ok,k2,Sem.run_pure]
theorem CE(fn:Func)(tmps:Array Value):results fn tmps=(do
  let vs ←fn.results.toList.mapM (sn tmps)
  pure (if h:vs.toArray.size=1 then vs.toArray[0] else .tuple vs.toArray)):=by
 have h:results fn tmps=(do
   let vs ←fn.results.mapM (sn tmps)
   pure (if h:vs.size=1 then vs[0] else .tuple vs)):=by
  unfold results
  congr 1
 rw[h,Array.mapM_eq_mapM_toList];simp only[bind_map_left]
theorem xu(hc:dw P cx)(h:bE B N γ σ a w){fn:Func}{v:av}(hr:(results1 cx σ fn.results.toList).run=some v):∃val,(results fn a.tmps).run P w=.ok val w∧aV γ σ.mem w v .val [val]:=by
 rw[CE];generalize fn.results.toList=rs at hr;have many:∀{l:av},rs.length≠1→(qm cx σ rs).run=some l→∃val,(do
   let vs ←rs.mapM (sn a.tmps)
   pure (if h:vs.toArray.size=1 then vs.toArray[0] else .tuple vs.toArray):Sem Value).run P w=.ok val w∧aV γ σ.mem w (.kN l) .val [val]:=by
  intro l hne hl;obtain⟨vals,k1,k2,k3⟩:=vS hc h hl;refine⟨.tuple vals.toArray,?_,vals.toArray,rfl,by simpa using k3⟩;have:¬vals.toArray.size=1:=by simp[k1,hne]
  simp only[Sem.run_bind,k2,Result.andThen_ok,Sem.run_pure,dif_neg this]
 match rs,hr with
 | [],hr =>
   obtain⟨l,h1,h2⟩:=bind_some hr;obtain rfl:=au h2;exact many (by simp) h1
 | [r],hr =>
   obtain⟨val,g1,g2⟩:=nj hc h hr;refine⟨val,?_,g2⟩;simp only[Dh,List.mapM_nil,Sem.run_bind,g1,Result.andThen_ok,Sem.run_pure];rfl
 | r::s::rs,hr =>
   obtain⟨l,h1,h2⟩:=bind_some hr;obtain rfl:=au h2;exact many (by simp) h1
theorem Ex{mem:Nat→Option aI}(hm:aG B γ mem w){vals:List av}{xs:Array Value}(hv:gm γ mem w vals xs.toList)(n:Nat) :
  bE B (xs.size+(n-xs.size)) γ (Dn mem vals) { tmps:=xs++Array.replicate (n-xs.size) undef,defers:=[] } w where
 slots:=fun t=>by
  show aV γ mem w ((vals[t]?).getD .undef) .val [_]
  cases hq:vals[t]? with
  | none=>exact⟨_,rfl⟩
  | some v =>
    have ht:t<xs.size:=by
     have:=(List.getElem?_eq_some_iff.1 hq).1;have h2:=hv.1;simp at h2;omega
    have h1:xs[t]?=some xs[t]:=Array.getElem?_eq_getElem ht;have h2:(xs++Array.replicate (n-xs.size) undef).getD t undef=xs[t]:=by
     rw[Bx,Array.getElem?_append_left ht,h1];rfl
    dsimp only;rw[h2];exact hv.2 t v xs[t] hq (by simp[ht])
 size:=by simp
 defers:=rfl
 ok:=hm
noncomputable def x9(cx:Ctx)(n nb:Nat)(bS:Nat→lX):Nat→List av→St→Tree (av×St) :=
 fun g xs σ=>(mY cx n (pM σ.mem ((nb+g+1)*1000) (bS g).yu) bS g xs σ.mem).bind fun r=>.ret (r.1,{ σ with mem:=r.2 })
theorem vT{n nb f:Nat}{bS:Nat→lX}{vals:List av}{mem:Nat→Option aI}{r:av×(Nat→Option aI)}(hr:(mY cx (n+1) nb bS f vals mem).run=some r) :
  ∃fn c,find cx.fns f=some fn∧fn.body=some c∧((uN cx nb (bS f) (x9 cx n nb bS) fn c vals mem).run=some r∨∃R,(Dq R vals mem (uN cx nb (bS f) (x9 cx n nb bS) fn c vals)).run=some r):=by
 unfold mY at hr;split at hr
 case h_2=>cases hr
 rename_i fn hfn;split at hr
 case h_2=>cases hr
 rename_i c hb;refine⟨fn,c,hfn,hb,?_⟩;split at hr
 ·exact .inl hr
 ·exact .inr ⟨_,hr⟩
theorem p5{nb:Nat}{p:lX}{inl:Nat→List av→St→Tree (av×St)}{fn:Func}{c:Code}{vals:List av}{mem:Nat→Option aI}{r:av×(Nat→Option aI)}(hr:(uN cx nb p inl fn c vals mem).run=some r) :
  ∃e σ',(eW cx nb p.yu inl c p.marks (Dn mem vals)).run=some (e,σ')∧(e=0∨e=1)∧(results1 cx σ' fn.results.toList).run=some r.1∧r.2=σ'.mem:=by
 obtain⟨q,h1,h2⟩:=bind_some hr;obtain⟨e,σ'⟩:=q;obtain⟨h3,h4⟩:=ai h2;obtain⟨v,h5,h6⟩:=bind_some h4;obtain rfl:=au h6;refine⟨e,σ',h1,?_,h5,rfl⟩;simp only[uz] at h3;rcases h3 with h3|h3
 ·exact .inl (cB h3)
 ·exact .inr (cB h3)
theorem IB:∀{l:List Ty} {i t:Nat} {s:Sh},(t,s)∈Dp l i→∃u,s=.d u:=by
 intro l;induction l with
 | nil=>intro i t s h;cases h
 | cons a r ih =>
   intro i t s h;rcases List.mem_cons.1 h with h|h
   ·obtain⟨rfl,rfl⟩:=bM h;exact⟨a,rfl⟩
   ·exact ih h
theorem vU{R:Bool×List Ty}{vals:List av}{mem:Nat→Option aI}{F:(Nat→Option aI)→Tree (av×(Nat→Option aI))}{r:av×(Nat→Option aI)}(hr:(Dq R vals mem F).run=some r) :
  ∃(k:Carry) (x:k.ty.den) (v:av) (mem':Nat→Option aI),oG k (eX mem)∧(F (k.lock (eX mem)).mem).run=some (v,mem')∧k.out false (eX mem) (FR R.1 v mem')=some x∧Ad R.1 v R.2.length=true ∧
   r=(yy R.1 R.2.length (k.jh false false (List.range R.2.length) (eX mem) x).slots,(k.jh false false (List.range R.2.length) (eX mem) x).mem):=by
 unfold Dq at hr;split at hr
 ·cases hr
 rename_i m hm;obtain⟨x,h1,h2⟩:=sj hr;obtain⟨q,h3,h4⟩:=bind_some h1;obtain⟨h5,h4⟩:=ai h4;refine⟨⟨Dp R.2 0,m,fun _=>false⟩,x,q.1,q.2,⟨fun t s hts=>?_,GJ hm,fun b x hb=>(by cases hb)⟩,h3,vR h4,h5,(au h2).symm⟩;obtain⟨u,rfl⟩:=IB hts;trivial
theorem GO{γ:Gh}{mem:Nat→Option aI}{w:World}:∀{m:av} {vs:List Value},aV γ mem w m .many vs→uM m=vs.length∧∀(t:Nat) (u:av),nth m t=some u→∃v,vs[t]?=some v∧aV γ mem w u .val [v]:=by
 intro m;induction m with
 | mix a b _ fF =>
   intro vs h;obtain⟨v,r,rfl,h1,h2⟩:=h;obtain⟨h3,h4⟩:=fF h2;refine⟨by simp only[uM,oM,h3],fun t u ht=>?_⟩;cases t with
   | zero=>obtain rfl:=au ht;exact⟨v,rfl,h1⟩
   | succ t=>exact h4 t u ht
 | nl=>intro vs h;obtain rfl:vs=[]:=h;exact⟨rfl,fun t u ht=>(by cases t<;>cases ht)⟩
 | _=>intro vs h;exact h.elim
theorem Ey{γ:Gh}{mem:Nat→Option aI}{w:World}{slots:Nat→av}:∀(vs:List Value) (i:Nat),(∀(t:Nat) (v:Value),vs[t]?=some v→aV γ mem w (slots (i+t)) .val [v])→aV γ mem w (J2 slots i vs.length) .many vs:=by
 intro vs;induction vs with
 | nil=>intro i h;exact rfl
 | cons v r ih =>
   intro i h;refine⟨v,r,rfl,h 0 v rfl,ih (i+1) fun t u hu=>?_⟩;have:=h (t+1) u (by simpa using hu)
   rwa [show i+(t+1)=i+1+t by omega] at this
theorem CF{bS:Nat→lX}:∀(n nb f:Nat) (vals:List av) (mem:Nat→Option aI) (r:av×(Nat→Option aI)),(mY cx n nb bS f vals mem).run=some r→∀b bx,mem b=some bx→bx.lk=true→r.2 b=some bx:=by
 intro n;induction n with
 | zero=>intro nb f vals mem r h;cases h
 | succ n ih =>
   intro nb f vals mem r h b bx hb hl;obtain⟨fn,c,h1,h2,h3⟩:=vT h;have body:∀{mem:Nat→Option aI} {r:av×(Nat→Option aI)},(uN cx nb (bS f) (x9 cx n nb bS) fn c vals mem).run=some r→∀b bx,mem b=some bx→bx.lk=true→r.2 b=some bx:=by
    intro mem r h b bx hb hl;obtain⟨e,σ',h3,h4,h5,h6⟩:=p5 h;have:=ku (fun f vals σ v σ' hi=>by
     obtain⟨q,g1,g2⟩:=bind_some (show((mY cx n (pM σ.mem ((nb+f+1)*1000) (bS f).yu) bS f vals σ.mem).bind fun r=>.ret (r.1,{ σ with mem:=r.2 })).run=some (v,σ') from hi);obtain⟨rfl,rfl⟩:=bM (au g2);exact fun b bx hb hl=>ih _ _ _ _ q g1 b bx hb hl) c _ _ _ h3
    rw[h6];exact this b bx hb hl
   rcases h3 with h3|⟨R,h3⟩
   ·exact body h3 b bx hb hl
   ·obtain⟨k,x,v,mem',hk,_,_,_,rfl⟩:=vU h3;exact nT (fz:=false) (lock:=false) (wr:=List.range R.2.length) (x:=x) hk b bx hb hl
theorem vV{bS:Nat→lX}(n nb:Nat):∀f vals σ v σ',(x9 cx n nb bS f vals σ).run=some (v,σ')→aE σ σ':=by
 intro f vals σ v σ' hi;obtain⟨q,g1,g2⟩:=bind_some (show((mY cx n (pM σ.mem ((nb+f+1)*1000) (bS f).yu) bS f vals σ.mem).bind fun r=>.ret (r.1,{ σ with mem:=r.2 })).run=some (v,σ') from hi);obtain⟨rfl,rfl⟩:=bM (au g2);exact fun b bx hb hl=>CF _ _ _ _ _ q g1 b bx hb hl
theorem s6(qV:P.follows .mixedOrders=true)(hc:dw P cx){G:eN}(dy:jD P G cx)(CG:A9 cx){bS:Nat→lX} :
  ∀(n nb f:Nat) (B:iP) (γ:Gh) (mem mem':Nat→Option aI) (w:World) (vals:List av) (xs:Array Value) (v:av),B.G=G→aG B γ mem w→gm γ mem w vals xs.toList→(mY cx n nb bS f vals mem).run=some (v,mem') →
  (∃fn code,P.funcs[f]?=some fn∧(fn.name == "runtime.NumGoroutine")=false∧fn.body=some code) ∧
  Calls P f xs w fun e w'=>∃val γ',e=.returned val∧aG B γ' mem' w'∧Ext B γ mem w γ' mem' w'∧aV γ' mem' w' v .val [val]:=by
 intro n;induction n with
 | zero=>intro nb f B γ mem mem' w vals xs v _ _ _ h;cases h
 | succ n ih =>
   intro nb f B γ mem mem' w vals xs v hG hm hv h;subst hG;obtain⟨fn,c,h1,h2,h3⟩:=vT h;have hok:=CG f fn h1;simp only[Ew,h2,bY,oh,tr] at hok;have hP:=hc.fns f fn h1;refine⟨⟨fn,c,hP,hok.1,h2⟩,?_⟩;have fE:mb P B.G (x9 cx n nb bS):=by
    intro B' γ σ Ip w f vals xs v hG hm hv hi;obtain⟨q,g1,g2⟩:=bind_some (show((mY cx n (pM σ.mem ((nb+f+1)*1000) (bS f).yu) bS f vals σ.mem).bind fun r=>.ret (r.1,{ σ with mem:=r.2 })).run=some (v,Ip) from hi);obtain⟨rfl,rfl⟩:=bM (au g2);obtain⟨k1,k2⟩:=ih _ f B' γ σ.mem q.2 w vals xs q.1 hG hm hv g1;exact⟨k1,rfl,k2⟩
   have body:∀{γ:Gh} {mem mem':Nat→Option aI} {v:av},aG B γ mem w→gm γ mem w vals xs.toList→(uN cx nb (bS f) (x9 cx n nb bS) fn c vals mem).run=some (v,mem') →
     Calls P f xs w fun e w'=>∃val γ',e=.returned val∧aG B γ' mem' w'∧Ext B γ mem w γ' mem' w'∧aV γ' mem' w' v .val [val]:=by
    intro γ mem mem' v hm hv h;obtain⟨e,σ',h3,h4,h5,h6⟩:=p5 h;dsimp only at h5 h6;subst h6;refine calls_of_wp hP h2 ?_;refine A8 (B:=B) qV hc dy fE (vV _ _) c (fun t ht=>?_) h3 (Ex hm hv fn.ntmps) fun γ' a' w' s x f=>?_
    ·have:=hok.2 t ht;have:=tq (by simpa [Nat.blt] using this);omega
    ·obtain⟨val,r1,r2⟩:=xu (fn:=fn) hc s h5;have:a'.defers=[]∧∃v1,(results fn a'.tmps).run P w'=.ok v1 w'∧∃val γ',Ending.returned v1=.returned val∧aG B γ' σ'.mem w'∧Ext B γ mem w γ' σ'.mem w'∧aV γ' σ'.mem w' v .val [val] :=
      ⟨s.defers,val,r1,val,γ',rfl,s.ok,x,r2⟩
     rcases h4 with rfl|rfl
     ·exact this
     ·exact this
   rcases h3 with h3|⟨R,h3⟩
   ·exact body hm hv h3
   ·obtain⟨k,x,v1,GP,hk,h4,h5,hsp,h6⟩:=vU h3;obtain⟨rfl,rfl⟩:=bM h6;have H9:(k.lock (eX mem)).mem=jL (fun b bx=>bif j8 k.M b then bx.lk else true) mem:=qY k (eX mem);have NA:aG B γ (k.lock (eX mem)).mem w:=by rw[H9];exact hm.jL
    have hx1:Ext B γ mem w γ (k.lock (eX mem)).mem w:=by rw[H9];exact Ext.jL
    have hkeep:∀b bx,(k.lock (eX mem)).mem b=some bx→bx.lk=true→GP b=some bx:=by
     intro b bx hb hl;obtain⟨e,σ',g3,_,_,g6⟩:=p5 h4;have:=ku (fun f vals σ v σ' hi=>vV n nb f vals σ v σ' hi) c _ _ _ g3;rw[show GP=σ'.mem from g6];exact this b bx hb hl
    refine(body NA (hv.ext hx1) h4).mono fun e w' hw=>?_;obtain⟨val,dS,rfl,m1,x1,r1⟩:=hw;have fin:∀(n:Nat) (ts:Array Value),ts.size=n→n=R.2.length→(∀t,aV dS GP w' (spread R.1 v1 t) .val [ts.getD t undef]) →
      (∀{IC:Nat→Option aI} {sl:Nat→av},(∀t,aV dS IC w' (sl t) .val [ts.getD t undef])→aV dS IC w' (yy R.1 R.2.length sl) .val [val]) →
      ∃Lw oY,Ending.returned val=.returned Lw∧aG B oY (k.jh false false (List.range R.2.length) (eX mem) x).mem w'∧Ext B γ mem w oY (k.jh false false (List.range R.2.length) (eX mem) x).mem w' ∧
       aV oY (k.jh false false (List.range R.2.length) (eX mem) x).mem w' (yy R.1 R.2.length (k.jh false false (List.range R.2.length) (eX mem) x).slots) .val [Lw]:=by
     intro n ts hts hn hr hg;have s0:bE B n γ (eX mem) { tmps:=Array.replicate n undef,defers:=[] } w:=⟨fun t=>⟨_,rfl⟩,by simp,rfl,hm⟩;have s1:bE B n dS (FR R.1 v1 GP) { tmps:=ts,defers:=[] } w':=⟨hr,hts,rfl,m1⟩;obtain⟨s2,x2⟩:=jk (lock:=false) (wr:=List.range R.2.length) hk s0 s1 (hx1.trans x1) (fun t ht=>by
      have ht:¬t<n:=fun hlt=>by
       have hmem:t∈List.range R.2.length:=List.mem_range.2 (by omega);have:bC (List.range R.2.length) t=true:=qH.2 hmem;rw[this] at ht;cases ht
      rw[Ff (by show ts.size≤t;omega),Ff (by simp;omega)]) (fun b bx hb hin=>⟨true,hkeep b _ (by rw[H9];simp only[jL,show mem b=some bx from hb,hin,ez]) rfl⟩) h5
     exact⟨val,dS,rfl,s2.ok,x2,hg s2.slots⟩
    obtain⟨kN,L⟩:=R;cases kN with
    | false =>
      have hL:L.length=1:=cB hsp;refine fin 1 #[val] rfl hL.symm (fun t=>?_) (fun h=>h 0);cases t with
      | zero=>exact r1
      | succ t=>exact⟨_,rfl⟩
    | true =>
      cases v1 with
      | kN m =>
        obtain⟨arr,e1,r2⟩:=r1;obtain⟨q1,q2⟩:=GO r2;have hL:uM m=L.length:=cB hsp;obtain rfl:val=.tuple arr:=sD e1;have hsz:arr.size=L.length:=by rw[←hL,q1];simp
        refine fin L.length arr hsz rfl (fun t=>?_) (fun {IC sl} h=>⟨arr,rfl,?_⟩)
        ·show aV dS GP w' (match nth m t with|some u=>u|none=>.undef) .val _
         cases ht:nth m t with
         | none=>exact⟨_,rfl⟩
         | some u =>
           obtain⟨v,g1,g2⟩:=q2 t u ht;dsimp only;rw[Bx,←Ft,g1];exact g2
        ·have:=Ey (γ:=dS) (mem:=IC) (w:=w') (slots:=sl) arr.toList 0 fun t v ht=>by
          have:=h t;rw[Bx,←Ft,ht] at this;rw[lu];exact this
         rwa [show arr.toList.length=L.length by rw[←hsz];simp] at this
      | _=>cases hsp
end
end Go.Ge
namespace Go.Ge
variable [Lp]
open RowKit
section
variable {P:Program} {B:iP} {N:Nat} {γ:Gh} {σ:St} {a:Act} {w:World} {cx:Ctx}
theorem zw{mem:Nat→Option aI}{I:Nat→Nat→Prop}{loc:Nat→Option (Nat×Nat)}:∀{A:Ty} {x:A.den} {xs:List Value},dL w I A x xs→gm ⟨I,loc⟩ mem w (rO A x) xs:=by
 intro A;induction A with
 | pair t r BH ihr =>
   intro x xs h;obtain⟨cs,rest,rfl,h1,h2⟩:=h;have:=ihr h2;refine⟨by simp[rO,this.1],fun i v y hv hy=>?_⟩;cases i with
   | zero =>
     obtain rfl:=au hv;obtain rfl:=au hy;exact⟨cs,h1,rfl⟩
   | succ i=>exact this.2 i v y (by simpa [rO] using hv) (by simpa using hy)
 | unit=>intro x xs h;rw[show xs=[] from h];exact⟨rfl,fun i v y hv=>by cases hv⟩
 | _=>intro x xs h;exact h.elim
theorem Ba(hm:aG B γ σ.mem w){I':Nat→Nat→Prop}(hI:∀b o,γ.I b o→I' b o)(E7:∀b o,B.has b→b<w.heap.size→I' b o):∀{R:Ty} {y:R.den} {u:av} {vs:List Value},
  aV γ σ.mem w u .many vs→eI σ R (qn u)=some y→aV ⟨I',fun _=>none⟩ (fun _=>none) w (nA R y) .many vs:=by
 intro R;induction R with
 | pair t r BH ihr =>
   intro y u vs hu hl;cases u with
   | mix p q =>
     obtain⟨v,rest,rfl,h1,h2⟩:=hu;simp only[qn,eI] at hl;split at hl
     ·rename_i x z hx hz;obtain rfl:=au hl;obtain⟨cs,c1,c2⟩:=vh hm hI E7 h1 hx;exact⟨v,rest,rfl,⟨cs,c1,by rw[c2]⟩,ihr h2 hz⟩
     ·cases hl
   | _=>cases hl
 | unit =>
   intro y u vs hu hl;cases u with
   | mix p q=>cases hl
   | nl=>exact hu
   | _=>exact(show False from hu).elim
 | _=>intro y u vs hu hl;cases u<;>cases hl
theorem Ez(hm:aG B γ σ.mem w){I':Nat→Nat→Prop}(hI:∀b o,γ.I b o→I' b o)(E7:∀b o,B.has b→b<w.heap.size→I' b o){R:Ty}{y:R.den}{v:av}{val:Value}
  (hv:aV γ σ.mem w v .val [val]) (hl:eI σ R (uO R v)=some y):gw w I' R y val:=by
 have many:∀{R:Ty} {y:R.den},(jX R y=.kN (nA R y))→(eI σ R (match v with|.kN v=>qn v|v=>[v])=some y)→(∀t,R≠.pair t .unit)→gw w I' R y val:=by
  intro R y hres hl hne;unfold gw;rw[hres];have one:∀{v':av},eI σ R [v']=some y→False:=by
   intro v' h;cases R with
   | pair t r =>
     simp only[eI] at h;split at h
     ·rename_i hr;cases r with
      | unit=>exact hne t rfl
      | _=>cases hr
     ·cases h
   | _=>cases h
  cases v with
  | kN u =>
    obtain⟨arr,h1,h2⟩:=hv;exact⟨arr,h1,Ba hm hI E7 h2 hl⟩
  | _=>exact(one hl).elim
 cases R with
 | pair t r =>
   cases r with
   | unit =>
     simp only[uO,eI] at hl;split at hl
     ·rename_i x z hx hz;obtain rfl:=au hl;obtain⟨cs,c1,c2⟩:=vh hm hI E7 hv hx;exact⟨cs,c1,by rw[c2]⟩
     ·cases hl
   | _=>exact many rfl (by cases v<;>exact hl) (fun t e=>by cases e)
 | _=>exact many rfl (by cases v<;>exact hl) (fun t e=>by cases e)
theorem zx(qV:P.follows .mixedOrders=true)(hc:dw P cx){G:eN}(dy:jD P G cx)(CG:A9 cx){bS:Nat→lX}{n f:Nat}{A R:Ty}{spec:A.den→Option R.den}
  {fn:Func} {code:Code} (hfn:find cx.fns f=some fn) (hbody:fn.body=some code) (h:∀x y,spec x=some y→sem cx n bS f A R x=some y):Holds P G f ⟨A,R,spec⟩ where
 body:=by
  have hok:=CG f fn hfn;simp only[Ew,hbody,bY,oh] at hok;exact⟨fn,code,hc.fns f fn hfn,hok.1,hbody⟩
 calls:=by
  intro I w args x y hI hG hargs dW;have hs:=h x y dW;unfold sem at hs;obtain⟨r,h1,h2⟩:=bind_some hs;obtain⟨v,mem'⟩:=r;have hl:eI (eX mem') R (uO R v)=some y:=by
   dsimp only at h2;split at h2
   ·rename_i y' hy';obtain rfl:=au h2;exact hy'
   ·cases h2
  have hm:aG (uo G w.heap.size) ⟨I,fun _=>none⟩ (fun _=>none) w :=
   { bX:=fun b Q g=>by
      obtain⟨o,h1,h2⟩:=hG b Q g;exact⟨fun hb=>by have:=qt.1 hb;have:=(Array.getElem?_eq_some_iff.1 h1).1;omega,o,h1,h2⟩
     base:=dB _
     boxes:=fun b bx hb=>by cases hb
     inj:=fun b c blk k k' hb=>absurd rfl hb
     fresh:=fun b blk k hb=>absurd rfl hb
     kO:=hI
     sep:=fun b bx blk k off hb=>by cases hb }
  obtain⟨_,vi⟩:=s6 qV hc dy CG n 0 f (uo G w.heap.size) ⟨I,fun _=>none⟩ (fun _=>none) mem' w (rO A x) args v rfl hm (zw hargs) h1;refine vi.mono fun e w' hw=>?_;obtain⟨val,γ',rfl,m1,x1,r1⟩:=hw;refine⟨val,fun b o=>γ'.I b o∨(w.heap.size≤b∧b<w'.heap.size),rfl,x1.below.below,fun b o hi=>.inl (x1.I b o hi),fun b o hi=>?_,fun b o hi hn=>?_,?_⟩
  ·rcases hi with hi|hi
   ·exact m1.kO b o hi
   ·exact hi.2
  ·rcases hi with hi|hi
   ·exact qt.1 ((x1.kP b o hi).resolve_left hn)
   ·exact hi.1
  ·exact Ez (σ:=eX mem') m1 (fun b o hi=>.inl hi) (fun b o h1 h2=>.inr ⟨qt.1 h1,h2⟩) r1 hl
def vW(N M:List (Nat×Nat))(bs:List Nat)(ls:List (Option (Nat×Nat))):Nat→Option (Nat×Nat):=dH M ls (dH N (bs.map fun b=>some (b,0)) fun _=>none)
theorem ID{I:Nat→Nat→Prop}{N M:List (Nat×Nat)}{bs:List Nat}{ls:List (Option (Nat×Nat))}(hd:(aF N M).Nodup)(hM:M.length=ls.length):ig ⟨I,vW N M bs ls⟩ M ls:=by
 unfold aF at hd;exact mS (List.nodup_append.1 hd).2.1 hM
theorem IE{I:Nat→Nat→Prop}{N M:List (Nat×Nat)}{bs:List Nat}{ls:List (Option (Nat×Nat))}(hd:(aF N M).Nodup)(hN:N.length=bs.length):dP ⟨I,vW N M bs ls⟩ N bs:=by
 unfold aF at hd;obtain⟨h1,h2,h3⟩:=List.nodup_append.1 hd;have e:=mS (loc:=fun _=>none) h1 (ls:=bs.map fun b=>some (b,0)) (by simp[hN]);unfold dP;have e2:N.map (fun p=>(vW N M bs ls p.1).map (·.1))=(N.map fun p=>dH N (bs.map fun b=>some (b,0)) (fun _=>none) p.1).map (Option.map (·.1)):=by
  rw[zW];refine BB fun p hp=>?_;show(dH M ls _ p.1).map _=_
  rw[pU fun hq=>h3 p.1 (List.mem_map.2 ⟨p,hp,rfl⟩) p.1 hq rfl];rfl
 exact e2.trans (by rw[e,zW];rfl)
theorem GQ{N M:List (Nat×Nat)}{bs:List Nat}{ls:List (Option (Nat×Nat))}(hN:dP γ N bs)(hM:ig γ M ls)(hd:(aY bs ls).Nodup){b c blk k k':Nat}(hb:b∈aF N M)(hc:c∈aF N M)
  (e1:γ.loc b=some (blk,k)) (e2:γ.loc c=some (blk,k')):b=c:=by
 unfold aY at hd;obtain⟨d1,d2,d3⟩:=List.nodup_append.1 hd;have Ma:∀{b k},b∈N.map (·.1)→γ.loc b=some (blk,k)→∃i v:Nat,N[i]?=some (b,v)∧bs[i]?=some blk:=by
  intro b k hb e;obtain⟨p,hp,rfl⟩:=List.mem_map.1 hb;obtain⟨i,hi,JG⟩:=HO hp;refine⟨i,p.2,by rw[sC hi,JG],?_⟩;have:=congrArg (fun l=>l[i]?) hN;simp only[wH,sC hi,JG,qf,e] at this;cases hq:bs[i]? with
  | none=>rw[hq] at this;cases this
  | some x=>rw[hq] at this;simp at this;rw[this]
 have j8:∀{b k},b∈M.map (·.1)→γ.loc b=some (blk,k)→∃i v:Nat,M[i]?=some (b,v)∧ls[i]?=some (some (blk,k)):=by
  intro b k hb e;obtain⟨p,hp,rfl⟩:=List.mem_map.1 hb;obtain⟨i,hi,JG⟩:=HO hp;refine⟨i,p.2,by rw[sC hi,JG],?_⟩;rw[←hM,wH,sC hi,JG,qf,e]
 have hmem:∀{i k:Nat},ls[i]?=some (some (blk,k))→blk∈ls.filterMap fun L=>L.map (·.1):=fun h=>List.mem_filterMap.2 ⟨_,BA h,rfl⟩;unfold aF at hb hc;rcases List.mem_append.1 hb with hb|hb<;>rcases List.mem_append.1 hc with hc|hc
 ·obtain⟨i,v,i1,i2⟩:=Ma hb e1;obtain⟨j,v',j1,j2⟩:=Ma hc e2;have hij:i=j:=(List.getElem?_inj (List.getElem?_eq_some_iff.1 i2).1 d1).1 (i2.trans j2.symm);subst hij;rw[i1] at j1;exact(bM (au j1)).1
 ·obtain⟨i,v,i1,i2⟩:=Ma hb e1;obtain⟨j,v',j1,j2⟩:=j8 hc e2;exact absurd rfl (d3 blk (BA i2) blk (hmem j2))
 ·obtain⟨i,v,i1,i2⟩:=j8 hb e1;obtain⟨j,v',j1,j2⟩:=Ma hc e2;exact absurd rfl (d3 blk (BA j2) blk (hmem i2))
 ·obtain⟨i,v,i1,i2⟩:=j8 hb e1;obtain⟨j,v',j1,j2⟩:=j8 hc e2;have hij:=Gc d2 i2 j2;subst hij;rw[i1] at j1;exact(bM (au j1)).1
theorem vX{k:Nat}:∀{n:Nat},(gj k n).length=n:=by
 intro n;induction n generalizing k with
 | zero=>rfl
 | succ n ih=>simp[gj,ih]
theorem vY{k:Nat}:∀{n:Nat},(iO k n).length=n:=by
 intro n;induction n generalizing k with
 | zero=>rfl
 | succ n ih=>simp[iO,ih]
theorem EA:∀{a k b:Nat},(gj k (a+b)).drop a=gj (k+a) b:=by
 intro a;induction a with
 | zero=>intro k b;rw[lu];rfl
 | succ a ih =>
   intro k b;rw[show a+1+b=(a+b)+1 by omega];show(gj (k+1) (a+b)).drop a=_
   rw[ih,show k+1+a=k+(a+1) by omega]
theorem EB:∀{a k b:Nat},(iO k (a+b)).drop a=iO (k+a) b:=by
 intro a;induction a with
 | zero=>intro k b;rw[lu];rfl
 | succ a ih =>
   intro k b;rw[show a+1+b=(a+b)+1 by omega];show(iO (k+1) (a+b)).drop a=_
   rw[ih,show k+1+a=k+(a+1) by omega]
def CH:OT→Nat→av
 | .pair o U,k=>.mix (.ptr (qo k) 0 []) (CH U (k+o.nr))
 | _,_=>.data .unit ()
theorem CI{mem:Nat→Option aI}:∀{ps:List Bool} {A:Ty} {U:OT} {x:A.den} {u:U.den} {xs cO:List Value} {k m:Nat},xS w γ.I ps A U x xs cO→aV γ mem w (uF U u (gj k U.nr) (iO m U.nb)) .cells cO →
  gm γ mem w (qp ps U A x k) xs∧uF U u (gj k U.nr) (iO m U.nb)=CH U k:=by
 intro ps;induction ps with
 | nil =>
   intro A U x u xs cO k m h hr;obtain⟨_,rfl,rfl,_⟩:=h;exact⟨⟨rfl,fun i v y hv=>by cases hv⟩,rfl⟩
 | cons p ps ih =>
   intro A U x u xs cO k m h hb;cases p with
   | false =>
     cases A<;>first|(exact(show False from h).elim)|skip
     rename_i t A;obtain⟨cs,rest,rfl,h1,h2⟩:=h;obtain⟨this,hc⟩:=ih h2 hb;refine⟨⟨by simp[qp,this.1],fun i v y hv hy=>?_⟩,hc⟩;cases i with
     | zero =>
       obtain rfl:=au hv;obtain rfl:=au hy;exact⟨cs,h1,rfl⟩
     | succ i=>exact this.2 i v y (by simpa [qp] using hv) (by simpa using hy)
   | true =>
     cases U<;>first|(exact(show False from h).elim)|skip
     rename_i o U;cases o<;>first|(exact(show False from h).elim)|skip
     rename_i tid o;obtain⟨val,rest,r,rfl,rfl,h1⟩:=h;have e1:uF (.pair (.ref tid o) U) u (gj k (OT.pair (.ref tid o) U).nr) (iO m (OT.pair (.ref tid o) U).nb)=.mix (.ptr (qo k) 0 []) (uF U u.2 (gj (k+(OT.ref tid o).nr) U.nr) (iO (m+(OT.ref tid o).nb) U.nb)):=by
      rw[←EA,←EB];show av.mix (uF (.ref tid o) u.1 _ _) _=_
      congr 1
      show(match(gj k (o.nr+1+U.nr)).take (o.nr+1) with|(b,v)::_=>av.ptr b v []|[]=>.undef)=_
      rw[show o.nr+1+U.nr=(o.nr+U.nr)+1 by omega];rfl
     rw[e1] at hb⊢;obtain⟨c1,c2,e2,v1,v2⟩:=hb;obtain⟨v,rfl⟩:∃v,c1=[v]:=by obtain⟨⟨v,e,_⟩,_⟩:=v1;exact⟨v,e⟩
     obtain⟨rfl,rfl⟩:=FG e2;obtain⟨this,hc⟩:=ih h1 v2;refine⟨⟨by simp[qp,this.1],fun i v' y hv hy=>?_⟩,?_⟩
     ·cases i with
      | zero =>
        obtain rfl:=au hv;obtain rfl:=au hy;exact v1
      | succ i=>exact this.2 i v' y (by simpa [qp] using hv) (by simpa using hy)
     ·rw[hc];rfl
theorem CJ{mem:Nat→Option aI}:∀{U:OT} {k:Nat} {u:U.den} {N M:List (Nat×Nat)},Ae mem U k=some (u,N,M)→bJ mem U (CH U k)=some (u,N,M):=by
 intro U;induction U with
 | pair o U _ OU =>
   intro k u N M h;unfold Ae at h;split at h
   ·rename_i x N1 M1 y N2 M2 h1 h2;cases h;exact r8 h1 (OU h2)
   ·cases h
 | unit=>intro k u N M h;cases h;rfl
 | _=>intro k u N M h;cases h
theorem EC:∀{a b:List (Nat×Nat)},yz a b=true→a=b:=by
 intro a;induction a with
 | nil=>intro b h;cases b with|nil=>rfl|cons _ _=>cases h
 | cons p r ih =>
   intro b h;obtain⟨x,y⟩:=p;cases b with
   | nil=>cases h
   | cons q s =>
     obtain⟨z,v⟩:=q;simp only[yz,bY] at h;rw[cB h.1.1,cB h.1.2,ih h.2]
theorem ED:∀{n k:Nat} {p:Nat×Nat},p∈gj k n→p.2=0:=by
 intro n;induction n with
 | zero=>intro k p h;cases h
 | succ n ih =>
   intro k p h;rcases List.mem_cons.1 h with rfl|h
   ·rfl
   ·exact ih h
theorem zy:∀{a b:List Nat},a.map some=b.map some→a=b:=by
 intro a;induction a with
 | nil=>intro b h;cases b with|nil=>rfl|cons _ _=>cases h
 | cons x r ih =>
   intro b h;cases b with
   | nil=>cases h
   | cons y s =>
     simp only[jH,DQ,jx] at h;rw[h.1,ih h.2]
theorem CK{mem:Nat→Option aI}:∀{u:av} {vs:List Value},aV γ mem w u .many vs→gm γ mem w (qn u) vs:=by
 intro u;induction u with
 | mix p q l8 lG =>
   intro vs h;obtain⟨v,r,rfl,h1,h2⟩:=h;have:=lG h2;refine⟨by simp[qn,this.1],fun i v' y hv hy=>?_⟩;cases i with
   | zero =>
     obtain rfl:=au hv;obtain rfl:=au hy;exact h1
   | succ i=>exact this.2 i v' y (by simpa [qn] using hv) (by simpa using hy)
 | nl=>intro vs h;rw[show vs=[] from h];exact⟨rfl,fun i v y hv=>by cases hv⟩
 | _=>intro vs h;exact(show False from h).elim
theorem CL{I:Nat→Nat→Prop}:∀{R:Ty} {y:R.den} {vs:List Value},dL w I R y vs→aV ⟨I,fun _=>none⟩ (fun _=>none) w (nA R y) .many vs:=by
 intro R;induction R with
 | pair t r BH ihr =>
   intro y vs h;obtain⟨cs,rest,rfl,h1,h2⟩:=h;exact⟨_,rest,rfl,⟨cs,h1,rfl⟩,ihr h2⟩
 | unit=>intro y vs h;exact h
 | _=>intro y vs h;exact h.elim
theorem Bb{mem:Nat→Option aI}{v:av}{x:Value}(h:aV γ mem w v .val [x]):gm γ mem w [v] [x]:=by
 refine⟨rfl,fun i v' y hv hy=>?_⟩;cases i with
 | zero =>
   obtain rfl:=au hv;obtain rfl:=au hy;exact h
 | succ i=>cases hv
theorem CM{mem:Nat→Option aI}{R:Ty}{v:av}{val:Value}(hv:aV γ mem w v .val [val]) :
  ∃xs,gm γ mem w (uO R v) xs∧∀(I:Nat→Nat→Prop) (y:R.den),dL w I R y xs→gw w I R y val:=by
 have other:∀{R:Ty},(∀t,R≠.pair t .unit)→(∀y,jX R y=.kN (nA R y))→∃xs,gm γ mem w (match v with|.kN v=>qn v|v=>[v]) xs∧∀(I:Nat→Nat→Prop) (y:R.den),dL w I R y xs→gw w I R y val:=by
  intro R hne hres;have one:gm γ mem w [v] [val]→∃xs,gm γ mem w [v] xs∧∀(I:Nat→Nat→Prop) (y:R.den),dL w I R y xs→gw w I R y val:=by
   intro h1;refine⟨[val],h1,fun I y h=>?_⟩;exfalso;cases R with
   | pair t r =>
     obtain⟨cs,rest,e,_,h2⟩:=h;obtain⟨_,rfl⟩:=FG e;cases r with
     | unit=>exact hne t rfl
     | pair a b=>obtain⟨_,_,e2,_⟩:=h2;cases e2
     | _=>exact h2.elim
   | unit=>cases (show [val]=[] from h)
   | _=>exact h.elim
  cases v with
  | kN u =>
    obtain⟨arr,h1,h2⟩:=hv;refine⟨arr.toList,CK h2,fun I y h=>?_⟩;unfold gw;rw[hres];exact⟨arr,h1,CL h⟩
  | _=>exact one (Bb hv)
 cases R with
 | pair t r =>
   cases r with
   | unit =>
     refine⟨[val],by cases v<;>exact Bb hv,fun I y h=>?_⟩;obtain⟨cs,rest,e,h1,h2⟩:=h;obtain⟨rfl,_⟩:=FG e;exact⟨cs,h1,rfl⟩
   | _ =>
     cases v<;>exact other (fun t' e=>by cases e) (fun y=>rfl)
 | _ =>
   cases v<;>exact other (fun t' e=>by cases e) (fun y=>rfl)
theorem xw(qV:P.follows .mixedOrders=true)(hc:dw P cx){G:eN}(dy:jD P G cx)(CG:A9 cx){bS:Nat→lX}{n f:Nat}{ps:List Bool}{A:Ty}{U:OT}{R:Ty}{spec:A.den×U.den→Option (R.den×U.den)}
  {fn:Func} {code:Code} (hfn:find cx.fns f=some fn) (hbody:fn.body=some code) (h:∀x y,spec x=some y→J3 cx n bS f ps A U R x=some y):fR P G f ⟨ps,A,U,R,spec⟩ where
 body:=by
  have hok:=CG f fn hfn;simp only[Ew,hbody,bY,oh] at hok;exact⟨fn,code,hc.fns f fn hfn,hok.1,hbody⟩
 calls:=by
  intro I w args cO bs ls x u y hI hG Mb hargs CN hnd dW;have hs:=h (x,u) y dW;unfold J3 at hs;obtain⟨r,h1,h2⟩:=bind_some hs;obtain⟨v,mem'⟩:=r;obtain⟨y1,y2⟩:=y;have hg:∃σ1 M,eZ (eX mem') R (uO R v)=some (y1,σ1)∧Ae σ1.mem U 0=some (y2,gj 0 U.nr,M)∧(aF (gj 0 U.nr) M).Nodup∧(aF (gj 0 U.nr) (iO 0 U.nb)).Nodup:=by
   dsimp only at h2;split at h2
   ·rename_i y' σ1 hy';split at h2
    ·rename_i u' N M Ie;obtain⟨h3,h4⟩:=ai h2;simp only[bY] at h3;obtain rfl:=EC h3.1.1;cases h4;exact⟨σ1,M,hy',Ie,rX.1 h3.1.2,rX.1 h3.2⟩
    ·cases h2
   ·cases h2
  obtain⟨σ1,M1,NH,OV,hd1,hd0⟩:=hg;have hlen:=CN.len;have hNb:dP ⟨I,vW (gj 0 U.nr) (iO 0 U.nb) bs ls⟩ (gj 0 U.nr) bs:=IE hd0 (by rw[vX,hlen.1]);have MO:ig ⟨I,vW (gj 0 U.nr) (iO 0 U.nb) bs ls⟩ (iO 0 U.nb) ls:=ID hd0 (by rw[vY,hlen.2]);have hin:sP (dN U u (gj 0 U.nr) (iO 0 U.nb)) U u (gj 0 U.nr) (iO 0 U.nb):=At vX vY hd0 fun c bx IF=>IF;have B4:∀{c bx},dN U u (gj 0 U.nr) (iO 0 U.nb) c=some bx→_:=fun {c bx} IF=>xT (γ:=⟨I,vW (gj 0 U.nr) (iO 0 U.nb) bs ls⟩) CN hNb MO hin IF;have hm:aG ⟨w.heap.size,(·∈aY bs ls),G⟩ ⟨I,vW (gj 0 U.nr) (iO 0 U.nb) bs ls⟩ (dN U u (gj 0 U.nr) (iO 0 U.nb)) w :=
   { bX:=fun b Q g=>by
      obtain⟨o,h1,h2⟩:=hG b Q g;refine⟨fun hb=>?_,o,h1,h2⟩;have:=(Array.getElem?_eq_some_iff.1 h1).1;rcases hb with hb|hb
      ·exact absurd this (by have hb':w.heap.size≤b:=hb;omega)
      ·exact Mb b Q g hb
     base:=dB _
     boxes:=fun b bx hb=>(B4 hb).1
     inj:=fun b c blk k k' hb IF e1 e2=>by
      obtain⟨bx,gW⟩:=Option.ne_none_iff_exists'.1 hb;obtain⟨Ns,zN⟩:=Option.ne_none_iff_exists'.1 IF;exact GQ hNb MO hnd (gN gW) (gN zN) e1 e2
     fresh:=fun b blk k hb e1=>by
      obtain⟨bx,gW⟩:=Option.ne_none_iff_exists'.1 hb;obtain⟨_,_,g⟩:=B4 gW;obtain⟨g1,⟨z,g2⟩,_⟩:=g blk k e1;exact⟨.inr g1,(Array.getElem?_eq_some_iff.1 g2).1⟩
     kO:=hI
     sep:=fun b bx blk k off hb e1 hi=>by
      obtain⟨_,_,g⟩:=B4 hb;exact absurd hi ((g blk k e1).2.2 off) }
  have uY:=Dt (γ:=⟨I,vW (gj 0 U.nr) (iO 0 U.nb) bs ls⟩) CN hNb MO hin;obtain⟨hv,hchain⟩:=CI (γ:=⟨I,vW (gj 0 U.nr) (iO 0 U.nb) bs ls⟩) hargs uY;rw[hchain] at uY;obtain⟨_,vi⟩:=s6 qV hc dy CG n 0 f ⟨w.heap.size,(·∈aY bs ls),G⟩ ⟨I,vW (gj 0 U.nr) (iO 0 U.nb) bs ls⟩ (dN U u (gj 0 U.nr) (iO 0 U.nb)) mem' w (qp ps U A x 0) args v rfl hm hv h1;refine vi.mono fun e w' hw=>?_;obtain⟨val,γ',rfl,m1,x1,r1⟩:=hw;obtain⟨xs,u1,u2⟩:=CM (R:=R) r1;have MP:bE ⟨w.heap.size,(·∈aY bs ls),G⟩ 0 γ' (eX mem') { tmps:=#[],defers:=[] } w' :=
   { slots:=fun t=>⟨_,rfl⟩
     size:=rfl
     defers:=rfl
     ok:=m1 }
  obtain⟨oY,s1,s2,s3⟩:=ja MP u1 NH;have xx:=x1.trans s2;obtain⟨bs',k1,k2,k3⟩:=xU s1.ok (uY.ext xx) (CJ OV);have OW:bs'=bs:=by
   unfold dP at k1 hNb;have:(gj 0 U.nr).map (fun p=>(oY.loc p.1).map (·.1))=(gj 0 U.nr).map (fun p=>(vW (gj 0 U.nr) (iO 0 U.nb) bs ls p.1).map (·.1)):=by
    refine BB fun p hp=>?_;obtain⟨dQ,j1,j2,_⟩:=k3 p (rB _ hp);obtain⟨bF,gW⟩:=rZ (u:=u) (vX (k:=0) (n:=U.nr)) (vY (k:=0) (n:=U.nb)) (rB _ (List.mem_map.2 ⟨p,hp,rfl⟩));obtain⟨kZ,q1,q2,q3⟩:=xx.boxes _ bF gW;rw[j1] at q1;obtain rfl:=au q1;have PF:p.2=0:=ED hp;rw[(q3 (by omega)).1]
   rw[this,hNb] at k1;exact(zy k1).symm
  subst OW;refine⟨val,oY.I,_,rfl,xx.below,xx.I,s1.ok.kO,fun b o hi hn=>(xx.kP b o hi).resolve_left hn,u2 _ _ s3,k2,sQ s1.ok k1 k3 hd1,fun blk hb=>?_⟩;obtain⟨b,k,⟨bx,j1⟩,j2⟩:=xW k1 k3 (blk:=blk) (by unfold aY at hb⊢;exact qc _ (by simpa using hb));rcases(s1.ok.fresh b blk k (by rw[j1];simp) j2).1 with q|q
  ·exact .inr q
  ·exact .inl q
end
end Go.Ge
namespace Go.Ge
open RowKit ChangeShapes
def xy{α:Type}(f:α→Nat):List α→Nat
 | []=>0
 | x::r=>f x+xy f r
def Ty.bulk:(t:Ty)→t.den→Nat
 | .int _,_=>1
 | .bool,_=>1
 | .str,s=>List.length (α:=UInt8) s+1
 | .slice e,l=>xy e.bulk l+1
 | .arr _ e,l=>xy e.bulk l
 | .pair a b,x=>a.bulk x.1+b.bulk x.2
 | .unit,_=>0
 | .alt _ _ _,_=>0
 | .oN,_=>0
def Ty.pe:Ty→Bool
 | .slice e=>e.pe
 | .arr _ e=>e.pe
 | .pair a b=>a.pe&&b.pe
 | .alt _ _ _=>false
 | .oN=>false
 | _=>true
structure vZ {H:Type} (bulk:DataW H→Nat) (all:List (DataW H)→Nat):Prop where
 lit:∀l,1≤bulk (.lit l)
 str:∀s,bulk (.lit (.string s))=s.length+1
 nil:1≤bulk .nil
 slice:∀e s,bulk (.slice e s)=all e+all s+1
 agg:∀p,bulk (.agg p)=all p+1
 none:all []=0
 cons:∀d r,all (d::r)=bulk d+all r
theorem oH{α β:Type}{f:α→Option β}:∀{l:List α} {ys:List β},l.mapM f=some ys→ys.length=l.length∧∀(i:Nat) x,l[i]?=some x→f x=ys[i]?:=by
 intro l;induction l with
 | nil=>intro ys h;obtain rfl:=au (show some []=some ys by simpa using h);exact⟨rfl,fun i x hx=>by cases hx⟩
 | cons a l ih =>
   intro ys h;rw[Dh] at h;obtain⟨y,h1,h2⟩:=Option.bind_eq_some_iff.1 h;obtain⟨zs,h3,h4⟩:=Option.bind_eq_some_iff.1 h2;obtain rfl:y::zs=ys:=au h4;obtain⟨k1,k2⟩:=ih h3;refine⟨by simp[k1],fun i x hx=>?_⟩;cases i with
   | zero=>obtain rfl:=au hx;exact h1
   | succ i=>exact k2 i x (by simpa using hx)
theorem s7{α β:Type}{R:Nat→α→β→Prop}:∀{ys:List β} {k:Nat},(∀i y,ys[i]?=some y→∃x,R (k+i) x y)→∃xs:List α,xs.length=ys.length∧∀i x y,xs[i]?=some x→ys[i]?=some y→R (k+i) x y:=by
 intro ys;induction ys with
 | nil=>intro k _;exact⟨[],rfl,fun i x y h=>by cases h⟩
 | cons y ys ih =>
   intro k h;obtain⟨x,hx⟩:=h 0 y rfl;obtain⟨xs,h1,h2⟩:=ih (k:=k+1) fun i y hy=>by
    have:=h (i+1) y (by simpa using hy)
    rwa [show k+(i+1)=k+1+i by omega] at this
   refine⟨x::xs,by simp[h1],fun i x' y' hx' hy'=>?_⟩;cases i with
   | zero=>obtain rfl:=au hx';obtain rfl:=au hy';exact hx
   | succ i =>
     rw[show k+(i+1)=k+1+i by omega];exact h2 i x' y' (by simpa using hx') (by simpa using hy')
theorem DA{α β:Type}{f:α→Nat}{g:β→Nat}:∀{xs:List α} {ys:List β},xs.length=ys.length→(∀(i:Nat) x y,xs[i]?=some x→ys[i]?=some y→f x≤g y)→xy f xs≤xy g ys:=by
 intro xs;induction xs with
 | nil=>intro ys _ _;exact lO _
 | cons x xs ih =>
   intro ys hl h;cases ys with
   | nil=>cases hl
   | cons y ys =>
     have h1:=h 0 x y rfl rfl;have h2:=ih (ys:=ys) (by simpa using hl) fun i x y hx hy=>h (i+1) x y (by simpa using hx) (by simpa using hy);simp only[xy];omega
section
variable {H:Type} {enc:TypeId×Value→H} {P:Program} {w:World} {held:Bool} {bulk:DataW H→Nat} {all:List (DataW H)→Nat}
theorem DB(hb:vZ bulk all){β:Type}(f:β→DataW H):∀l:List β,all (l.map f)=xy (fun y=>bulk (f y)) l:=by
 intro l;induction l with
 | nil=>exact hb.none
 | cons y l ih=>rw[jH,hb.cons,ih];rfl
def old(w:World):Nat→Nat→Prop:=fun b _=>b<w.heap.size
theorem s9{a:Addr}{n:Nat}{cs:List Value}(h:w.cells? 0 a n=some cs):cs.length=n∧∀j,j<n→w.cell? (a.add j)=cs[j]?:=by
 unfold World.cells? at h;rw[gd (lO _)] at h;obtain⟨h1,h2⟩:=oH h;refine⟨by simpa using h1,fun j hj=>h2 j j ?_⟩;simp[hj]
theorem Bc{b o:Nat}{v:Value}{sp:Option Nat}(h:w.cell? ⟨b,o,sp⟩=some v):b<w.heap.size∧sp=none:=by
 unfold World.cell? at h;split at h
 ·rename_i c t f hg;refine⟨(Array.getElem?_eq_some_iff.1 hg).1,?_⟩;split at h
  ·cases h
  ·rename_i hs;cases sp with
   | none=>rfl
   | some s=>exact absurd rfl hs
 ·cases h
theorem GR(hb:vZ bulk all):∀{t:Ty},t.pe=true →
  (∀{fuel tid:Nat} {cs:List Value} {d:DataW H} {ps:List MemPlace},Den P t tid→DataW.trod enc P w 0 (fun _=>true) held fuel tid cs=some (d,ps)→∃x:t.den,aM w (old w) t x cs∧t.bulk x≤bulk d) ∧
  (∀{fuel off:Nat} {fs:List Field} {cs:List Value} {xs:List (DataW H×List MemPlace)},gV P t off fs→(fs.mapM fun f=>DataW.trod enc P w 0 (fun _=>true) held fuel f.type ((cs.drop f.offset).take (P.cellsOf f.type)))=some xs →
   cs.length=off+t.size→∃x:t.den,aM w (old w) t x (cs.drop off)∧t.bulk x≤all (xs.map (·.1))):=by
 intro t;induction t with
 | int k =>
   intro hna;refine⟨fun {fuel tid cs d ps} hd h=>?_,fun hd=>by simp[gV,cP] at hd⟩;cases fuel with
   | zero=>cases h
   | succ fuel =>
     simp only[DataW.trod,hd.int] at h;split at h<;>first|(exfalso;simp_all;done)|skip
     rename_i k0 k' n hk;split at h
     ·rename_i hc;obtain⟨rfl,rfl⟩:=bM (au h);injection hk with hk;injection hk with hk;subst hk
      obtain⟨rfl,hwf⟩:=hc;simp only[Lit.wf,bY,wG] at hwf;exact⟨(n:Int),⟨rfl,hwf.1,hwf.2⟩,hb.lit _⟩
     ·cases h
 | bool =>
   intro hna;refine⟨fun {fuel tid cs d ps} hd h=>?_,fun hd=>by simp[gV,cP] at hd⟩;cases fuel with
   | zero=>cases h
   | succ fuel =>
     simp only[DataW.trod,hd.bool] at h;split at h<;>first|(exfalso;simp_all;done)|skip
     rename_i b _;obtain⟨rfl,rfl⟩:=bM (au h);exact⟨b,rfl,hb.lit _⟩
 | str =>
   intro hna;refine⟨fun {fuel tid cs d ps} hd h=>?_,fun hd=>by simp[gV,cP] at hd⟩;cases fuel with
   | zero=>cases h
   | succ fuel =>
     simp only[DataW.trod,hd.str] at h;split at h<;>first|(exfalso;simp_all;done)|skip
     rename_i s _;split at h
     ·rename_i hs;obtain⟨rfl,rfl⟩:=bM (au h);refine⟨s.data.toList,⟨?_,?_⟩,?_⟩
      ·rfl
      ·have:List.length (α:=UInt8) s.data.toList=s.size:=Fh;rw[this];exact hs
      ·rw[hb.str];exact dB _
     ·cases h
 | slice e ih =>
   intro hna;have ih:=ih hna;refine⟨fun {fuel tid cs d ps} hd h=>?_,fun hd=>by simp[gV,cP] at hd⟩;obtain⟨bN,h1,h2,h3,h4⟩:=hd.slice;cases fuel with
   | zero=>cases h
   | succ fuel =>
     simp only[DataW.trod,h1] at h;split at h<;>first|(exfalso;simp_all;done)|skip
     ·obtain⟨rfl,rfl⟩:=bM (au h);exact⟨([]:List e.den),.inl ⟨⟨none,rfl⟩,rfl⟩,hb.nil⟩
     ·rename_i e' a len cap he;injection he with he;injection he with he;subst he
      split at h
      case isFalse=>cases h
      rename_i hc;obtain⟨PG,MM,L5⟩:=hc;obtain⟨elems,g1,g2⟩:=Option.bind_eq_some_iff.1 h;obtain⟨rest,g3,g4⟩:=Option.map_eq_some_iff.1 g2;obtain⟨rfl,rfl⟩:=bM g4;simp only[iE] at g3;obtain⟨k1,k2⟩:=oH g1;obtain⟨m1,m2⟩:=oH g3;simp only[List.length_range] at k1 m1;rw[h2.cells] at k2 m2;by_cases hcap:cap=0
      ·subst hcap;obtain rfl:len=0:=by omega
       exact⟨([]:List e.den),.inl ⟨⟨some a,rfl⟩,rfl⟩,by rw[hb.slice];simp[Ty.bulk,xy]⟩
      ·
       have ew:∃y,(w.cells? 0 a e.size).bind (DataW.trod enc P w 0 (fun _=>true) held fuel bN)=some y:=by
        by_cases hlen:len=0
        ·have:=m2 0 0 (HP (by omega));have hlt:0<rest.length:=by omega
         rw[sC hlt] at this;rw[hlen] at this;simp only[lu,zV] at this;exact⟨_,by rw[←this];simp[Addr.add]⟩
        ·have:=k2 0 0 (HP (by omega));have hlt:0<elems.length:=by omega
         rw[sC hlt] at this;simp only[zV] at this;exact⟨_,by rw[←this];simp[Addr.add]⟩
       obtain⟨y,hy⟩:=ew;obtain⟨es,HI,_⟩:=Option.bind_eq_some_iff.1 hy;obtain⟨z1,z2⟩:=s9 HI;have z3:=z2 0 h4;rw[sC (by omega)] at z3;have GS:a.spot=none:=by
        have:a.add 0=a:=by simp[Addr.add]
        rw[this] at z3;obtain⟨blk,off,sp⟩:=a;exact(Bc z3).2
       obtain⟨blk,off,sp⟩:=a;dsimp only at GS;subst GS;obtain⟨xs,x1,x2⟩:=s7 (R:=fun i (x:e.den) (y:DataW H×List MemPlace)=>(∃es:List Value,es.length=e.size ∧
         (∀(j:Nat) v,es[j]?=some v→w.cell? ⟨blk,off+i*e.size+j,none⟩=some v∧old w blk (off+i*e.size+j))∧aM w (old w) e x es)∧e.bulk x≤bulk y.1) (ys:=elems) (k:=0) fun i y hi=>by
        have hlt:=(List.getElem?_eq_some_iff.1 hi).1;have:=k2 i i (HP (by omega));rw[hi] at this;obtain⟨es,q1,q2⟩:=Option.bind_eq_some_iff.1 this;rw[addr_add] at q1;obtain⟨q3,q4⟩:=s9 q1;obtain⟨x,r1,r2⟩:=ih.1 (d:=y.1) (ps:=y.2) h2 q2;refine⟨x,⟨es,q3,fun j v hv=>?_,r1⟩,r2⟩;have hj:=(List.getElem?_eq_some_iff.1 hv).1;have:=q4 j (by omega);rw[addr_add,hv] at this;rw[lu];exact⟨this,(Bc this).1⟩
       refine⟨xs,.inr ⟨blk,off,cap,?_,?_,L5,fun i x hx=>?_⟩,?_⟩
       ·show [Value.slice _ len cap]=[Value.slice _ (List.length (α:=e.den) xs) cap]
        rw[x1,k1]
       ·show List.length (α:=e.den) xs≤cap
        rw[x1,k1];exact MM
       ·have hx':xs[i]?=some x:=hx;have hlt:=(List.getElem?_eq_some_iff.1 hx').1;obtain⟨y,hy⟩:∃y,elems[i]?=some y:=⟨_,sC (by omega)⟩;have:=(x2 i x y hx' hy).1;rw[lu] at this;exact this
       ·rw[hb.slice,DB hb];have:=DA (f:=e.bulk) (g:=fun y:DataW H×List MemPlace=>bulk y.1) x1 fun i x y hx hy=>(x2 i x y hx hy).2;show xy e.bulk xs+1≤_
        omega
 | arr n e ih =>
   intro hna;have ih:=ih hna;refine⟨fun {fuel tid cs d ps} hd h=>?_,fun hd=>by simp[gV,cP] at hd⟩;obtain⟨bN,h1,h2,h4⟩:=hd.arr;cases fuel with
   | zero=>cases h
   | succ fuel =>
     simp only[DataW.trod,h1] at h;split at h
     case isFalse=>cases h
     rename_i hc;obtain⟨ys,g1,g2⟩:=Option.map_eq_some_iff.1 h;obtain⟨rfl,rfl⟩:=bM g2;obtain⟨k1,k2⟩:=oH g1;simp only[List.length_range] at k1;rw[h2.cells] at k2;obtain⟨xs,x1,x2⟩:=s7 (R:=fun i (x:e.den) (y:DataW H×List MemPlace)=>aM w (old w) e x ((cs.drop (i*e.size)).take e.size)∧e.bulk x≤bulk y.1) (ys:=ys) (k:=0) fun i y hi=>by
      have hlt:=(List.getElem?_eq_some_iff.1 hi).1;have:=k2 i i (HP (by omega));rw[hi] at this;obtain⟨x,r1,r2⟩:=ih.1 (d:=y.1) (ps:=y.2) h2 this;exact⟨x,by rw[lu];exact r1,r2⟩
     refine⟨xs,⟨?_,?_,fun i x hx=>?_⟩,?_⟩
     ·show List.length (α:=e.den) xs=n
      rw[x1,k1]
     ·rw[hc,hd.cells];rfl
     ·have hx':xs[i]?=some x:=hx;have hlt:=(List.getElem?_eq_some_iff.1 hx').1;obtain⟨y,hy⟩:∃y,ys[i]?=some y:=⟨_,sC (by omega)⟩;have:=(x2 i x y hx' hy).1;rw[lu] at this;exact this
     ·rw[hb.agg,DB hb];have:=DA (f:=e.bulk) (g:=fun y:DataW H×List MemPlace=>bulk y.1) x1 fun i x y hx hy=>(x2 i x y hx hy).2;show xy e.bulk xs≤_
      omega
 | pair a b eH fF =>
   intro hna;simp only[Ty.pe,bY] at hna;have eH:=eH hna.1;have fF:=fF hna.2;have chain:∀{fuel off:Nat} {fs:List Field} {cs:List Value} {xs:List (DataW H×List MemPlace)},gV P (.pair a b) off fs→(fs.mapM fun f=>DataW.trod enc P w 0 (fun _=>true) held fuel f.type ((cs.drop f.offset).take (P.cellsOf f.type)))=some xs →
     cs.length=off+(Ty.pair a b).size→∃x:(Ty.pair a b).den,aM w (old w) (.pair a b) x (cs.drop off)∧(Ty.pair a b).bulk x≤all (xs.map (·.1)):=by
    intro fuel off fs cs xs hd h hl;obtain⟨f,r,rfl,f1,_,f2,f3,f4⟩:=hd.cons;rw[Dh] at h;obtain⟨y,g1,g2⟩:=Option.bind_eq_some_iff.1 h;obtain⟨ys,g3,g4⟩:=Option.bind_eq_some_iff.1 g2;obtain rfl:y::ys=xs:=au g4;rw[f1,f2.cells] at g1;obtain⟨x1,p1,p2⟩:=eH.1 (d:=y.1) (ps:=y.2) f2 g1;obtain⟨x2,q1,q2⟩:=fF.2 f4 g3 (by simp only[Ty.size] at hl;omega);refine⟨(x1,x2),⟨_,_,?_,p1,q1⟩,?_⟩
    ·rw[←mD,wE]
    ·rw[jH,hb.cons];show a.bulk x1+b.bulk x2≤_
     omega
   refine⟨fun {fuel tid cs d ps} hd h=>?_,chain⟩;obtain⟨fs,h1,h2,_⟩:=hd.pair;cases fuel with
   | zero=>cases h
   | succ fuel =>
     simp only[DataW.trod,h1] at h;split at h
     case isFalse=>cases h
     rename_i hc;obtain⟨ys,g1,g2⟩:=Option.map_eq_some_iff.1 h;obtain⟨rfl,rfl⟩:=bM g2;rw[hd.cells] at hc;obtain⟨x,r1,r2⟩:=chain h2 g1 (by rw[hc,lu]);exact⟨x,by simpa using r1,by rw[hb.agg];omega⟩
 | alt u a r eH ihr=>intro hna;cases hna
 | oN=>intro hna;cases hna
 | unit =>
   intro hna;refine⟨fun hd=>by simp[Den,cP] at hd,fun {fuel off fs cs xs} hd h hl=>?_⟩;exact⟨(),by show cs.drop off=[];rw[List.drop_eq_nil_iff];simp[Ty.size] at hl;omega,lO _⟩
end
end Go.Ge
namespace Go.Ge
open RowKit ChangeShapes WideShapes
def CO(P:Program):Ty→List TypeId→Prop
 | .pair t r,tid::ts=>Den P t tid∧CO P r ts
 | .unit,[]=>True
 | _,_=>False
section
variable {H:Type} {enc:TypeId×Value→H} {P:Program} {w:World} {held:Bool} {bulk:DataW H→Nat} {all:List (DataW H)→Nat}
theorem Bd{t:Ty}{tid base:Nat}{v:Value}{x:t.den}(hna:t.pe=true)(hd:Den P t tid)(hv:Value.okWide P w .any base tid v)(hr:aM w (old w) t x v.cells.toList):v=bk t v.cells.toList:=by
 cases t with
 | int k=>obtain⟨n,rfl⟩:=okWide_int hd.int hv;rfl
 | bool=>obtain⟨b,rfl⟩:=okWide_bool hd.bool hv;rfl
 | str=>obtain⟨s,rfl⟩:=okWide_string hd.str hv;rfl
 | slice e=>obtain⟨bN,h1,_⟩:=hd.slice;obtain⟨a,len,cap,rfl⟩:=okWide_slice h1 hv;rfl
 | pair a b=>obtain⟨fs,h1,_⟩:=hd.pair;obtain⟨cs,rfl,_⟩:=okWide_struct h1 hv;simp[bk,Ty.isAgg,Value.cells]
 | arr n e =>
   obtain⟨bN,h1,_⟩:=hd.arr;unfold Value.okWide at hv;rw[h1] at hv;obtain⟨cs,rfl,_⟩:=hv;simp[bk,Ty.isAgg,Value.cells]
 | unit=>simp[Den,cP] at hd
 | alt u a r=>cases hna
 | oN=>cases hna
theorem GU(hb:vZ bulk all){base:Nat}:∀{A:Ty} {ts:List TypeId} {vs:List Value} {ds:List (DataW H)} {ps:List MemPlace},A.pe=true→CO P A ts→DataW.TrodAll enc P w 0 (fun _=>true) held ts vs ds ps →
  (∀(j:Nat) t v,ts[j]?=some t→vs[j]?=some v→Value.okWide P w .any base t v)→∃x:A.den,dL w (old w) A x vs∧A.bulk x≤all ds:=by
 intro A;induction A with
 | pair t r BH ihr =>
   intro ts vs ds ps hna hd h hval;simp only[Ty.pe,bY] at hna;cases ts with
   | nil=>exact hd.elim
   | cons tid ts =>
     obtain⟨h1,h2⟩:=hd;obtain⟨v,vs',d,ds',p,q,rfl,rfl,rfl,⟨fuel,hf⟩,hs⟩:=trodAll_cons h;obtain⟨x,r1,r2⟩:=(GR hb hna.1).1 h1 hf;obtain⟨y,s1,s2⟩:=ihr hna.2 h2 hs fun j t v hj hv=>hval (j+1) t v (by simpa using hj) (by simpa using hv);refine⟨(x,y),⟨v.cells.toList,vs',?_,r1,s1⟩,?_⟩
     ·rw[←Bd hna.1 h1 (hval 0 tid v rfl rfl) r1]
     ·rw[hb.cons];show t.bulk x+r.bulk y≤_
      omega
 | unit =>
   intro ts vs ds ps hna hd h hval;cases ts with
   | nil =>
     obtain⟨rfl,rfl,rfl⟩:=trodAll_nil h;exact⟨(),rfl,lO _⟩
   | cons tid ts=>exact hd.elim
 | _=>intro ts vs ds ps hna hd;exact hd.elim
theorem xz(hl:laidOutB P=true){W W':World}{sp:Nat→Bool}:∀{ts:List TypeId} {vs:List Value} {ds:List (DataW H)} {ps:List MemPlace},(∀t∈ts,P.readableRec t=true∧t<P.types.size) →
  DataW.TrodAll enc P W 0 (fun _=>true) true ts vs ds ps→(∀p∈ps,W.sameAt W' p)→(∀p∈ps,sp p.block=true)→DataW.TrodAll enc P W' 0 sp true ts vs ds ps:=by
 intro ts;induction ts with
 | nil=>intro vs ds ps _ h _ _;obtain⟨rfl,rfl,rfl⟩:=trodAll_nil h;rfl
 | cons t ts ih =>
   intro vs ds ps hr h hsame hsp;obtain⟨v,vs',d,ds',p,q,rfl,rfl,rfl,h1,h2⟩:=trodAll_cons h;refine⟨p,q,WideElems.Trod_stays hl (hr t (jU ..)).1 (hr t (jU ..)).2 h1 (fun x hx=>hsame x (rB _ hx)) (fun x hx=>hsp x (rB _ hx)),?_,rfl⟩;exact ih (fun t ht=>hr t (jT _ ht)) h2 (fun x hx=>hsame x (qc _ hx)) (fun x hx=>hsp x (qc _ hx))
def Ty.ok:(t:Ty)→t.den→Prop
 | .int k,n=>k.min≤(show Int from n)∧(show Int from n)≤k.max
 | .bool,_=>True
 | .str,s=>List.length (α:=UInt8) s≤maxLen
 | .slice e,l=>∀(i:Nat) (x:e.den),(show List e.den from l)[i]?=some x→e.ok x
 | .arr n e,l=>List.length (α:=e.den) l=n∧∀(i:Nat) (x:e.den),(show List e.den from l)[i]?=some x→e.ok x
 | .pair a b,x=>a.ok x.1∧b.ok x.2
 | .unit,_=>True
 | .alt _ _ _,_=>True
 | .oN,_=>True
theorem aM.ok{I:Nat→Nat→Prop}:∀{t:Ty} {x:t.den} {cs:List Value},aM w I t x cs→t.ok x:=by
 intro t;induction t with
 | int k=>intro x cs h;exact h.2
 | bool=>intro x cs h;trivial
 | str=>intro x cs h;exact h.2
 | slice e ih =>
   intro x cs h i y hy;rcases h with ⟨_,h⟩|⟨blk,off,cap,h1,h2,h3,h4⟩
   ·rw[show(show List e.den from x)=[] from h] at hy;cases hy
   ·obtain⟨es,_,_,hr⟩:=h4 i y hy;exact ih hr
 | arr n e ih=>intro x cs h;exact⟨h.1,fun i y hy=>ih (h.2.2 i y hy)⟩
 | pair a b eH fF=>intro x cs h;obtain⟨c1,c2,_,h1,h2⟩:=h;exact⟨eH h1,fF h2⟩
 | unit=>intro x cs h;trivial
 | alt u a r=>intro x cs h;trivial
 | oN=>intro x cs h;trivial
theorem dL.ok{I:Nat→Nat→Prop}:∀{A:Ty} {x:A.den} {xs:List Value},dL w I A x xs→A.ok x:=by
 intro A;induction A with
 | pair t r BH ihr=>intro x xs h;obtain⟨cs,rest,_,h1,h2⟩:=h;exact⟨h1.ok,ihr h2⟩
 | unit=>intro x xs h;trivial
 | _=>intro x xs h;exact h.elim
theorem EE(hb:vZ bulk all)(hl:laidOutB P=true){fid tb:Nat}{fn:Func}{s:ChangeSpec}{A:Ty}{spec:A.den→Option (Ty.pair .bool .unit).den}{apart fresh handsOn:Bool}
  (Io:CO P A fn.params.toList) (Lx:∀t∈fn.params.toList,P.readableRec t=true∧t<P.types.size) (hres:fn.resultTypes=#[tb]) (htb:P.underlying tb=some .bool) (hsv:s.vars=[])
  (hs:∀ds:List (DataW H),ds.length=fn.params.toList.length→s.fn H ds={ results:=[.lit (.bool true)],args:=ds }) {G:eN} (hh:Holds P G fid ⟨A,.pair .bool .unit,spec⟩)
  {W:World} (hG:pN G W) {base:Nat} {args:Array Value} {ds gs:List (DataW H)} {before:List MemPlace} (hval:∀(j:Nat) t v,fn.params[j]?=some t→args[j]?=some v→Value.okWide P W .any base t v)
  (hW:DataW.Whole enc P fn.params.toList s.vars apart W args.toList ds gs before) (dW:∀x:A.den,A.ok x→A.bulk x≤all (ds++gs)→spec x=some (true,())) (hna:A.pe=true:=by rfl) :
  Calls P fid args W fun e W'=>∃v,e=.returned v∧s.post enc P fn apart fresh handsOn false W args v W':=by
 have hlt:=hW.lt;have NO:=hW;obtain⟨p,q,hA,hV,rfl,hfz,hnd⟩:=hW;rw[hsv] at hV;obtain⟨rfl,rfl⟩:=trodVars_none hV;simp only[wI] at NO hlt dW;obtain⟨x,x1,x2⟩:=GU hb (base:=base) hna Io hA fun j t v hj hv=>hval j t v (by simpa using hj) (by simpa using hv);have hlen:∀{ts:List TypeId} {vs:List Value} {ds:List (DataW H)} {ps:List MemPlace},DataW.TrodAll enc P W 0 (fun _=>true) true ts vs ds ps→ds.length=ts.length:=by
  intro ts;induction ts with
  | nil=>intro vs ds ps h;obtain⟨_,rfl,_⟩:=trodAll_nil h;rfl
  | cons t ts ih=>intro vs ds ps h;obtain⟨v,vs',d,ds',p,q,rfl,rfl,rfl,h1,h2⟩:=trodAll_cons h;simp[ih h2]
 have hfn:=hs ds (hlen hA);refine(hh.calls (old W) W args x (true,()) (fun b o h=>h) hG x1 (dW x x1.ok x2)).mono fun e W' hw=>?_;obtain⟨v,I',rfl,b1,_,_,_,hr⟩:=hw;obtain⟨cs,rfl,hv⟩:=hr;obtain rfl:v=.bool true:=by simpa [bk,Ty.isAgg] using hv
 refine⟨_,rfl,ds,[],p,[],p,[],NO,?_,?_,?_,b1.frame _,fun h=>by cases h⟩
 ·rw[wI,hfn,hres];exact trodAll_mk1 (shut_bool htb true)
 ·rw[wI,hfn];exact xz hl Lx hA (fun x hx=>b1.same (hlt x hx)) (fun x hx=>by simpa using hlt x hx)
 ·rw[wI,hfn,hsv];rfl
end
end Go.Ge
