/- A ghost interpreter of the model's code, and that it tells the truth: part 8. It says of a function of plain data what a call of it comes to. -/
import Derived.Test.YtdpbdiikloedbaaGreatDoorGeG
import Derived.Laws.Sem
import Derived.ProofKit
import Derived.Lib.LazyBuf
import Derived.Lib.Bytealg
import Derived.WalkKit
set_option linter.unusedSectionVars false
set_option linter.unusedVariables false
set_option linter.unusedSimpArgs false
noncomputable section
namespace Go.Ge
variable [Lp]
open RowKit
section
variable {P:Program} {B:qq} {N:Nat} {cx:Ctx} {nb:Nat} {bf:List Nat} {inl:Nat→List aO→St→Tree (aO×St)}
theorem Fv(k:Carry)(σ:St):(k.lock σ).mem=ux (fun b bx=>bif ya k.M b then bx.lk else true) σ.mem:=by
 funext b;simp only[Carry.lock,ux];cases σ.mem b with
 | none=>rfl
 | some bx=>simp only;cases ya k.M b<;>rfl
theorem acy(k:Carry)(σ:St):k.lock σ={ σ with mem:=ux (fun b bx=>bif ya k.M b then bx.lk else true) σ.mem }:=by
 have:=Fv k σ;unfold Carry.lock at this⊢;dsimp only at this⊢;rw[this]
theorem Hv{T β:Type}{t:Tree T}{k:T→Tree β}{y:β}(h:(t.join k).run=some y):∃x,t.run=some x∧(k x).run=some y:=by
 rw[Tree.A5] at h;exact Option.bind_eq_some_iff.1 h
theorem Ml{α:Type}{o:Option α}{y:α}(h:(Tree.Zs o).run=some y):o=some y:=by
 cases o with
 | none=>cases h
 | some x=>exact h
theorem aai{e0 e i:Nat}(h:JD [e0] e=some i):e=e0:=by
 simp only[JD] at h;cases hb:Nat.beq e0 e with
 | true=>exact(fu hb).symm
 | false=>rw[hb] at h;cases h
theorem cF.WC{γ:Gh}{σ:St}{a:Act}{w:World}(h:cF B N γ σ a w){i:Nat}{v:aO}(hv:b6 γ σ.mem w v .val [a.tmps.getD i Go.undef]):cF B N γ (σ.put i v) a w where
 slots:=fun t=>by
  show b6 γ σ.mem w (bif Nat.beq t i then v else σ.slots t) .val _
  cases hb:Nat.beq t i with
  | true=>obtain rfl:=fu hb;exact hv
  | false=>exact h.slots t
 size:=h.size
 defers:=h.defers
 ok:=h.ok
theorem Qt{a:Act}{w:World}:∀{l:List (Nat×Sh)} {σ σ':St} {γ:Gh},settle l σ=some σ'→cF B N γ σ a w→∃γ',cF B N γ' σ' a w∧Ext B γ σ.mem w γ' σ'.mem w∧aY σ σ':=by
 intro l;induction l with
 | nil=>intro σ σ' γ h hs;obtain rfl:=aG h;exact⟨γ,hs,Ext.refl _ _ _ _,aY.refl _⟩
 | cons p r ih =>
   obtain⟨i,s⟩:=p;intro σ σ' γ h hs;cases s with
   | d t =>
     simp only[settle] at h;split at h
     ·rename_i x σ1 hg;obtain⟨ij,s1,s2,s4⟩:=lN hs (hs.slots i) hg;have s3:cF B N ij (σ1.put i (.data t x)) a w:=s1.WC s4;obtain⟨Hi,t1,t2,t3⟩:=ih h s3;exact⟨Hi,t1,s2.trans t2,(oL hg).trans t3⟩
     ·cases h
   | k v=>exact ih h hs
   | m a b=>exact ih h hs
theorem Fw{k:Carry}{fz:Bool}{wr:List Nat}{x:k.ty.den}{jA oM:St}{Vj γ:Gh}{a a0:Act}{w w0:World}(hk:Cx k jA)(h0:cF B N Vj jA a0 w0)(he:cF B N γ oM a w)(hx:Ext B Vj jA.mem w0 γ oM.mem w)
  (hf:∀t,cC wr t=false→a.tmps[t]?=a0.tmps[t]?) (hkeep:∀b bx,jA.mem b=some bx→ya k.M b=false→oM.mem b=some { bx with lk:=true }) (ho:k.Lm fz jA oM=some x) :
  ∃γ',cF B N γ' (k.qO fz false wr jA x) a w∧Ext B Vj jA.mem w0 γ' (k.qO fz false wr jA x).mem w:=by
 unfold Carry.Lm at ho;cases fz with
 | false=>exact⟨γ,sx hk h0 he hx hf (fun b bx hb hin=>⟨true,hkeep b bx hb hin⟩) ho⟩
 | true =>
   simp only[fy] at ho;split at ho
   ·rename_i σ1 hs;obtain⟨ij,s1,x1,k1⟩:=Qt hs he;exact⟨ij,sx hk h0 s1 (hx.trans x1) hf (fun b bx hb hin=>⟨true,k1 b _ (hkeep b bx hb hin) rfl⟩) ho⟩
   ·cases ho
def roundOf(cx:Ctx)(nb:Nat)(bf:List Nat)(inl:Nat→List aO→St→Tree (aO×St))(k:Carry)(fz:Bool)(σ:St)(c:Code)(pl:List (Option R5))(x:k.ty.den):Option (k.ty.den⊕(Nat×k.ty.den)) :=
 ((ic cx nb bf inl c pl (k.qO false true (writes c) σ x)).bind fun r=>bif Nat.beq r.1 0 then(match k.out false σ r.2 with
   | some y=>.ret (.inl y)
   | none=>.fail)
  else match JD (tM c) r.1,k.Lm fz σ r.2 with
   | some i,some y=>.ret (.inr (i,y))
   | _,_=>.fail).run
theorem Pc{c:Code}{k:Carry}{fz:Bool}{σ:St}{γ:Gh}{a:Act}{w:World}{Q:Exit→Act→World→Prop}{R:Type}(hk:Cx k σ)(h:cF B N γ σ a w){x0:k.ty.den}(hx0:k.out false σ σ=some x0)
  (f:k.ty.den→Option (k.ty.den⊕R)) (Out:R→Nat→k.ty.den→Prop) {z:R} (hL:Loop f x0=some z)
  (hf:∀x r,f x=some r→∃e y,(match r with|.inl y'=>e=0∧y'=y|.inr z=>e≠0∧Out z e y) ∧
   ∀ij a1 w1 (Q':Exit→Act→World→Prop),cF B N ij (k.qO false true (writes c) σ x) a1 w1→(∀oM γ' a' w',(bif Nat.beq e 0 then k.out false σ oM else k.Lm fz σ oM)=some y→aY (k.qO false true (writes c) σ x) oM→cF B N γ' oM a' w'→Ext B ij (k.qO false true (writes c) σ x).mem w1 γ' oM.mem w'→Fu (writes c) a1 a'→Q' (Mj e) a' w') →
    c.wp P Q' a1 w1)
  (final:∀e y,e≠0→Out z e y→∀γ' a' w',cF B N γ' (k.qO fz false (writes c) σ y) a' w'→Ext B γ σ.mem w γ' (k.qO fz false (writes c) σ y).mem w'→Fu (writes c) a a'→Q (Mj e) a' w') :
  (Code.loop c).wp P Q a w:=by
 obtain⟨n,hn⟩:=pn hL;refine Hu (fun m a' w'=>∃γ' x,cF B N γ' (k.qO false true (writes c) σ x) a' w'∧Ext B γ σ.mem w γ' (k.qO false true (writes c) σ x).mem w'∧Fu (writes c) a a'∧rounds f m x=some z) (n:=n) ?_ ?_
 ·obtain⟨s,x⟩:=sx (lock:=true) (wr:=writes c) hk h h (Ext.refl _ _ _ _) (fun _ _=>rfl) (fun b bx hb _=>⟨bx.lk,hb⟩) hx0;exact⟨γ,x0,s,x,Fu.refl _ _,hn⟩
 ·intro m a1 w1 hI;obtain⟨ij,x,s1,e1,f1,hr⟩:=hI;cases m with
  | zero=>cases hr
  | succ m =>
    simp only[rounds] at hr;obtain⟨r,hfx,hr2⟩:=Option.bind_eq_some_iff.1 hr;obtain⟨e,y,hm,hwp⟩:=hf x r hfx;refine hwp ij a1 w1 _ s1 fun oM γ' a' w' ho hkp s2 e2 f2=>?_;have hx:=e1.trans e2;have hfr:=f1.trans f2;have hkeep:∀b bx,σ.mem b=some bx→ya k.M b=false→oM.mem b=some { bx with lk:=true }:=fun b bx hb hin=>by
     have:=hkp b _ (SY hb hin) (by simp);simpa using this
    cases r with
    | inl y' =>
      obtain⟨rfl,rfl⟩:=hm;obtain⟨s3,e3⟩:=sx (lock:=true) (wr:=writes c) hk h s2 hx hfr (fun b bx hb hin=>⟨true,hkeep b bx hb hin⟩) ho;exact⟨m,Wl m,γ',y',s3,e3,hfr,hr2⟩
    | inr z' =>
      obtain⟨h0,hO⟩:=hm;obtain rfl:=aG hr2;have hb0:Nat.beq e 0=false:=gK h0;rw[hb0] at ho;obtain⟨γ3,s3,e3⟩:=Fw (wr:=writes c) hk h s2 hx hfr hkeep ho;have:=final e y h0 hO γ3 a' w' s3 e3 hfr
      match e,h0,this with
      | 0,h0,_=>exact absurd rfl h0
      | 1,_,this=>exact this
      | i+2,_,this=>exact this
theorem XP{S:Type}{o:Option (S⊕(Nat×S))}{r:S⊕S}(h:cM o=some r):(∃y,r=.inl y∧o=some (.inl y))∨∃i y,r=.inr y∧o=some (.inr (i,y)):=by
 unfold cM at h;obtain⟨q,h1,h2⟩:=Option.map_eq_some_iff.1 h;cases q with
 | inl y=>exact .inl ⟨y,h2.symm,h1⟩
 | inr p=>exact .inr ⟨p.1,p.2,h2.symm,h1⟩
theorem sy(sw:P.follows .mixedOrders=true)(hc:eW P cx)(dB:oJ P B.G cx)(kX:wk P B.G inl)(hkeep:∀f vals σ v σ',(inl f vals σ).run=some (v,σ')→aY σ σ') :
  ∀(c:Code) {pl:List (Option R5)} {σ:St} {γ:Gh} {a:Act} {w:World} {e:Nat} {σ':St} {Q:Exit→Act→World→Prop},(∀t∈writes c,t<N)→(ic cx nb bf inl c pl σ).run=some (e,σ')→cF B N γ σ a w →
   (∀γ' a' w',cF B N γ' σ' a' w'→Ext B γ σ.mem w γ' σ'.mem w'→Fu (writes c) a a'→Q (Mj e) a' w')→c.wp P Q a w:=by
 intro c;induction c with
 | skip =>
   intro pl σ γ a w e σ' Q hd hr h hK;obtain⟨rfl,rfl⟩:=ec (aG hr);exact wp_skip (hK γ a w h (Ext.refl _ _ _ _) (Fu.refl _ _))
 | label l =>
   intro pl σ γ a w e σ' Q hd hr h hK;obtain⟨rfl,rfl⟩:=ec (aG hr);exact wp_label (hK γ a w h (Ext.refl _ _ _ _) (Fu.refl _ _))
 | ret =>
   intro pl σ γ a w e σ' Q hd hr h hK;obtain⟨rfl,rfl⟩:=ec (aG hr);exact wp_ret (hK γ a w h (Ext.refl _ _ _ _) (Fu.refl _ _))
 | exit i =>
   intro pl σ γ a w e σ' Q hd hr h hK;obtain⟨rfl,rfl⟩:=ec (aG hr);exact wp_exit (hK γ a w h (Ext.refl _ _ _ _) (Fu.refl _ _))
 | region id ops dr =>
   intro pl σ γ a w e σ' Q hd hr h hK;obtain⟨σ1,h1,h2⟩:=bind_some hr;obtain⟨rfl,rfl⟩:=ec (aG h2);have hd':∀o∈ops.toList,∀k,o.dst=some k→k<N:=fun o ho k hk=>hd k (Qs ho hk);have hfr:∀{a a':Act},Fr (number 0 ops.toList) a a'→Fu (writes (.region id ops dr)) a a':=fun hf t ht=>hf t (SX ht);cases dr with
   | true=>exact SS sw hc dB kX hd' h1 h fun γ' a' w' s x f=>hK γ' a' w' s x (hfr f)
   | false=>exact Qe hc dB kX hkeep hd' h1 h fun γ' a' w' s x f=>hK γ' a' w' s x (hfr f)
 | seq x y ihx ihy =>
   intro pl σ γ a w e σ' Q hd hr h hK;obtain⟨r1,h1,h2⟩:=bind_some hr;obtain⟨e1,σ1⟩:=r1;have hdx:∀t∈writes x,t<N:=fun t ht=>hd t (GZ _ ht);have hdy:∀t∈writes y,t<N:=fun t ht=>hd t (K8 _ ht);refine wp_seq (ihx hdx h1 h fun γ' a' w' s1 x1 f1=>?_);cases e1 with
   | zero=>exact ihy hdy h2 s1 fun ab0 a'' w'' s2 x2 f2=>hK ab0 a'' w'' s2 (x1.trans x2) (f1.left.trans f2.right)
   | succ e1 =>
     obtain⟨rfl,rfl⟩:=ec (aG h2);have:=hK γ' a' w' s1 x1 f1.left;cases e1 with
     | zero=>exact this
     | succ i=>exact this
 | block i x ih =>
   intro pl σ γ a w e σ' Q hd hr h hK;obtain⟨r1,h1,h2⟩:=bind_some hr;obtain⟨e1,σ1⟩:=r1;obtain⟨rfl,rfl⟩:=ec (aG h2);refine wp_block (ih hd h1 h fun γ' a' w' s1 x1 f1=>?_);have:=hK γ' a' w' s1 x1 f1
   match e1,this with
   | 0,this=>exact this
   | 1,this=>exact this
   | j+2,this =>
     show Exit.inBlock i Q (.exit j) a' w'
     unfold Exit.inBlock;by_cases e:j=i
     ·subst e;simp only[nk];simpa [Mj] using this
     ·simp only[bH e];have hb:Nat.beq (j+2) (i+2)=false:=gK (by omega);rw[hb] at this;exact this
 | scope x ih =>
   intro pl σ γ a w e σ' Q hd hr h hK;refine wp_scope_straight (ih hd hr h fun γ' a' w' s1 x1 f1=>?_);have:=hK γ' a' w' s1 x1 f1
   match e,this with
   | 0,this=>exact this
   | 1,this=>exact this
   | j+2,this=>exact this
 | cond o x y ihx ihy =>
   intro pl σ γ a w e σ' Q hd hr h hK;have hdx:∀t∈writes x,t<N:=fun t ht=>hd t (GZ _ ht);have hdy:∀t∈writes y,t<N:=fun t ht=>hd t (K8 _ ht);unfold ic at hr;split at hr
   ·rename_i c0 pl0 hcv;change Bool at c0;have hev:=h.cc o;rw[hcv] at hev;have hev:=zp hev;have hn:=fL hr;cases c0 with
    | false=>exact wp_cond_false hev (ihy hdy hn h fun γ' a' w' s1 x1 f1=>hK γ' a' w' s1 x1 f1.right)
    | true=>exact wp_cond_true hev (ihx hdx hn h fun γ' a' w' s1 x1 f1=>hK γ' a' w' s1 x1 f1.left)
   ·rename_i c0 p pl0 hcv;change Bool at c0;have hev:=h.cc o;rw[hcv] at hev;have hev:=zp hev;split at hr
    ·cases hr
    rename_i σ Vn;obtain⟨γ,h,hx⟩:=IV Vn h;replace hK:=fun γ' a' w' s x f=>hK γ' a' w' s (hx.trans x) f;clear hx;split at hr
    ·cases hr
    rename_i k hk;have hok:=zw hk;dsimp only at hr;have go:∀{r:Nat×St},(Tree.node c0 (ic cx nb bf inl x pl0 (k.lock σ)) (ic cx nb bf inl y (pl0.drop (marks x)) (k.lock σ))).run=some r→∀{v:k.ty.den},k.Lm p.fz σ r.2=some v →
      (∀γ' a' w',cF B N γ' (k.qO p.fz false (writes x++writes y) σ v) a' w'→Ext B γ σ.mem w γ' (k.qO p.fz false (writes x++writes y) σ v).mem w'→Fu (writes x++writes y) a a'→Q (Mj r.1) a' w') →
      (Code.cond o x y).wp P Q a w:=by
     intro r hrun v ho hQ;have hlk:cF B N γ (k.lock σ) a w:=by rw[acy];exact h.ux
     have hle:Ext B γ σ.mem w γ (k.lock σ).mem w:=by rw[Fv];exact Ext.ux
     have fin:aY (k.lock σ) r.2→∀γ' a' w',cF B N γ' r.2 a' w'→Ext B γ (k.lock σ).mem w γ' r.2.mem w'→Fu (writes x++writes y) a a'→Q (Mj r.1) a' w':=by
      intro hkp γ' a' w' s1 x1 f1;obtain⟨Hi,s2,x2⟩:=Fw (wr:=writes x++writes y) hok h s1 (hle.trans x1) f1 (fun b bx hb hin=>hkp b _ (by rw[Fv,O9 hb,hin];rfl) rfl) ho;exact hQ Hi a' w' s2 x2 f1
     have hn:=fL hrun;cases c0 with
     | false=>exact wp_cond_false hev (ihy hdy hn hlk fun γ' a' w' s1 x1 f1=>fin (vl hkeep _ _ _ _ hn) γ' a' w' s1 x1 f1.right)
     | true=>exact wp_cond_true hev (ihx hdx hn hlk fun γ' a' w' s1 x1 f1=>fin (vl hkeep _ _ _ _ hn) γ' a' w' s1 x1 f1.left)
    split at hr
    ·obtain⟨v,h1,h2⟩:=Hv hr;obtain⟨rfl,rfl⟩:=ec (aG h2);obtain⟨r,h3,h4⟩:=bind_some h1;obtain⟨h5,h6⟩:=aB h4;refine go h3 (Ml h6) fun γ' a' w' s x f=>?_;rw[fu h5];exact hK γ' a' w' s x f
    ·rename_i es YK;obtain⟨v,h1,h2⟩:=Hv hr;obtain⟨r,h3,h4⟩:=bind_some h1;split at h4
     ·rename_i i v' hix ho;obtain rfl:=aG h4;rw[Pb hix] at h2;obtain⟨rfl,rfl⟩:=ec (aG h2);exact go h3 ho fun γ' a' w' s x f=>hK γ' a' w' s x f
     ·cases h4
   ·cases hr
 | loop c ih =>
   intro pl σ γ a w e σ' Q hd hr h hK;unfold ic at hr;split at hr
   case h_2 =>
    rename_i pl0;generalize 100000=n at hr;refine Hu (fun m a' w'=>∃γ' σ1,cF B N γ' σ1 a' w'∧Ext B γ σ.mem w γ' σ1.mem w'∧Fu (writes c) a a'∧(again (fun σ=>ic cx nb bf inl c pl0 σ) m σ1).run=some (e,σ')) (n:=n) ⟨γ,σ,h,Ext.refl _ _ _ _,Fu.refl _ _,hr⟩ ?_;intro m a1 w1 hI;obtain⟨ij,σ1,s1,e1,f1,jC⟩:=hI;cases m with
    | zero=>cases jC
    | succ m =>
      obtain⟨r,q1,q2⟩:=bind_some jC;obtain⟨e',σ2⟩:=r;refine ih hd q1 s1 fun γ' a' w' s2 e2 f2=>?_;cases hq:Nat.beq e' 0 with
      | true =>
        dsimp only at q2;rw[hq] at q2;obtain rfl:=fu hq;exact⟨m,Wl m,γ',σ2,s2,e1.trans e2,f1.trans f2,q2⟩
      | false =>
        dsimp only at q2;rw[hq] at q2;obtain⟨rfl,rfl⟩:=ec (aG q2);have:=hK γ' a' w' s2 (e1.trans e2) (f1.trans f2)
        match e',hq,this with
        | 0,hq,_=>cases hq
        | 1,_,this=>exact this
        | i+2,_,this=>exact this
   case h_3=>cases hr
   rename_i p pl0;split at hr
   ·rename_i ct hct;generalize 100=n at hr;generalize 0=j at hr;refine Hu (fun m a' w'=>∃γ' σ1 j',cF B N γ' σ1 a' w'∧Ext B γ σ.mem w γ' σ1.mem w'∧Fu (writes c) a a'∧(G7 (fun σ=>ic cx nb bf inl c pl0 σ) ct m j' σ1).run=some (e,σ')) (n:=n) ⟨γ,σ,j,h,Ext.refl _ _ _ _,Fu.refl _ _,hr⟩ ?_;intro m a1 w1 hI;obtain⟨ij,σ1,j1,s1,e1,f1,jC⟩:=hI;cases m with
    | zero=>cases jC
    | succ m =>
      unfold G7 at jC;split at jC
      case h_2=>cases jC
      rename_i x hx;obtain⟨hj,hr2⟩:=bY jC;obtain⟨r,q1,q2⟩:=bind_some hr2;obtain⟨e',σ2⟩:=r;change Int at x;have hxe:x=(j1:Int):=yd (show decide (x=(j1:Int))=true from hj);have s1':cF B N ij (σ1.put ct (.data (.int .i64) (j1:Int))) a1 w1:=s1.WC (by
       have:=s1.slots ct;rw[hx] at this;rw[←hxe];exact this)
      refine ih hd q1 s1' fun γ' a' w' s2 e2 f2=>?_;have e2:Ext B ij σ1.mem w1 γ' σ2.mem w':=e2;cases hq:Nat.beq e' 0 with
      | true =>
        dsimp only at q2;rw[hq] at q2;obtain rfl:=fu hq;exact⟨m,Wl m,γ',σ2,j1+1,s2,e1.trans e2,f1.trans f2,q2⟩
      | false =>
        dsimp only at q2;rw[hq] at q2;obtain⟨rfl,rfl⟩:=ec (aG q2);have:=hK γ' a' w' s2 (e1.trans e2) (f1.trans f2)
        match e',hq,this with
        | 0,hq,_=>cases hq
        | 1,_,this=>exact this
        | i+2,_,this=>exact this
   split at hr
   ·cases hr
   rename_i σ Vn;obtain⟨γ,h,hx⟩:=IV Vn h;replace hK:=fun γ' a' w' s x f=>hK γ' a' w' s (hx.trans x) f;clear hx;split at hr
   ·cases hr
   rename_i k hk;have hok:=zw hk;dsimp only at hr;split at hr
   ·cases hr
   rename_i x0 hx0;have hb:∀x r,roundOf cx nb bf inl k p.fz σ c pl0 x=some r→∃e oM y,(ic cx nb bf inl c pl0 (k.qO false true (writes c) σ x)).run=some (e,oM)∧(bif Nat.beq e 0 then k.out false σ oM else k.Lm p.fz σ oM)=some y∧((e=0∧r=.inl y)∨(e≠0∧∃i,JD (tM c) e=some i∧r=.inr (i,y))):=by
    intro x r hx;unfold roundOf at hx;obtain⟨q,q1,q2⟩:=bind_some hx;obtain⟨e,oM⟩:=q;dsimp only at q2;cases he:Nat.beq e 0 with
    | true =>
      rw[he] at q2;simp only[fy] at q2;split at q2
      ·rename_i y hy;exact⟨e,oM,y,q1,by rw[he];exact hy,.inl ⟨fu he,(aG q2).symm⟩⟩
      ·cases q2
    | false =>
      rw[he] at q2;simp only[iA] at q2;split at q2
      ·rename_i i y hi hy;exact⟨e,oM,y,q1,by rw[he];exact hy,.inr ⟨fun e0=>(by subst e0;cases he),i,hi,(aG q2).symm⟩⟩
      ·cases q2
   have step:∀{x:k.ty.den} {e:Nat} {oM:St} {y:k.ty.den},(ic cx nb bf inl c pl0 (k.qO false true (writes c) σ x)).run=some (e,oM)→(bif Nat.beq e 0 then k.out false σ oM else k.Lm p.fz σ oM)=some y→∀ij a1 w1 (Q':Exit→Act→World→Prop),cF B N ij (k.qO false true (writes c) σ x) a1 w1 →
     (∀oM γ' a' w',(bif Nat.beq e 0 then k.out false σ oM else k.Lm p.fz σ oM)=some y→aY (k.qO false true (writes c) σ x) oM→cF B N γ' oM a' w'→Ext B ij (k.qO false true (writes c) σ x).mem w1 γ' oM.mem w'→Fu (writes c) a1 a'→Q' (Mj e) a' w')→c.wp P Q' a1 w1:=by
    intro x e oM y hrun ho ij a1 w1 Q' s hQ;exact ih hd hrun s fun γ' a' w' s1 x1 f1=>hQ oM γ' a' w' ho (vl hkeep _ _ _ _ hrun) s1 x1 f1
   split at hr
   ·rename_i e0 YK;obtain⟨v,h1,h2⟩:=bS hr;obtain⟨rfl,rfl⟩:=ec (aG h2);refine Pc (fz:=p.fz) hok h hx0 _ (fun z e' y=>e'=e0∧z=y) h1 (fun x r hx=>?_) (fun e' y hne hO γ' a' w' s x f=>?_)
    ·rcases XP hx with ⟨y,rfl,hy⟩|⟨i,y,rfl,hy⟩
     ·obtain⟨e,oM,y',q1,q2,q3⟩:=hb x _ hy;rcases q3 with ⟨rfl,q3⟩|⟨_,i,_,q3⟩
      ·obtain rfl:=Sum.inl.inj q3;exact⟨0,y,⟨rfl,rfl⟩,step q1 q2⟩
      ·cases q3
     ·obtain⟨e,oM,y',q1,q2,q3⟩:=hb x _ hy;rcases q3 with ⟨rfl,q3⟩|⟨hne,i',hix,q3⟩
      ·cases q3
      ·obtain⟨rfl,rfl⟩:=ec (Sum.inr.inj q3);rw[YK] at hix;exact⟨e,y,⟨hne,aai hix,rfl⟩,step q1 q2⟩
    ·obtain⟨rfl,rfl⟩:=hO;exact hK γ' a' w' s x f
   ·obtain⟨v,h1,h2⟩:=bS hr;refine Pc (fz:=p.fz) hok h hx0 _ (fun z e' y=>JD (tM c) e'=some z.1∧z.2=y) h1 (fun x r hx=>?_) (fun e' y hne hO γ' a' w' s x f=>?_)
    ·obtain⟨e,oM,y',q1,q2,q3⟩:=hb x _ hx;rcases q3 with ⟨rfl,rfl⟩|⟨hne,i,hix,rfl⟩
     ·exact⟨0,y',⟨rfl,rfl⟩,step q1 q2⟩
     ·exact⟨e,y',⟨hne,hix,rfl⟩,step q1 q2⟩
    ·obtain⟨hix,rfl⟩:=hO;rw[Pb hix] at h2;obtain⟨rfl,rfl⟩:=ec (aG h2);exact hK γ' a' w' s x f
 | _=>intro pl σ γ a w e σ' Q hd hr h hK;cases hr
end
end Go.Ge
namespace Go.Ge
variable [Lp]
open RowKit
def Vo(fn:Func):Bool:=!(fn.name == "runtime.NumGoroutine")&&(match fn.body with|some c=>(writes c).all fun t=>Nat.blt t fn.ntmps|none=>true)
def Pd(cx:Ctx):Prop:=∀f fn,find cx.fns f=some fn→Vo fn=true
theorem sA{α:Type}{l:List (Nat×α)}{k:Nat}{x:α}(h:find l k=some x):(k,x)∈l:=by
 induction l with
 | nil=>cases h
 | cons p r ih =>
   obtain⟨i,a⟩:=p;simp only[find] at h;cases hb:Nat.beq i k with
   | true =>
     rw[hb] at h;obtain rfl:=aG h;obtain rfl:=fu hb;exact sU ..
   | false=>rw[hb] at h;exact vR _ (ih h)
theorem S0{cx:Ctx}(h:(cx.fns.all fun p=>Vo p.2)=true):Pd cx:=fun f fn hf=>by
 rw[DY] at h;exact h _ (sA hf)
section
variable {P:Program} {B:qq} {N:Nat} {γ:Gh} {σ:St} {a:Act} {w:World} {cx:Ctx}
def Hw(tmps:Array Value):ResultVar→Sem Value
 | .tmp t=>pure (tmps.getD t undef)
 | .cell a t=>do loadVar t (←asAddr (tmps.getD a undef))
theorem As(hc:eW P cx)(h:cF B N γ σ a w){r:ResultVar}{v:aO}(hr:(G8 cx σ r).run=some v):∃val,(Hw a.tmps r).run P w=.ok val w∧b6 γ σ.mem w v .val [val]:=by
 cases r with
 | tmp t =>
   obtain rfl:=aG hr;exact⟨_,rfl,h.slots t⟩
 | cell t ty =>
   obtain⟨τ,h1,h2⟩:=bind_some hr;obtain rfl:=aG h2;obtain⟨u,val,ad,rfl,g1,g2,g3⟩:=Sd (P:=P) hc (x:=.tmp t) h h1;refine⟨val,?_,?_⟩
   ·have g1':a.tmps.getD t undef=.pointer (some ad):=g1;simp only[Hw,g1',asAddr,Sem.run_bind,Sem.run_pure,Result.andThen_ok,g2]
   ·simpa [St.aP,St.put] using g3
theorem Mm(hc:eW P cx)(h:cF B N γ σ a w):∀{rs:List ResultVar} {v:aO},(ES cx σ rs).run=some v→∃vals:List Value,vals.length=rs.length∧(rs.mapM (Hw a.tmps)).run P w=.ok vals w∧b6 γ σ.mem w v .many vals:=by
 intro rs;induction rs with
 | nil=>intro v hr;obtain rfl:=aG hr;exact⟨[],rfl,rfl,rfl⟩
 | cons r rs ih =>
   intro v hr;obtain⟨v1,h1,h2⟩:=bind_some hr;obtain⟨l,h3,h4⟩:=bind_some h2;obtain rfl:=aG h4;obtain⟨val,g1,g2⟩:=As hc h h1;obtain⟨vals,k1,k2,k3⟩:=ih h3;refine⟨val::vals,by simp[k1],?_,val,vals,rfl,g2,k3⟩;simp only[Wn,Sem.run_bind,g1,Result.andThen_ok,k2,Sem.run_pure]
theorem Vp(fn:Func)(tmps:Array Value):results fn tmps=(do
  let vs ←fn.results.toList.mapM (Hw tmps)
  pure (if h:vs.toArray.size=1 then vs.toArray[0] else .tuple vs.toArray)):=by
 have h:results fn tmps=(do
   let vs ←fn.results.mapM (Hw tmps)
   pure (if h:vs.size=1 then vs[0] else .tuple vs)):=by
  unfold results
  congr 1
 rw[h,Array.mapM_eq_mapM_toList];simp only[bind_map_left]
theorem xz(hc:eW P cx)(h:cF B N γ σ a w){fn:Func}{v:aO}(hr:(results1 cx σ fn.results.toList).run=some v):∃val,(results fn a.tmps).run P w=.ok val w∧b6 γ σ.mem w v .val [val]:=by
 rw[Vp];generalize fn.results.toList=rs at hr;have many:∀{l:aO},rs.length≠1→(ES cx σ rs).run=some l→∃val,(do
   let vs ←rs.mapM (Hw a.tmps)
   pure (if h:vs.toArray.size=1 then vs.toArray[0] else .tuple vs.toArray):Sem Value).run P w=.ok val w∧b6 γ σ.mem w (.D1 l) .val [val]:=by
  intro l hne hl;obtain⟨vals,k1,k2,k3⟩:=Mm hc h hl;refine⟨.tuple vals.toArray,?_,vals.toArray,rfl,by simpa using k3⟩;have:¬vals.toArray.size=1:=by simp[k1,hne]
  simp only[Sem.run_bind,k2,Result.andThen_ok,Sem.run_pure,dif_neg this]
 match rs,hr with
 | [],hr =>
   obtain⟨l,h1,h2⟩:=bind_some hr;obtain rfl:=aG h2;exact many (by simp) h1
 | [r],hr =>
   obtain⟨val,g1,g2⟩:=As hc h hr;refine⟨val,?_,g2⟩;simp only[Wn,List.mapM_nil,Sem.run_bind,g1,Result.andThen_ok,Sem.run_pure];rfl
 | r::s::rs,hr =>
   obtain⟨l,h1,h2⟩:=bind_some hr;obtain rfl:=aG h2;exact many (by simp) h1
theorem Hy{mem:Nat→Option bE}(hm:bp B γ mem w){vals:List aO}{xs:Array Value}(hv:kW γ mem w vals xs.toList)(n:Nat) :
  cF B (xs.size+(n-xs.size)) γ (u7 mem vals) { tmps:=xs++Array.replicate (n-xs.size) undef,defers:=[] } w where
 slots:=fun t=>by
  show b6 γ mem w ((vals[t]?).getD .undef) .val [_]
  cases hq:vals[t]? with
  | none=>exact⟨_,rfl⟩
  | some v =>
    have ht:t<xs.size:=by
     have:=(List.getElem?_eq_some_iff.1 hq).1;have h2:=hv.1;simp at h2;omega
    have h1:xs[t]?=some xs[t]:=Array.getElem?_eq_getElem ht;have h2:(xs++Array.replicate (n-xs.size) undef).getD t undef=xs[t]:=by
     rw[YR,ado ht,h1];rfl
    dsimp only;rw[h2];exact hv.2 t v xs[t] hq (by simp[ht])
 size:=by simp
 defers:=rfl
 ok:=hm
def Pe(cx:Ctx)(n nb:Nat)(dV:Nat→vZ):Nat→List aO→St→Tree (aO×St) :=
 fun g xs σ=>(An cx n ((nb+g+1)*1000) dV g xs σ.mem).bind fun r=>.ret (r.1,{ σ with mem:=r.2 })
theorem Mn{n nb f:Nat}{dV:Nat→vZ}{vals:List aO}{mem:Nat→Option bE}{r:aO×(Nat→Option bE)}(hr:(An cx (n+1) nb dV f vals mem).run=some r) :
  ∃fn c,find cx.fns f=some fn∧fn.body=some c∧((Ln cx nb (dV f) (Pe cx n nb dV) fn c vals mem).run=some r∨∃R,(Wt R vals mem (Ln cx nb (dV f) (Pe cx n nb dV) fn c vals)).run=some r):=by
 unfold An at hr;split at hr
 case h_2=>cases hr
 rename_i fn hfn;split at hr
 case h_2=>cases hr
 rename_i c hb;refine⟨fn,c,hfn,hb,?_⟩;split at hr
 ·exact .inl hr
 ·exact .inr ⟨_,hr⟩
theorem Eh{nb:Nat}{p:vZ}{inl:Nat→List aO→St→Tree (aO×St)}{fn:Func}{c:Code}{vals:List aO}{mem:Nat→Option bE}{r:aO×(Nat→Option bE)}(hr:(Ln cx nb p inl fn c vals mem).run=some r) :
  ∃e σ',(ic cx nb p.ad3 inl c p.marks (u7 mem vals)).run=some (e,σ')∧(e=0∨e=1)∧(results1 cx σ' fn.results.toList).run=some r.1∧r.2=σ'.mem:=by
 obtain⟨q,h1,h2⟩:=bind_some hr;obtain⟨e,σ'⟩:=q;obtain⟨h3,h4⟩:=aB h2;obtain⟨v,h5,h6⟩:=bind_some h4;obtain rfl:=aG h6;refine⟨e,σ',h1,?_,h5,rfl⟩;simp only[EK] at h3;rcases h3 with h3|h3
 ·exact .inl (fu h3)
 ·exact .inr (fu h3)
theorem Mo{R:Ty}{vals:List aO}{mem:Nat→Option bE}{F:(Nat→Option bE)→Tree (aO×(Nat→Option bE))}{r:aO×(Nat→Option bE)}(hr:(Wt R vals mem F).run=some r) :
  ∃(k:Carry) (x:k.ty.den) (v:aO) (mem':Nat→Option bE),Cx k (ku mem)∧(F (k.lock (ku mem)).mem).run=some (v,mem')∧k.out false (ku mem) (ZA v mem')=some x ∧
   r=((k.qO false false [0] (ku mem) x).slots 0,(k.qO false false [0] (ku mem) x).mem):=by
 unfold Wt at hr;split at hr
 ·cases hr
 rename_i m hm;obtain⟨x,h1,h2⟩:=Hv hr;obtain⟨q,h3,h4⟩:=bind_some h1;refine⟨⟨[(0,.d R)],m,fun _=>false⟩,x,q.1,q.2,⟨fun t s hts=>?_,aaf hm,fun b x hb=>(by cases hb)⟩,h3,Ml h4,(aG h2).symm⟩;rw[Xh] at hts;obtain⟨rfl,rfl⟩:=ec hts;trivial
theorem Vq{dV:Nat→vZ}:∀(n nb f:Nat) (vals:List aO) (mem:Nat→Option bE) (r:aO×(Nat→Option bE)),(An cx n nb dV f vals mem).run=some r→∀b bx,mem b=some bx→bx.lk=true→r.2 b=some bx:=by
 intro n;induction n with
 | zero=>intro nb f vals mem r h;cases h
 | succ n ih =>
   intro nb f vals mem r h b bx hb hl;obtain⟨fn,c,h1,h2,h3⟩:=Mn h;have body:∀{mem:Nat→Option bE} {r:aO×(Nat→Option bE)},(Ln cx nb (dV f) (Pe cx n nb dV) fn c vals mem).run=some r→∀b bx,mem b=some bx→bx.lk=true→r.2 b=some bx:=by
    intro mem r h b bx hb hl;obtain⟨e,σ',h3,h4,h5,h6⟩:=Eh h;have:=vl (fun f vals σ v σ' hi=>by
     obtain⟨q,g1,g2⟩:=bind_some (show((An cx n ((nb+f+1)*1000) dV f vals σ.mem).bind fun r=>.ret (r.1,{ σ with mem:=r.2 })).run=some (v,σ') from hi);obtain⟨rfl,rfl⟩:=ec (aG g2);exact fun b bx hb hl=>ih _ _ _ _ q g1 b bx hb hl) c _ _ _ h3
    rw[h6];exact this b bx hb hl
   rcases h3 with h3|⟨R,h3⟩
   ·exact body h3 b bx hb hl
   ·obtain⟨k,x,v,mem',hk,_,_,rfl⟩:=Mo h3;exact Bp (fz:=false) (lock:=false) (wr:=[0]) (x:=x) hk b bx hb hl
theorem Mp{dV:Nat→vZ}(n nb:Nat):∀f vals σ v σ',(Pe cx n nb dV f vals σ).run=some (v,σ')→aY σ σ':=by
 intro f vals σ v σ' hi;obtain⟨q,g1,g2⟩:=bind_some (show((An cx n ((nb+f+1)*1000) dV f vals σ.mem).bind fun r=>.ret (r.1,{ σ with mem:=r.2 })).run=some (v,σ') from hi);obtain⟨rfl,rfl⟩:=ec (aG g2);exact fun b bx hb hl=>Vq _ _ _ _ _ q g1 b bx hb hl
theorem IW(sw:P.follows .mixedOrders=true)(hc:eW P cx){G:fo}(dB:oJ P G cx)(Vr:Pd cx){dV:Nat→vZ} :
  ∀(n nb f:Nat) (B:qq) (γ:Gh) (mem mem':Nat→Option bE) (w:World) (vals:List aO) (xs:Array Value) (v:aO),B.G=G→bp B γ mem w→kW γ mem w vals xs.toList→(An cx n nb dV f vals mem).run=some (v,mem') →
  (∃fn code,P.funcs[f]?=some fn∧(fn.name == "runtime.NumGoroutine")=false∧fn.body=some code) ∧
  Calls P f xs w fun e w'=>∃val γ',e=.returned val∧bp B γ' mem' w'∧Ext B γ mem w γ' mem' w'∧b6 γ' mem' w' v .val [val]:=by
 intro n;induction n with
 | zero=>intro nb f B γ mem mem' w vals xs v _ _ _ h;cases h
 | succ n ih =>
   intro nb f B γ mem mem' w vals xs v hG hm hv h;subst hG;obtain⟨fn,c,h1,h2,h3⟩:=Mn h;have hok:=Vr f fn h1;simp only[Vo,h2,dW,nj,DY] at hok;have hP:=hc.fns f fn h1;refine⟨⟨fn,c,hP,hok.1,h2⟩,?_⟩;have kX:wk P B.G (Pe cx n nb dV):=by
    intro B' γ σ acm w f vals xs v hG hm hv hi;obtain⟨q,g1,g2⟩:=bind_some (show((An cx n ((nb+f+1)*1000) dV f vals σ.mem).bind fun r=>.ret (r.1,{ σ with mem:=r.2 })).run=some (v,acm) from hi);obtain⟨rfl,rfl⟩:=ec (aG g2);obtain⟨k1,k2⟩:=ih _ f B' γ σ.mem q.2 w vals xs q.1 hG hm hv g1;exact⟨k1,rfl,k2⟩
   have body:∀{γ:Gh} {mem mem':Nat→Option bE} {v:aO},bp B γ mem w→kW γ mem w vals xs.toList→(Ln cx nb (dV f) (Pe cx n nb dV) fn c vals mem).run=some (v,mem') →
     Calls P f xs w fun e w'=>∃val γ',e=.returned val∧bp B γ' mem' w'∧Ext B γ mem w γ' mem' w'∧b6 γ' mem' w' v .val [val]:=by
    intro γ mem mem' v hm hv h;obtain⟨e,σ',h3,h4,h5,h6⟩:=Eh h;dsimp only at h5 h6;subst h6;refine calls_of_wp hP h2 ?_;refine sy (B:=B) sw hc dB kX (Mp _ _) c (fun t ht=>?_) h3 (Hy hm hv fn.ntmps) fun γ' a' w' s x f=>?_
    ·have:=hok.2 t ht;have:=JB (by simpa [Nat.blt] using this);omega
    ·obtain⟨val,r1,r2⟩:=xz (fn:=fn) hc s h5;have:a'.defers=[]∧∃v1,(results fn a'.tmps).run P w'=.ok v1 w'∧∃val γ',Ending.returned v1=.returned val∧bp B γ' σ'.mem w'∧Ext B γ mem w γ' σ'.mem w'∧b6 γ' σ'.mem w' v .val [val] :=
      ⟨s.defers,val,r1,val,γ',rfl,s.ok,x,r2⟩
     rcases h4 with rfl|rfl
     ·exact this
     ·exact this
   rcases h3 with h3|⟨R,h3⟩
   ·exact body hm hv h3
   ·obtain⟨k,x,v1,aeo,hk,h4,h5,h6⟩:=Mo h3;obtain⟨rfl,rfl⟩:=ec h6;have Xw:(k.lock (ku mem)).mem=ux (fun b bx=>bif ya k.M b then bx.lk else true) mem:=Fv k (ku mem);have hm1:bp B γ (k.lock (ku mem)).mem w:=by rw[Xw];exact hm.ux
    have hx1:Ext B γ mem w γ (k.lock (ku mem)).mem w:=by rw[Xw];exact Ext.ux
    have hkeep:∀b bx,(k.lock (ku mem)).mem b=some bx→bx.lk=true→aeo b=some bx:=by
     intro b bx hb hl;obtain⟨e,σ',g3,_,_,g6⟩:=Eh h4;have:=vl (fun f vals σ v σ' hi=>Mp n nb f vals σ v σ' hi) c _ _ _ g3;rw[show aeo=σ'.mem from g6];exact this b bx hb hl
    refine(body hm1 (hv.ext hx1) h4).mono fun e w' hw=>?_;obtain⟨val,ij,rfl,m1,x1,r1⟩:=hw;have s0:cF B 1 γ (ku mem) { tmps:=#[undef],defers:=[] } w:=⟨fun t=>⟨_,rfl⟩,rfl,rfl,hm⟩;have s1:cF B 1 ij (ZA v1 aeo) { tmps:=#[val],defers:=[] } w':=⟨fun t=>by
     cases t with
     | zero=>exact r1
     | succ t=>exact⟨_,rfl⟩,rfl,rfl,m1⟩
    obtain⟨s2,x2⟩:=sx (lock:=false) (wr:=[0]) hk s0 s1 (hx1.trans x1) (fun t ht=>by
     cases t with
     | zero=>cases ht
     | succ t=>rfl) (fun b bx hb hin=>⟨true,hkeep b _ (by rw[Xw];simp only[ux,show mem b=some bx from hb,hin,iA]) rfl⟩) h5
    exact⟨val,ij,rfl,s2.ok,x2,s2.slots 0⟩
end
end Go.Ge
namespace Go.Ge
variable [Lp]
open RowKit
section
variable {P:Program} {B:qq} {N:Nat} {γ:Gh} {σ:St} {a:Act} {w:World} {cx:Ctx}
theorem Qu{mem:Nat→Option bE}{I:Nat→Nat→Prop}{loc:Nat→Option (Nat×Nat)}:∀{A:Ty} {x:A.den} {xs:List Value},gX w I A x xs→kW ⟨I,loc⟩ mem w (G9 A x) xs:=by
 intro A;induction A with
 | pair t r Lf ihr =>
   intro x xs h;obtain⟨cs,rest,rfl,h1,h2⟩:=h;have:=ihr h2;refine⟨by simp[G9,this.1],fun i v y hv hy=>?_⟩;cases i with
   | zero =>
     obtain rfl:=aG hv;obtain rfl:=aG hy;exact⟨cs,h1,rfl⟩
   | succ i=>exact this.2 i v y (by simpa [G9] using hv) (by simpa using hy)
 | unit=>intro x xs h;rw[show xs=[] from h];exact⟨rfl,fun i v y hv=>by cases hv⟩
 | _=>intro x xs h;exact h.elim
theorem S1(hm:bp B γ σ.mem w){I':Nat→Nat→Prop}(hI:∀b o,γ.I b o→I' b o)(Uk:∀b o,B.has b→b<w.heap.size→I' b o):∀{R:Ty} {y:R.den} {u:aO} {vs:List Value},
  b6 γ σ.mem w u .many vs→gT σ R (ET u)=some y→b6 ⟨I',fun _=>none⟩ (fun _=>none) w (A6 R y) .many vs:=by
 intro R;induction R with
 | pair t r Lf ihr =>
   intro y u vs hu hl;cases u with
   | mix p q =>
     obtain⟨v,rest,rfl,h1,h2⟩:=hu;simp only[ET,gT] at hl;split at hl
     ·rename_i x z hx hz;obtain rfl:=aG hl;obtain⟨cs,c1,c2⟩:=LJ hm hI Uk h1 hx;exact⟨v,rest,rfl,⟨cs,c1,by rw[c2]⟩,ihr h2 hz⟩
     ·cases hl
   | _=>cases hl
 | unit =>
   intro y u vs hu hl;cases u with
   | mix p q=>cases hl
   | nl=>exact hu
   | _=>exact(show False from hu).elim
 | _=>intro y u vs hu hl;cases u<;>cases hl
theorem Pf(hm:bp B γ σ.mem w){I':Nat→Nat→Prop}(hI:∀b o,γ.I b o→I' b o)(Uk:∀b o,B.has b→b<w.heap.size→I' b o){R:Ty}{y:R.den}{v:aO}{val:Value}
  (hv:b6 γ σ.mem w v .val [val]) (hl:gT σ R (EU R v)=some y):kV w I' R y val:=by
 have many:∀{R:Ty} {y:R.den},(uY R y=.D1 (A6 R y))→(gT σ R (match v with|.D1 v=>ET v|v=>[v])=some y)→(∀t,R≠.pair t .unit)→kV w I' R y val:=by
  intro R y hres hl hne;unfold kV;rw[hres];have one:∀{v':aO},gT σ R [v']=some y→False:=by
   intro v' h;cases R with
   | pair t r =>
     simp only[gT] at h;split at h
     ·rename_i hr;cases r with
      | unit=>exact hne t rfl
      | _=>cases hr
     ·cases h
   | _=>cases h
  cases v with
  | D1 u =>
    obtain⟨arr,h1,h2⟩:=hv;exact⟨arr,h1,S1 hm hI Uk h2 hl⟩
  | _=>exact(one hl).elim
 cases R with
 | pair t r =>
   cases r with
   | unit =>
     simp only[EU,gT] at hl;split at hl
     ·rename_i x z hx hz;obtain rfl:=aG hl;obtain⟨cs,c1,c2⟩:=LJ hm hI Uk hv hx;exact⟨cs,c1,by rw[c2]⟩
     ·cases hl
   | _=>exact many rfl (by cases v<;>exact hl) (fun t e=>by cases e)
 | _=>exact many rfl (by cases v<;>exact hl) (fun t e=>by cases e)
theorem Fx(sw:P.follows .mixedOrders=true)(hc:eW P cx){G:fo}(dB:oJ P G cx)(Vr:Pd cx){dV:Nat→vZ}{n f:Nat}{A R:Ty}{spec:A.den→Option R.den}
  {fn:Func} {code:Code} (hfn:find cx.fns f=some fn) (hbody:fn.body=some code) (h:∀x y,spec x=some y→sem cx n dV f A R x=some y):Holds P G f ⟨A,R,spec⟩ where
 body:=by
  have hok:=Vr f fn hfn;simp only[Vo,hbody,dW,nj] at hok;exact⟨fn,code,hc.fns f fn hfn,hok.1,hbody⟩
 calls:=by
  intro I w args x y hI hG hargs hspec;have hs:=h x y hspec;unfold sem at hs;obtain⟨r,h1,h2⟩:=bind_some hs;obtain⟨v,mem'⟩:=r;have hl:gT (ku mem') R (EU R v)=some y:=by
   dsimp only at h2;split at h2
   ·rename_i y' hy';obtain rfl:=aG h2;exact hy'
   ·cases h2
  have hm:bp (ld G w.heap.size) ⟨I,fun _=>none⟩ (fun _=>none) w :=
   { aH:=fun b Q g=>by
      obtain⟨o,h1,h2⟩:=hG b Q g;exact⟨fun hb=>by have:=pz.1 hb;have:=(Array.getElem?_eq_some_iff.1 h1).1;omega,o,h1,h2⟩
     base:=mq _
     boxes:=fun b bx hb=>by cases hb
     inj:=fun b c blk k k' hb=>absurd rfl hb
     fresh:=fun b blk k hb=>absurd rfl hb
     tN:=hI
     sep:=fun b bx blk k off hb=>by cases hb }
  obtain⟨_,LL⟩:=IW sw hc dB Vr n 0 f (ld G w.heap.size) ⟨I,fun _=>none⟩ (fun _=>none) mem' w (G9 A x) args v rfl hm (Qu hargs) h1;refine LL.mono fun e w' hw=>?_;obtain⟨val,γ',rfl,m1,x1,r1⟩:=hw;refine⟨val,fun b o=>γ'.I b o∨(w.heap.size≤b∧b<w'.heap.size),rfl,x1.below.below,fun b o hi=>.inl (x1.I b o hi),fun b o hi=>?_,fun b o hi hn=>?_,?_⟩
  ·rcases hi with hi|hi
   ·exact m1.tN b o hi
   ·exact hi.2
  ·rcases hi with hi|hi
   ·exact pz.1 ((x1.pE b o hi).resolve_left hn)
   ·exact hi.1
  ·exact Pf (σ:=ku mem') m1 (fun b o hi=>.inl hi) (fun b o h1 h2=>.inr ⟨pz.1 h1,h2⟩) r1 hl
def JW:List Nat→Nat→Nat→Option (Nat×Nat)
 | [],_,_=>none
 | blk::r,k,b=>if b=gW k then some (blk,0) else JW r (k+1) b
theorem IX{i j:Nat}(h:gW i=gW j):i=j:=by unfold gW at h;omega
theorem Qv:∀{bs:List Nat} {k j blk:Nat},bs[j]?=some blk→JW bs k (gW (k+j))=some (blk,0):=by
 intro bs;induction bs with
 | nil=>intro k j blk h;cases h
 | cons x r ih =>
   intro k j blk h;cases j with
   | zero=>obtain rfl:=aG h;simp[JW]
   | succ j =>
     simp only[JW];rw[bH (fun e=>by have:=IX e;omega),show k+(j+1)=k+1+j by omega];exact ih (by simpa using h)
theorem Hz:∀{bs:List Nat} {k b blk q:Nat},JW bs k b=some (blk,q)→∃j,bs[j]?=some blk∧b=gW (k+j):=by
 intro bs;induction bs with
 | nil=>intro k b blk q h;cases h
 | cons x r ih =>
   intro k b blk q h;simp only[JW] at h;split at h
   ·rename_i e;obtain⟨rfl,_⟩:=ec (aG h);exact⟨0,rfl,e⟩
   ·obtain⟨j,h1,h2⟩:=ih h;exact⟨j+1,by simpa using h1,by rw[h2];congr 1;omega⟩
theorem acA{I:Nat→Nat→Prop}:∀{U:Ty} {u:U.den} {bs:List Nat} {k:Nat},xq w I U u bs→∀{j blk:Nat},bs[j]?=some blk →
  ∃bx,JE U u k (gW (k+j))=some bx∧bx.aA=0:=by
 intro U;induction U with
 | pair t U Lf UL =>
   intro u bs k h j blk hj;obtain⟨b0,r,rfl,h1,h2⟩:=h;cases j with
   | zero=>exact⟨{ val:=.data t u.1,tid:=0,buf:=false,ro:=false,lk:=false,aA:=0 },by simp[JE],rfl⟩
   | succ j =>
     obtain⟨bx,g1,g2⟩:=UL (k:=k+1) h2 (j:=j) (by simpa using hj);refine⟨bx,?_,g2⟩;simp only[JE];rw[gK (fun e=>by have:=IX e;omega),iA,show k+(j+1)=k+1+j by omega];exact g1
 | unit=>intro u bs k h j blk hj;rw[show bs=[] from h] at hj;cases hj
 | _=>intro u bs k h;exact h.elim
theorem Pg{I:Nat→Nat→Prop}:∀{U:Ty} {u:U.den} {bs:List Nat} {k b:Nat} {bx:bE},xq w I U u bs→JE U u k b=some bx →
  ∃j blk t,∃x:t.den,bs[j]?=some blk∧b=gW (k+j)∧bx={ val:=.data t x,tid:=0,buf:=false,ro:=false,lk:=false,aA:=0 }∧ZO w I t x blk:=by
 intro U;induction U with
 | pair t U Lf UL =>
   intro u bs k b bx h hb;obtain⟨b0,r,rfl,h1,h2⟩:=h;simp only[JE] at hb;cases hq:Nat.beq b (gW k) with
   | true =>
     rw[hq] at hb;exact⟨0,b0,t,u.1,rfl,fu hq,(aG hb).symm,h1⟩
   | false =>
     rw[hq] at hb;obtain⟨j,blk,t',x',g1,g2,g3,g4⟩:=UL h2 hb;exact⟨j+1,blk,t',x',by simpa using g1,by rw[g2];congr 1;omega,g3,g4⟩
 | unit=>intro u bs k b bx h hb;cases hb
 | _=>intro u bs k b bx h;exact h.elim
theorem Vs{mem:Nat→Option bE}:∀{ps:List Bool} {A U:Ty} {x:A.den} {xs:List Value} {bs:List Nat} {k:Nat},Sn w γ.I ps A U x xs bs →
  (∀j blk,bs[j]?=some blk→∃bx,mem (gW (k+j))=some bx∧bx.aA=0∧γ.loc (gW (k+j))=some (blk,0))→kW γ mem w (CW ps A U x k) xs:=by
 intro ps;induction ps with
 | nil =>
   intro A U x xs bs k h _;obtain⟨_,_,rfl,_⟩:=h;exact⟨rfl,fun i v y hv=>by cases hv⟩
 | cons p ps ih =>
   intro A U x xs bs k h hb;cases p with
   | false =>
     cases A<;>first|(exact(show False from h).elim)|skip
     rename_i t A;obtain⟨cs,rest,rfl,h1,h2⟩:=h;have:=ih h2 hb;refine⟨by simp[CW,this.1],fun i v y hv hy=>?_⟩;cases i with
     | zero =>
       obtain rfl:=aG hv;obtain rfl:=aG hy;exact⟨cs,h1,rfl⟩
     | succ i=>exact this.2 i v y (by simpa [CW] using hv) (by simpa using hy)
   | true =>
     cases U<;>first|(exact(show False from h).elim)|skip
     rename_i t U;obtain⟨blk,rest,r,rfl,rfl,h1⟩:=h;have:=ih (k:=k+1) h1 fun j de hj=>by
      have:=hb (j+1) de (by simpa using hj);rw[show k+(j+1)=k+1+j by omega] at this;exact this
     refine⟨by simp[CW,this.1],fun i v y hv hy=>?_⟩;cases i with
     | zero =>
       obtain rfl:=aG hv;obtain rfl:=aG hy;obtain⟨bx,g1,g2,g3⟩:=hb 0 blk rfl;exact⟨⟨_,rfl,rfl⟩,bx,g1,NB g2.symm,fun _=>⟨blk,0,g3,rfl⟩⟩
     | succ i=>exact this.2 i v y (by simpa [CW] using hv) (by simpa using hy)
theorem Vt{mem:Nat→Option bE}:∀{u:aO} {vs:List Value},b6 γ mem w u .many vs→kW γ mem w (ET u) vs:=by
 intro u;induction u with
 | mix p q UF Si =>
   intro vs h;obtain⟨v,r,rfl,h1,h2⟩:=h;have:=Si h2;refine⟨by simp[ET,this.1],fun i v' y hv hy=>?_⟩;cases i with
   | zero =>
     obtain rfl:=aG hv;obtain rfl:=aG hy;exact h1
   | succ i=>exact this.2 i v' y (by simpa [ET] using hv) (by simpa using hy)
 | nl=>intro vs h;rw[show vs=[] from h];exact⟨rfl,fun i v y hv=>by cases hv⟩
 | _=>intro vs h;exact(show False from h).elim
theorem Vu{I:Nat→Nat→Prop}:∀{R:Ty} {y:R.den} {vs:List Value},gX w I R y vs→b6 ⟨I,fun _=>none⟩ (fun _=>none) w (A6 R y) .many vs:=by
 intro R;induction R with
 | pair t r Lf ihr =>
   intro y vs h;obtain⟨cs,rest,rfl,h1,h2⟩:=h;exact⟨_,rest,rfl,⟨cs,h1,rfl⟩,ihr h2⟩
 | unit=>intro y vs h;exact h
 | _=>intro y vs h;exact h.elim
theorem S2{mem:Nat→Option bE}{v:aO}{x:Value}(h:b6 γ mem w v .val [x]):kW γ mem w [v] [x]:=by
 refine⟨rfl,fun i v' y hv hy=>?_⟩;cases i with
 | zero =>
   obtain rfl:=aG hv;obtain rfl:=aG hy;exact h
 | succ i=>cases hv
theorem Vv{mem:Nat→Option bE}{R:Ty}{v:aO}{val:Value}(hv:b6 γ mem w v .val [val]) :
  ∃xs,kW γ mem w (EU R v) xs∧∀(I:Nat→Nat→Prop) (y:R.den),gX w I R y xs→kV w I R y val:=by
 have other:∀{R:Ty},(∀t,R≠.pair t .unit)→(∀y,uY R y=.D1 (A6 R y))→∃xs,kW γ mem w (match v with|.D1 v=>ET v|v=>[v]) xs∧∀(I:Nat→Nat→Prop) (y:R.den),gX w I R y xs→kV w I R y val:=by
  intro R hne hres;have one:kW γ mem w [v] [val]→∃xs,kW γ mem w [v] xs∧∀(I:Nat→Nat→Prop) (y:R.den),gX w I R y xs→kV w I R y val:=by
   intro h1;refine⟨[val],h1,fun I y h=>?_⟩;exfalso;cases R with
   | pair t r =>
     obtain⟨cs,rest,e,_,h2⟩:=h;obtain⟨_,rfl⟩:=Wo e;cases r with
     | unit=>exact hne t rfl
     | pair a b=>obtain⟨_,_,e2,_⟩:=h2;cases e2
     | _=>exact h2.elim
   | unit=>cases (show [val]=[] from h)
   | _=>exact h.elim
  cases v with
  | D1 u =>
    obtain⟨arr,h1,h2⟩:=hv;refine⟨arr.toList,Vt h2,fun I y h=>?_⟩;unfold kV;rw[hres];exact⟨arr,h1,Vu h⟩
  | _=>exact one (S2 hv)
 cases R with
 | pair t r =>
   cases r with
   | unit =>
     refine⟨[val],by cases v<;>exact S2 hv,fun I y h=>?_⟩;obtain⟨cs,rest,e,h1,h2⟩:=h;obtain⟨rfl,_⟩:=Wo e;exact⟨cs,h1,rfl⟩
   | _ =>
     cases v<;>exact other (fun t' e=>by cases e) (fun y=>rfl)
 | _ =>
   cases v<;>exact other (fun t' e=>by cases e) (fun y=>rfl)
theorem Vw{mem afI:Nat→Option bE}{B0:qq}{Vj:Gh}{w0:World}{I:Nat→Nat→Prop}(hm:bp B γ mem w)(hx:Ext B0 Vj afI w0 γ mem w):∀{U:Ty} {u y:U.den} {k:Nat} {bs:List Nat},xq w0 I U u bs →
  (∀j blk,bs[j]?=some blk→(∃bx,afI (gW (k+j))=some bx∧bx.aA=0)∧Vj.loc (gW (k+j))=some (blk,0))→R6 mem U k=some y →
  xq w γ.I U y bs∧∀blk∈bs,∀o,¬γ.I blk o:=by
 intro U;induction U with
 | pair t U Lf UL =>
   intro u y k bs h hb hr;obtain⟨blk,r,rfl,h1,h2⟩:=h;simp only[R6] at hr;split at hr
   case h_2=>cases hr
   rename_i bx qs;cases hcd:(Nat.beq bx.aA 0&&!bx.buf&&!bx.ro) with
   | false=>rw[hcd] at hr;cases hr
   | true =>
     rw[hcd] at hr;simp only[dW,nj] at hcd;simp only[fy] at hr;split at hr
     case h_2=>cases hr
     rename_i x1 u1 g1 g2;obtain rfl:=aG hr;have hval:=Sq g1;obtain⟨⟨cQ,j1,j2⟩,j3⟩:=hb 0 blk rfl;rw[yf] at j1 j3;obtain⟨gy,q1,q2,q3⟩:=hx.boxes _ cQ j1;rw[qs] at q1;obtain rfl:=aG q1;have bh:=fu hcd.1.1;have hl:=(q3 (by rw[bh,j2])).1;rw[j3] at hl;obtain⟨k1,k2⟩:=UL (k:=k+1) h2 (fun j de hj=>by
      have:=hb (j+1) de (by simpa using hj);rw[show k+(j+1)=k+1+j by omega] at this;exact this) g2
     have ig:=hm.boxes _ bx qs;unfold cr at ig;rw[hcd.1.2] at ig;obtain⟨de,cap,cur,tid,fr,a1,a2,a3,gL,a4⟩:=ig;rw[hl] at a1;obtain⟨rfl,_⟩:=ec (aG a1);rw[hval] at a4;refine⟨⟨blk,r,rfl,⟨cur,tid,fr,a2,a3,a4⟩,k1⟩,fun b hbm o hi=>?_⟩;rcases List.mem_cons.1 hbm with rfl|hbm
     ·have:=(hm.sep _ bx b 0 o qs hl hi).1;rw[hcd.2] at this;cases this
     ·exact k2 b hbm o hi
 | unit =>
   intro u y k bs h hb hr;exact⟨h,fun b hbm=>by rw[show bs=[] from h] at hbm;cases hbm⟩
 | _=>intro u y k bs h;exact h.elim
theorem C6(sw:P.follows .mixedOrders=true)(hc:eW P cx){G:fo}(dB:oJ P G cx)(Vr:Pd cx){dV:Nat→vZ}{n f:Nat}{ps:List Bool}{A U R:Ty}{spec:A.den×U.den→Option (R.den×U.den)}
  {fn:Func} {code:Code} (hfn:find cx.fns f=some fn) (hbody:fn.body=some code) (h:∀x y,spec x=some y→abZ cx n dV f ps A U R x=some y):iq P G f ⟨ps,A,U,R,spec⟩ where
 body:=by
  have hok:=Vr f fn hfn;simp only[Vo,hbody,dW,nj] at hok;exact⟨fn,code,hc.fns f fn hfn,hok.1,hbody⟩
 calls:=by
  intro I w args bs x u y hI hG hGb hargs hrefs hnd hfree hspec;have hs:=h (x,u) y hspec;unfold abZ at hs;obtain⟨r,h1,h2⟩:=bind_some hs;obtain⟨v,mem'⟩:=r;obtain⟨y1,y2⟩:=y;have hg:∃σ1,jW (ku mem') R (EU R v)=some (y1,σ1)∧R6 σ1.mem U 0=some y2:=by
   dsimp only at h2;split at h2
   ·rename_i y' σ1 hy';split at h2
    ·rename_i u' Nw;obtain⟨rfl,rfl⟩:=ec (aG h2);exact⟨σ1,hy',Nw⟩
    ·cases h2
   ·cases h2
  obtain⟨σ1,Wx,hg2⟩:=hg;have UO:∀j blk,bs[j]?=some blk→(∃bx,JE U u 0 (gW (0+j))=some bx∧bx.aA=0)∧JW bs 0 (gW (0+j))=some (blk,0):=fun j blk hj=>⟨acA hrefs hj,Qv hj⟩;have hm:bp ⟨w.heap.size,(·∈bs),G⟩ ⟨I,JW bs 0⟩ (JE U u 0) w :=
   { aH:=fun b Q g=>by
      obtain⟨o,h1,h2⟩:=hG b Q g;refine⟨fun hb=>?_,o,h1,h2⟩;have:=(Array.getElem?_eq_some_iff.1 h1).1;rcases hb with hb|hb
      ·exact absurd this (by have hb':w.heap.size≤b:=hb;omega)
      ·exact hGb b Q g hb
     base:=mq _
     boxes:=fun b bx hb=>by
      obtain⟨j,blk,t,z,g1,g2,g3,g4⟩:=Pg hrefs hb;subst g3;subst g2;obtain⟨cur,tid,fr,k1,k2,k3⟩:=g4;exact⟨blk,0,cur,tid,fr,Qv g1,k1,k2,.inl rfl,k3⟩
     inj:=fun b c blk k k' hb hc' e1 e2=>by
      obtain⟨i,i1,i2⟩:=Hz e1;obtain⟨j,j1,j2⟩:=Hz e2;have hij:i=j:=by
       have hi:=(List.getElem?_eq_some_iff.1 i1).1;exact(List.getElem?_inj hi hnd).1 (i1.trans j1.symm)
      subst hij;rw[i2,j2]
     fresh:=fun b blk k hb e1=>by
      cases hq:JE U u 0 b with
      | none=>exact absurd hq hb
      | some bx =>
        obtain⟨j,de,t,z,g1,g2,g3,g4⟩:=Pg hrefs hq;have e1':JW bs 0 b=some (blk,k):=e1;rw[g2,Qv g1] at e1';obtain⟨rfl,_⟩:=ec (aG e1');obtain⟨cur,tid,fr,k1,k2,k3⟩:=g4;exact⟨.inr (yc g1),(Array.getElem?_eq_some_iff.1 k1).1⟩
     tN:=hI
     sep:=fun b bx blk k off hb e1 hi=>by
      obtain⟨j,j1,_⟩:=Hz e1;exact(hfree blk (yc j1) off hi).elim }
  have hv:kW ⟨I,JW bs 0⟩ (JE U u 0) w (CW ps A U x 0) args.toList:=Vs (γ:=⟨I,JW bs 0⟩) hargs fun j blk hj=>by
   obtain⟨⟨bx,g1,g2⟩,g3⟩:=UO j blk hj;exact⟨bx,g1,g2,g3⟩
  obtain⟨_,LL⟩:=IW sw hc dB Vr n 0 f ⟨w.heap.size,(·∈bs),G⟩ ⟨I,JW bs 0⟩ (JE U u 0) mem' w (CW ps A U x 0) args v rfl hm hv h1;refine LL.mono fun e w' hw=>?_;obtain⟨val,γ',rfl,m1,x1,r1⟩:=hw;obtain⟨xs,u1,u2⟩:=Vv (R:=R) r1;have Vx:cF ⟨w.heap.size,(·∈bs),G⟩ 0 γ' (ku mem') { tmps:=#[],defers:=[] } w' :=
   { slots:=fun t=>⟨_,rfl⟩
     size:=rfl
     defers:=rfl
     ok:=m1 }
  obtain⟨Hi,s1,s2,s3⟩:=rE Vx u1 Wx;have xx:=x1.trans s2;obtain⟨k1,k2⟩:=Vw s1.ok xx hrefs UO hg2;refine⟨val,Hi.I,rfl,xx.below,xx.I,s1.ok.tN,fun b o hi hn=>?_,u2 _ _ s3,k1⟩;rcases(xx.pE b o hi).resolve_left hn with q|q
  ·exact q
  ·exact(k2 b q o hi).elim
end
end Go.Ge
namespace Go.Ge
open RowKit ChangeShapes
def N4{α:Type}(f:α→Nat):List α→Nat
 | []=>0
 | x::r=>f x+N4 f r
def Ty.bulk:(t:Ty)→t.den→Nat
 | .int _,_=>1
 | .bool,_=>1
 | .str,s=>List.length (α:=UInt8) s+1
 | .slice e,l=>N4 e.bulk l+1
 | .arr _ e,l=>N4 e.bulk l
 | .pair a b,x=>a.bulk x.1+b.bulk x.2
 | .unit,_=>0
 | .alt _ _ _,_=>0
 | .AU,_=>0
def Ty.C7:Ty→Bool
 | .slice e=>e.C7
 | .arr _ e=>e.C7
 | .pair a b=>a.C7&&b.C7
 | .alt _ _ _=>false
 | .AU=>false
 | _=>true
structure Mq {H:Type} (bulk:DataW H→Nat) (all:List (DataW H)→Nat):Prop where
 lit:∀l,1≤bulk (.lit l)
 str:∀s,bulk (.lit (.string s))=s.length+1
 nil:1≤bulk .nil
 slice:∀e s,bulk (.slice e s)=all e+all s+1
 agg:∀p,bulk (.agg p)=all p+1
 none:all []=0
 cons:∀d r,all (d::r)=bulk d+all r
theorem Cy{α β:Type}{f:α→Option β}:∀{l:List α} {ys:List β},l.mapM f=some ys→ys.length=l.length∧∀(i:Nat) x,l[i]?=some x→f x=ys[i]?:=by
 intro l;induction l with
 | nil=>intro ys h;obtain rfl:=aG (show some []=some ys by simpa using h);exact⟨rfl,fun i x hx=>by cases hx⟩
 | cons a l ih =>
   intro ys h;rw[Wn] at h;obtain⟨y,h1,h2⟩:=Option.bind_eq_some_iff.1 h;obtain⟨zs,h3,h4⟩:=Option.bind_eq_some_iff.1 h2;obtain rfl:y::zs=ys:=aG h4;obtain⟨k1,k2⟩:=ih h3;refine⟨by simp[k1],fun i x hx=>?_⟩;cases i with
   | zero=>obtain rfl:=aG hx;exact h1
   | succ i=>exact k2 i x (by simpa using hx)
theorem IY{α β:Type}{R:Nat→α→β→Prop}:∀{ys:List β} {k:Nat},(∀i y,ys[i]?=some y→∃x,R (k+i) x y)→∃xs:List α,xs.length=ys.length∧∀i x y,xs[i]?=some x→ys[i]?=some y→R (k+i) x y:=by
 intro ys;induction ys with
 | nil=>intro k _;exact⟨[],rfl,fun i x y h=>by cases h⟩
 | cons y ys ih =>
   intro k h;obtain⟨x,hx⟩:=h 0 y rfl;obtain⟨xs,h1,h2⟩:=ih (k:=k+1) fun i y hy=>by
    have:=h (i+1) y (by simpa using hy)
    rwa [show k+(i+1)=k+1+i by omega] at this
   refine⟨x::xs,by simp[h1],fun i x' y' hx' hy'=>?_⟩;cases i with
   | zero=>obtain rfl:=aG hx';obtain rfl:=aG hy';exact hx
   | succ i =>
     rw[show k+(i+1)=k+1+i by omega];exact h2 i x' y' (by simpa using hx') (by simpa using hy')
theorem WD{α β:Type}{f:α→Nat}{g:β→Nat}:∀{xs:List α} {ys:List β},xs.length=ys.length→(∀(i:Nat) x y,xs[i]?=some x→ys[i]?=some y→f x≤g y)→N4 f xs≤N4 g ys:=by
 intro xs;induction xs with
 | nil=>intro ys _ _;exact w9 _
 | cons x xs ih =>
   intro ys hl h;cases ys with
   | nil=>cases hl
   | cons y ys =>
     have h1:=h 0 x y rfl rfl;have h2:=ih (ys:=ys) (by simpa using hl) fun i x y hx hy=>h (i+1) x y (by simpa using hx) (by simpa using hy);simp only[N4];omega
section
variable {H:Type} {enc:TypeId×Value→H} {P:Program} {w:World} {held:Bool} {bulk:DataW H→Nat} {all:List (DataW H)→Nat}
theorem WE(hb:Mq bulk all){β:Type}(f:β→DataW H):∀l:List β,all (l.map f)=N4 (fun y=>bulk (f y)) l:=by
 intro l;induction l with
 | nil=>exact hb.none
 | cons y l ih=>rw[PF,hb.cons,ih];rfl
def old(w:World):Nat→Nat→Prop:=fun b _=>b<w.heap.size
theorem IZ{a:Addr}{n:Nat}{cs:List Value}(h:w.cells? 0 a n=some cs):cs.length=n∧∀j,j<n→w.cell? (a.add j)=cs[j]?:=by
 unfold World.cells? at h;rw[bG (w9 _)] at h;obtain⟨h1,h2⟩:=Cy h;refine⟨by simpa using h1,fun j hj=>h2 j j ?_⟩;simp[hj]
theorem S3{b o:Nat}{v:Value}{sp:Option Nat}(h:w.cell? ⟨b,o,sp⟩=some v):b<w.heap.size∧sp=none:=by
 unfold World.cell? at h;split at h
 ·rename_i c t f hg;refine⟨(Array.getElem?_eq_some_iff.1 hg).1,?_⟩;split at h
  ·cases h
  ·rename_i hs;cases sp with
   | none=>rfl
   | some s=>exact absurd rfl hs
 ·cases h
theorem aaj(hb:Mq bulk all):∀{t:Ty},t.C7=true →
  (∀{fuel tid:Nat} {cs:List Value} {d:DataW H} {ps:List MemPlace},Den P t tid→DataW.trod enc P w 0 (fun _=>true) held fuel tid cs=some (d,ps)→∃x:t.den,bt w (old w) t x cs∧t.bulk x≤bulk d) ∧
  (∀{fuel off:Nat} {fs:List Field} {cs:List Value} {xs:List (DataW H×List MemPlace)},oY P t off fs→(fs.mapM fun f=>DataW.trod enc P w 0 (fun _=>true) held fuel f.type ((cs.drop f.offset).take (P.cellsOf f.type)))=some xs →
   cs.length=off+t.size→∃x:t.den,bt w (old w) t x (cs.drop off)∧t.bulk x≤all (xs.map (·.1))):=by
 intro t;induction t with
 | int k =>
   intro hna;refine⟨fun {fuel tid cs d ps} hd h=>?_,fun hd=>by simp[oY,eF] at hd⟩;cases fuel with
   | zero=>cases h
   | succ fuel =>
     simp only[DataW.trod,hd.int] at h;split at h<;>first|(exfalso;simp_all;done)|skip
     rename_i k0 k' n hk;split at h
     ·rename_i hc;obtain⟨rfl,rfl⟩:=ec (aG h);injection hk with hk;injection hk with hk;subst hk
      obtain⟨rfl,hwf⟩:=hc;simp only[Lit.wf,dW,zf] at hwf;exact⟨(n:Int),⟨rfl,hwf.1,hwf.2⟩,hb.lit _⟩
     ·cases h
 | bool =>
   intro hna;refine⟨fun {fuel tid cs d ps} hd h=>?_,fun hd=>by simp[oY,eF] at hd⟩;cases fuel with
   | zero=>cases h
   | succ fuel =>
     simp only[DataW.trod,hd.bool] at h;split at h<;>first|(exfalso;simp_all;done)|skip
     rename_i b _;obtain⟨rfl,rfl⟩:=ec (aG h);exact⟨b,rfl,hb.lit _⟩
 | str =>
   intro hna;refine⟨fun {fuel tid cs d ps} hd h=>?_,fun hd=>by simp[oY,eF] at hd⟩;cases fuel with
   | zero=>cases h
   | succ fuel =>
     simp only[DataW.trod,hd.str] at h;split at h<;>first|(exfalso;simp_all;done)|skip
     rename_i s _;split at h
     ·rename_i hs;obtain⟨rfl,rfl⟩:=ec (aG h);refine⟨s.data.toList,⟨?_,?_⟩,?_⟩
      ·rfl
      ·have:List.length (α:=UInt8) s.data.toList=s.size:=Un;rw[this];exact hs
      ·rw[hb.str];exact mq _
     ·cases h
 | slice e ih =>
   intro hna;have ih:=ih hna;refine⟨fun {fuel tid cs d ps} hd h=>?_,fun hd=>by simp[oY,eF] at hd⟩;obtain⟨eT,h1,h2,h3,h4⟩:=hd.slice;cases fuel with
   | zero=>cases h
   | succ fuel =>
     simp only[DataW.trod,h1] at h;split at h<;>first|(exfalso;simp_all;done)|skip
     ·obtain⟨rfl,rfl⟩:=ec (aG h);exact⟨([]:List e.den),.inl ⟨⟨none,rfl⟩,rfl⟩,hb.nil⟩
     ·rename_i e' a len cap he;injection he with he;injection he with he;subst he
      split at h
      case isFalse=>cases h
      rename_i hc;obtain⟨hc1,hc2,hc3⟩:=hc;obtain⟨elems,g1,g2⟩:=Option.bind_eq_some_iff.1 h;obtain⟨rest,g3,g4⟩:=Option.map_eq_some_iff.1 g2;obtain⟨rfl,rfl⟩:=ec g4;simp only[nk] at g3;obtain⟨k1,k2⟩:=Cy g1;obtain⟨m1,m2⟩:=Cy g3;simp only[PD] at k1 m1;rw[h2.cells] at k2 m2;by_cases hcap:cap=0
      ·subst hcap;obtain rfl:len=0:=by omega
       exact⟨([]:List e.den),.inl ⟨⟨some a,rfl⟩,rfl⟩,by rw[hb.slice];simp[Ty.bulk,N4]⟩
      ·
       have ig:∃y,(w.cells? 0 a e.size).bind (DataW.trod enc P w 0 (fun _=>true) held fuel eT)=some y:=by
        by_cases hlen:len=0
        ·have:=m2 0 0 (PC (by omega));have hlt:0<rest.length:=by omega
         rw[ru hlt] at this;rw[hlen] at this;simp only[uW,OY] at this;exact⟨_,by rw[←this];simp[Addr.add]⟩
        ·have:=k2 0 0 (PC (by omega));have hlt:0<elems.length:=by omega
         rw[ru hlt] at this;simp only[OY] at this;exact⟨_,by rw[←this];simp[Addr.add]⟩
       obtain⟨y,hy⟩:=ig;obtain⟨es,YK,_⟩:=Option.bind_eq_some_iff.1 hy;obtain⟨z1,z2⟩:=IZ YK;have z3:=z2 0 h4;rw[ru (by omega)] at z3;have aak:a.spot=none:=by
        have:a.add 0=a:=by simp[Addr.add]
        rw[this] at z3;obtain⟨blk,off,sp⟩:=a;exact(S3 z3).2
       obtain⟨blk,off,sp⟩:=a;dsimp only at aak;subst aak;obtain⟨xs,x1,x2⟩:=IY (R:=fun i (x:e.den) (y:DataW H×List MemPlace)=>(∃es:List Value,es.length=e.size ∧
         (∀(j:Nat) v,es[j]?=some v→w.cell? ⟨blk,off+i*e.size+j,none⟩=some v∧old w blk (off+i*e.size+j))∧bt w (old w) e x es)∧e.bulk x≤bulk y.1) (ys:=elems) (k:=0) fun i y hi=>by
        have hlt:=(List.getElem?_eq_some_iff.1 hi).1;have:=k2 i i (PC (by omega));rw[hi] at this;obtain⟨es,q1,q2⟩:=Option.bind_eq_some_iff.1 this;rw[addr_add] at q1;obtain⟨q3,q4⟩:=IZ q1;obtain⟨x,r1,r2⟩:=ih.1 (d:=y.1) (ps:=y.2) h2 q2;refine⟨x,⟨es,q3,fun j v hv=>?_,r1⟩,r2⟩;have hj:=(List.getElem?_eq_some_iff.1 hv).1;have:=q4 j (by omega);rw[addr_add,hv] at this;rw[uW];exact⟨this,(S3 this).1⟩
       refine⟨xs,.inr ⟨blk,off,cap,?_,?_,hc3,fun i x hx=>?_⟩,?_⟩
       ·show [Value.slice _ len cap]=[Value.slice _ (List.length (α:=e.den) xs) cap]
        rw[x1,k1]
       ·show List.length (α:=e.den) xs≤cap
        rw[x1,k1];exact hc2
       ·have hx':xs[i]?=some x:=hx;have hlt:=(List.getElem?_eq_some_iff.1 hx').1;obtain⟨y,hy⟩:∃y,elems[i]?=some y:=⟨_,ru (by omega)⟩;have:=(x2 i x y hx' hy).1;rw[uW] at this;exact this
       ·rw[hb.slice,WE hb];have:=WD (f:=e.bulk) (g:=fun y:DataW H×List MemPlace=>bulk y.1) x1 fun i x y hx hy=>(x2 i x y hx hy).2;show N4 e.bulk xs+1≤_
        omega
 | arr n e ih =>
   intro hna;have ih:=ih hna;refine⟨fun {fuel tid cs d ps} hd h=>?_,fun hd=>by simp[oY,eF] at hd⟩;obtain⟨eT,h1,h2,h4⟩:=hd.arr;cases fuel with
   | zero=>cases h
   | succ fuel =>
     simp only[DataW.trod,h1] at h;split at h
     case isFalse=>cases h
     rename_i hc;obtain⟨ys,g1,g2⟩:=Option.map_eq_some_iff.1 h;obtain⟨rfl,rfl⟩:=ec g2;obtain⟨k1,k2⟩:=Cy g1;simp only[PD] at k1;rw[h2.cells] at k2;obtain⟨xs,x1,x2⟩:=IY (R:=fun i (x:e.den) (y:DataW H×List MemPlace)=>bt w (old w) e x ((cs.drop (i*e.size)).take e.size)∧e.bulk x≤bulk y.1) (ys:=ys) (k:=0) fun i y hi=>by
      have hlt:=(List.getElem?_eq_some_iff.1 hi).1;have:=k2 i i (PC (by omega));rw[hi] at this;obtain⟨x,r1,r2⟩:=ih.1 (d:=y.1) (ps:=y.2) h2 this;exact⟨x,by rw[uW];exact r1,r2⟩
     refine⟨xs,⟨?_,?_,fun i x hx=>?_⟩,?_⟩
     ·show List.length (α:=e.den) xs=n
      rw[x1,k1]
     ·rw[hc,hd.cells];rfl
     ·have hx':xs[i]?=some x:=hx;have hlt:=(List.getElem?_eq_some_iff.1 hx').1;obtain⟨y,hy⟩:∃y,ys[i]?=some y:=⟨_,ru (by omega)⟩;have:=(x2 i x y hx' hy).1;rw[uW] at this;exact this
     ·rw[hb.agg,WE hb];have:=WD (f:=e.bulk) (g:=fun y:DataW H×List MemPlace=>bulk y.1) x1 fun i x y hx hy=>(x2 i x y hx hy).2;show N4 e.bulk xs≤_
      omega
 | pair a b jm lG =>
   intro hna;simp only[Ty.C7,dW] at hna;have jm:=jm hna.1;have lG:=lG hna.2;have chain:∀{fuel off:Nat} {fs:List Field} {cs:List Value} {xs:List (DataW H×List MemPlace)},oY P (.pair a b) off fs→(fs.mapM fun f=>DataW.trod enc P w 0 (fun _=>true) held fuel f.type ((cs.drop f.offset).take (P.cellsOf f.type)))=some xs →
     cs.length=off+(Ty.pair a b).size→∃x:(Ty.pair a b).den,bt w (old w) (.pair a b) x (cs.drop off)∧(Ty.pair a b).bulk x≤all (xs.map (·.1)):=by
    intro fuel off fs cs xs hd h hl;obtain⟨f,r,rfl,f1,_,f2,f3,f4⟩:=hd.cons;rw[Wn] at h;obtain⟨y,g1,g2⟩:=Option.bind_eq_some_iff.1 h;obtain⟨ys,g3,g4⟩:=Option.bind_eq_some_iff.1 g2;obtain rfl:y::ys=xs:=aG g4;rw[f1,f2.cells] at g1;obtain⟨x1,p1,p2⟩:=jm.1 (d:=y.1) (ps:=y.2) f2 g1;obtain⟨x2,q1,q2⟩:=lG.2 f4 g3 (by simp only[Ty.size] at hl;omega);refine⟨(x1,x2),⟨_,_,?_,p1,q1⟩,?_⟩
    ·rw[←ye,RG]
    ·rw[PF,hb.cons];show a.bulk x1+b.bulk x2≤_
     omega
   refine⟨fun {fuel tid cs d ps} hd h=>?_,chain⟩;obtain⟨fs,h1,h2,_⟩:=hd.pair;cases fuel with
   | zero=>cases h
   | succ fuel =>
     simp only[DataW.trod,h1] at h;split at h
     case isFalse=>cases h
     rename_i hc;obtain⟨ys,g1,g2⟩:=Option.map_eq_some_iff.1 h;obtain⟨rfl,rfl⟩:=ec g2;rw[hd.cells] at hc;obtain⟨x,r1,r2⟩:=chain h2 g1 (by rw[hc,uW]);exact⟨x,by simpa using r1,by rw[hb.agg];omega⟩
 | alt u a r jm ihr=>intro hna;cases hna
 | AU=>intro hna;cases hna
 | unit =>
   intro hna;refine⟨fun hd=>by simp[Den,eF] at hd,fun {fuel off fs cs xs} hd h hl=>?_⟩;exact⟨(),by show cs.drop off=[];rw[List.drop_eq_nil_iff];simp[Ty.size] at hl;omega,w9 _⟩
end
end Go.Ge
namespace Go.Ge
open RowKit ChangeShapes WideShapes
def Vy(P:Program):Ty→List TypeId→Prop
 | .pair t r,tid::ts=>Den P t tid∧Vy P r ts
 | .unit,[]=>True
 | _,_=>False
section
variable {H:Type} {enc:TypeId×Value→H} {P:Program} {w:World} {held:Bool} {bulk:DataW H→Nat} {all:List (DataW H)→Nat}
theorem S4{t:Ty}{tid base:Nat}{v:Value}{x:t.den}(hna:t.C7=true)(hd:Den P t tid)(hv:Value.okWide P w .any base tid v)(hr:bt w (old w) t x v.cells.toList):v=bR t v.cells.toList:=by
 cases t with
 | int k=>obtain⟨n,rfl⟩:=okWide_int hd.int hv;rfl
 | bool=>obtain⟨b,rfl⟩:=okWide_bool hd.bool hv;rfl
 | str=>obtain⟨s,rfl⟩:=okWide_string hd.str hv;rfl
 | slice e=>obtain⟨eT,h1,_⟩:=hd.slice;obtain⟨a,len,cap,rfl⟩:=okWide_slice h1 hv;rfl
 | pair a b=>obtain⟨fs,h1,_⟩:=hd.pair;obtain⟨cs,rfl,_⟩:=okWide_struct h1 hv;simp[bR,Ty.isAgg,Value.cells]
 | arr n e =>
   obtain⟨eT,h1,_⟩:=hd.arr;unfold Value.okWide at hv;rw[h1] at hv;obtain⟨cs,rfl,_⟩:=hv;simp[bR,Ty.isAgg,Value.cells]
 | unit=>simp[Den,eF] at hd
 | alt u a r=>cases hna
 | AU=>cases hna
theorem aal(hb:Mq bulk all){base:Nat}:∀{A:Ty} {ts:List TypeId} {vs:List Value} {ds:List (DataW H)} {ps:List MemPlace},A.C7=true→Vy P A ts→DataW.TrodAll enc P w 0 (fun _=>true) held ts vs ds ps →
  (∀(j:Nat) t v,ts[j]?=some t→vs[j]?=some v→Value.okWide P w .any base t v)→∃x:A.den,gX w (old w) A x vs∧A.bulk x≤all ds:=by
 intro A;induction A with
 | pair t r Lf ihr =>
   intro ts vs ds ps hna hd h hval;simp only[Ty.C7,dW] at hna;cases ts with
   | nil=>exact hd.elim
   | cons tid ts =>
     obtain⟨h1,h2⟩:=hd;obtain⟨v,vs',d,ds',p,q,rfl,rfl,rfl,⟨fuel,hf⟩,hs⟩:=trodAll_cons h;obtain⟨x,r1,r2⟩:=(aaj hb hna.1).1 h1 hf;obtain⟨y,s1,s2⟩:=ihr hna.2 h2 hs fun j t v hj hv=>hval (j+1) t v (by simpa using hj) (by simpa using hv);refine⟨(x,y),⟨v.cells.toList,vs',?_,r1,s1⟩,?_⟩
     ·rw[←S4 hna.1 h1 (hval 0 tid v rfl rfl) r1]
     ·rw[hb.cons];show t.bulk x+r.bulk y≤_
      omega
 | unit =>
   intro ts vs ds ps hna hd h hval;cases ts with
   | nil =>
     obtain⟨rfl,rfl,rfl⟩:=trodAll_nil h;exact⟨(),rfl,w9 _⟩
   | cons tid ts=>exact hd.elim
 | _=>intro ts vs ds ps hna hd;exact hd.elim
theorem N5(hl:laidOutB P=true){W W':World}{sp:Nat→Bool}:∀{ts:List TypeId} {vs:List Value} {ds:List (DataW H)} {ps:List MemPlace},(∀t∈ts,P.readableRec t=true∧t<P.types.size) →
  DataW.TrodAll enc P W 0 (fun _=>true) true ts vs ds ps→(∀p∈ps,W.sameAt W' p)→(∀p∈ps,sp p.block=true)→DataW.TrodAll enc P W' 0 sp true ts vs ds ps:=by
 intro ts;induction ts with
 | nil=>intro vs ds ps _ h _ _;obtain⟨rfl,rfl,rfl⟩:=trodAll_nil h;rfl
 | cons t ts ih =>
   intro vs ds ps hr h hsame hsp;obtain⟨v,vs',d,ds',p,q,rfl,rfl,rfl,h1,h2⟩:=trodAll_cons h;refine⟨p,q,WideElems.Trod_stays hl (hr t (sU ..)).1 (hr t (sU ..)).2 h1 (fun x hx=>hsame x (GZ _ hx)) (fun x hx=>hsp x (GZ _ hx)),?_,rfl⟩;exact ih (fun t ht=>hr t (vR _ ht)) h2 (fun x hx=>hsame x (K8 _ hx)) (fun x hx=>hsp x (K8 _ hx))
def Ty.ok:(t:Ty)→t.den→Prop
 | .int k,n=>k.min≤(show Int from n)∧(show Int from n)≤k.max
 | .bool,_=>True
 | .str,s=>List.length (α:=UInt8) s≤maxLen
 | .slice e,l=>∀(i:Nat) (x:e.den),(show List e.den from l)[i]?=some x→e.ok x
 | .arr n e,l=>List.length (α:=e.den) l=n∧∀(i:Nat) (x:e.den),(show List e.den from l)[i]?=some x→e.ok x
 | .pair a b,x=>a.ok x.1∧b.ok x.2
 | .unit,_=>True
 | .alt _ _ _,_=>True
 | .AU,_=>True
theorem bt.ok{I:Nat→Nat→Prop}:∀{t:Ty} {x:t.den} {cs:List Value},bt w I t x cs→t.ok x:=by
 intro t;induction t with
 | int k=>intro x cs h;exact h.2
 | bool=>intro x cs h;trivial
 | str=>intro x cs h;exact h.2
 | slice e ih =>
   intro x cs h i y hy;rcases h with ⟨_,h⟩|⟨blk,off,cap,h1,h2,h3,h4⟩
   ·rw[show(show List e.den from x)=[] from h] at hy;cases hy
   ·obtain⟨es,_,_,hr⟩:=h4 i y hy;exact ih hr
 | arr n e ih=>intro x cs h;exact⟨h.1,fun i y hy=>ih (h.2.2 i y hy)⟩
 | pair a b jm lG=>intro x cs h;obtain⟨c1,c2,_,h1,h2⟩:=h;exact⟨jm h1,lG h2⟩
 | unit=>intro x cs h;trivial
 | alt u a r=>intro x cs h;trivial
 | AU=>intro x cs h;trivial
theorem gX.ok{I:Nat→Nat→Prop}:∀{A:Ty} {x:A.den} {xs:List Value},gX w I A x xs→A.ok x:=by
 intro A;induction A with
 | pair t r Lf ihr=>intro x xs h;obtain⟨cs,rest,_,h1,h2⟩:=h;exact⟨h1.ok,ihr h2⟩
 | unit=>intro x xs h;trivial
 | _=>intro x xs h;exact h.elim
theorem XQ(hb:Mq bulk all)(hl:laidOutB P=true){fid tb:Nat}{fn:Func}{s:ChangeSpec}{A:Ty}{spec:A.den→Option (Ty.pair .bool .unit).den}{apart fresh handsOn:Bool}
  (vi:Vy P A fn.params.toList) (hread:∀t∈fn.params.toList,P.readableRec t=true∧t<P.types.size) (hres:fn.resultTypes=#[tb]) (htb:P.underlying tb=some .bool) (hsv:s.vars=[])
  (hs:∀ds:List (DataW H),ds.length=fn.params.toList.length→s.fn H ds={ results:=[.lit (.bool true)],args:=ds }) {G:fo} (hh:Holds P G fid ⟨A,.pair .bool .unit,spec⟩)
  {W:World} (hG:He G W) {base:Nat} {args:Array Value} {ds gs:List (DataW H)} {before:List MemPlace} (hval:∀(j:Nat) t v,fn.params[j]?=some t→args[j]?=some v→Value.okWide P W .any base t v)
  (hW:DataW.Whole enc P fn.params.toList s.vars apart W args.toList ds gs before) (hspec:∀x:A.den,A.ok x→A.bulk x≤all (ds++gs)→spec x=some (true,())) (hna:A.C7=true:=by rfl) :
  Calls P fid args W fun e W'=>∃v,e=.returned v∧s.post enc P fn apart fresh handsOn false W args v W':=by
 have hlt:=hW.lt;have hW':=hW;obtain⟨p,q,hA,hV,rfl,hfz,hnd⟩:=hW;rw[hsv] at hV;obtain⟨rfl,rfl⟩:=trodVars_none hV;simp only[G0] at hW' hlt hspec;obtain⟨x,x1,x2⟩:=aal hb (base:=base) hna vi hA fun j t v hj hv=>hval j t v (by simpa using hj) (by simpa using hv);have hlen:∀{ts:List TypeId} {vs:List Value} {ds:List (DataW H)} {ps:List MemPlace},DataW.TrodAll enc P W 0 (fun _=>true) true ts vs ds ps→ds.length=ts.length:=by
  intro ts;induction ts with
  | nil=>intro vs ds ps h;obtain⟨_,rfl,_⟩:=trodAll_nil h;rfl
  | cons t ts ih=>intro vs ds ps h;obtain⟨v,vs',d,ds',p,q,rfl,rfl,rfl,h1,h2⟩:=trodAll_cons h;simp[ih h2]
 have hfn:=hs ds (hlen hA);refine(hh.calls (old W) W args x (true,()) (fun b o h=>h) hG x1 (hspec x x1.ok x2)).mono fun e W' hw=>?_;obtain⟨v,I',rfl,b1,_,_,_,hr⟩:=hw;obtain⟨cs,rfl,hv⟩:=hr;obtain rfl:v=.bool true:=by simpa [bR,Ty.isAgg] using hv
 refine⟨_,rfl,ds,[],p,[],p,[],hW',?_,?_,?_,b1.frame _,fun h=>by cases h⟩
 ·rw[G0,hfn,hres];exact trodAll_mk1 (shut_bool htb true)
 ·rw[G0,hfn];exact N5 hl hread hA (fun x hx=>b1.same (hlt x hx)) (fun x hx=>by simpa using hlt x hx)
 ·rw[G0,hfn,hsv];rfl
end
end Go.Ge
namespace Go.Ge
variable [Lp]
open RowKit
def acB(cx:Ctx)(bf:List Nat)(rs:List ResultVar)(R:Ty)(c:Code)(σ:St):Option R.den :=
 ((ic cx 0 bf A8 c [] σ).bind fun r=>bif Nat.beq r.1 1 then((results1 cx r.2 rs).bind fun v=>match gT (ku r.2.mem) R (EU R v) with
  | some y=>.ret y
  | none=>.fail) else .fail).run
section
variable {P:Program} {cx:Ctx} {bf:List Nat}
theorem Fy{G:fo}:wk P G A8:=fun B γ σ σ' w f vals xs v _ _ _ h=>by cases h
theorem zx:∀f vals σ v σ',(A8 f vals σ).run=some (v,σ')→aY σ σ':=fun f vals σ v σ' h=>by cases h
def Ends(w:World)(I:Nat→Nat→Prop)(R:Ty)(y:R.den)(e:Ending)(w':World):Prop :=
 ∃v I',e=.returned v∧Below w.heap.size w w'∧(∀b o,I b o→I' b o)∧(∀b o,I' b o→b<w'.heap.size)∧(∀b o,I' b o→¬I b o→w.heap.size≤b)∧kV w' I' R y v
theorem Ph{Q:Exit→Act→World→Prop}(sw:P.follows .mixedOrders=true)(hc:eW P cx){G:fo}(dB:oJ P G cx){fn:Func}{R:Ty}{y:R.den}{c:Code}{σ:St}{γ:Gh}{a:Act}{w0 w:World}{N:Nat}{I:Nat→Nat→Prop}
  (hd:∀t∈writes c,t<N) (hf:acB cx bf fn.results.toList R c σ=some y) (h:cF (ld G w0.heap.size) N γ σ a w) (hx:Ext (ld G w0.heap.size) ⟨I,fun _=>none⟩ (fun _=>none) w0 γ σ.mem w)
  (hQ:∀a w,bodyPost P fn (Ends w0 I R y) .ret a w→Q .ret a w):c.wp P Q a w:=by
 unfold acB at hf;obtain⟨r,h1,h2⟩:=bind_some hf;obtain⟨e,σ'⟩:=r;obtain⟨h3,h4⟩:=aB h2;obtain⟨v,h5,h6⟩:=bind_some h4;have hl:gT (ku σ'.mem) R (EU R v)=some y:=by
  split at h6
  ·rename_i y' hy';obtain rfl:=aG h6;exact hy'
  ·cases h6
 refine sy sw hc dB Fy zx c hd h1 h fun γ' a' w' s x f=>?_;obtain⟨val,r1,r2⟩:=xz (fn:=fn) hc s h5;have x1:=hx.trans x;have key:Ends w0 I R y (.returned val) w':=by
  refine⟨val,fun b o=>γ'.I b o∨(w0.heap.size≤b∧b<w'.heap.size),rfl,x1.below.below,fun b o hi=>.inl (x1.I b o hi),fun b o hi=>?_,fun b o hi hn=>?_,?_⟩
  ·rcases hi with hi|hi
   ·exact s.ok.tN b o hi
   ·exact hi.2
  ·rcases hi with hi|hi
   ·exact pz.1 ((x1.pE b o hi).resolve_left hn)
   ·exact hi.1
  ·exact Pf (σ:=ku σ'.mem) s.ok (fun b o hi=>.inl hi) (fun b o h1 h2=>.inr ⟨pz.1 h1,h2⟩) r2 hl
 have:a'.defers=[]∧∃v1,(results fn a'.tmps).run P w'=.ok v1 w'∧Ends w0 I R y (.returned v1) w':=⟨s.defers,val,r1,key⟩;have h3':e=1:=fu h3;subst h3';exact hQ _ _ this
theorem wu(sw:P.follows .mixedOrders=true)(hc:eW P cx){G:fo}(dB:oJ P G cx){f tid id1:Nat}{fn:Func}{e:Ty}{R0 R2 R3:Code}{o0 o1:Oper}{ty2:TypeId}{s0:List e.den→St}
  (hP:P.funcs[f]?=some fn) (hname:(fn.name == "runtime.NumGoroutine")=false)
  (hbody:fn.body=some (.seq R0 (.seq (.seq (.region id1 #[o0,o1] false) (.cond (.tmp 4) (.seq R2 .ret) .skip)) (.seq R3 .ret))))
  (hT:find cx.T tid=some (.slice e)) (hN:4<fn.ntmps) (hd:∀t∈writes R0++(writes R2++writes R3),t<fn.ntmps)
  (g0:o0.guard=none) (d0:o0.dst=some 3) (p0:o0.op=.move (.tmp 0)) (g1:o1.guard=none) (d1:o1.dst=some 4) (p1:o1.op=.binOp .eql tid (.tmp 3) (.const (.slice none 0 0)) ty2)
  (h0:∀l,(ic cx 0 bf A8 R0 [] (u7 (fun _=>none) [.data (.slice e) l])).run=some (0,s0 l)) (hs0:∀l,(s0 l).slots 0=.data (.slice e) l) (hs3:∀l,(s0 l).slots 3=.undef) (hs4:∀l,(s0 l).slots 4=.undef)
  (hA:∀l,acB cx bf fn.results.toList (.pair (.slice e) .unit) (.seq R2 .ret) (s0 l)=some (([]:List e.den),()))
  (hB:∀l:List e.den,fits (len l)=true→acB cx bf fn.results.toList (.pair (.slice e) .unit) (.seq R3 .ret) (s0 l)=some (l,())) :
  Holds P G f ⟨.pair (.slice e) .unit,.pair (.slice e) .unit,fun x=>bif fits (len (α:=e.den) x.1) then some x else none⟩ where
 body:=⟨fn,_,hP,hname,hbody⟩
 calls:=by
  intro I w args x y hI hG hargs hspec;obtain⟨l,u⟩:=x;change List e.den at l;have hfit:fits (len l)=true∧y=(l,()):=by
   change (bif fits (len l) then some ((l,u):(Ty.pair (.slice e) .unit).den) else none)=some y at hspec;cases hq:fits (len l) with
   | true=>rw[hq] at hspec;exact⟨rfl,(aG hspec).symm⟩
   | false=>rw[hq] at hspec;cases hspec
  obtain⟨hfit,rfl⟩:=hfit;obtain⟨cs,rest,hal,Bc,oK⟩:=hargs;obtain rfl:rest=[]:=oK;obtain⟨eT,aep,_⟩:=(hc.T _ _ hT).slice;have hm:bp (ld G w.heap.size) ⟨I,fun _=>none⟩ (fun _=>none) w :=
   { aH:=fun b Q g=>by
      obtain⟨o,h1,h2⟩:=hG b Q g;exact⟨fun hb=>by have:=pz.1 hb;have:=(Array.getElem?_eq_some_iff.1 h1).1;omega,o,h1,h2⟩
     base:=mq _
     boxes:=fun b bx hb=>by cases hb
     inj:=fun b c blk k k' hb=>absurd rfl hb
     fresh:=fun b blk k hb=>absurd rfl hb
     tN:=hI
     sep:=fun b bx blk k off hb=>by cases hb }
  have hv:kW ⟨I,fun _=>none⟩ (fun _=>none) w [.data (.slice e) l] args.toList:=by
   rw[hal];refine⟨rfl,fun i v x hv hx=>?_⟩;cases i with
   | zero=>obtain rfl:=aG hv;obtain rfl:=aG hx;exact⟨cs,Bc,rfl⟩
   | succ i=>cases hv
  show Calls P f args w (Ends w I (.pair (.slice e) .unit) (l,()))
  refine calls_of_wp hP hbody (wp_seq ?_);have hsz:args.size=1:=by have:=congrArg List.length hal;simpa using this
  have hNN:args.size+(fn.ntmps-args.size)=fn.ntmps:=by omega
  have Vx:=Hy hm hv fn.ntmps;rw[hNN] at Vx;refine sy sw hc dB Fy zx R0 (fun t ht=>hd t (GZ _ ht)) (h0 l) Vx fun ij a1 w1 s1 x1 f1=>?_;refine wp_seq (wp_seq (wp_region_list ?_));have hr0:=s1.slots 0;rw[hs0] at hr0;obtain⟨UA,hc1,hv1⟩:=dA.1 hr0;have YH:∃base n cap,a1.tmps.getD 0 Go.undef=.slice base n cap∧(base=none→l=[]):=by
   rcases hc1 with ⟨⟨base,k1⟩,k2⟩|⟨blk,off,cap,k1,_⟩
   ·exact⟨base,0,0,by rw[hv1,k1];rfl,fun _=>k2⟩
   ·exact⟨_,_,_,by rw[hv1,k1];rfl,fun h=>by cases h⟩
  obtain⟨base,n,cap,hval,hbase⟩:=YH;have Fc:∀{d:Nat},(s0 l).slots d=.undef→(s0 l).put d .undef=s0 l:=by
   intro d hd0;unfold St.put;generalize s0 l=q at hd0⊢;obtain⟨sl,mm⟩:=q
   congr 1
   funext t;cases hb:Nat.beq t d with
   | true=>obtain rfl:=fu hb;exact hd0.symm
   | false=>rfl
  have s2:cF (ld G w.heap.size) fn.ntmps ij (s0 l) (a1.put (some 3) (.slice base n cap)) w1:=by
   have:=s1.ve (d:=some 3) (v:=.undef) (val:=.slice base n cap) (fun k hk=>by cases hk;omega) ⟨_,rfl⟩;rw[show(s0 l).aP (some 3) .undef=s0 l from Fc (hs3 l)] at this;exact this
  have s3:cF (ld G w.heap.size) fn.ntmps ij (s0 l) ((a1.put (some 3) (.slice base n cap)).put (some 4) (.bool base.isNone)) w1:=by
   have:=s2.ve (d:=some 4) (v:=.undef) (val:=.bool base.isNone) (fun k hk=>by cases hk;omega) ⟨_,rfl⟩;rw[show(s0 l).aP (some 4) .undef=s0 l from Fc (hs4 l)] at this;exact this
  have e3:(a1.put (some 3) (.slice base n cap)).eval (.tmp 3)=.slice base n cap:=by
   simp[Act.eval,Act.put,s1.size];omega
  have e4:((a1.put (some 3) (.slice base n cap)).put (some 4) (.bool base.isNone)).eval (.tmp 4)=.bool base.isNone:=by
   have:=s2.size;simp only[Act.eval];generalize a1.put (some 3) (.slice base n cap)=a2 at this⊢;simp[Act.put,this,hN]
  show wpList P #[o0,o1] _ [o0,o1] a1 w1
  unfold wpList;rw[show Region.wanted o0 (yielded #[o0,o1] a1.tmps)=true by unfold Region.wanted;rw[g0]];simp only[nk];refine .inl ?_;unfold Oper.wp;have ex0:(execOp a1.eval o0).run P w1=.ok (.value (.slice base n cap)) w1:=by
   have:a1.eval (.tmp 0)=.slice base n cap:=hval;simp only[execOp,p0,this];rfl
  rw[ex0];show wpList P #[o0,o1] _ [o1] (a1.put o0.dst (.slice base n cap)) w1
  rw[d0];unfold wpList;rw[show Region.wanted o1 (yielded #[o0,o1] (a1.put (some 3) (.slice base n cap)).tmps)=true by unfold Region.wanted;rw[g1]];simp only[nk];refine .inl ?_;unfold Oper.wp;have ex1:(execOp (a1.put (some 3) (.slice base n cap)).eval o1).run P w1=.ok (.value (.bool base.isNone)) w1:=by
   have aeq:(a1.put (some 3) (.slice base n cap)).eval (.const (.slice none 0 0))=.slice none 0 0:=rfl;have hg:(eqGuard .eql tid (.tmp 3) (.const (.slice none 0 0)) (.slice base n cap) (.slice none 0 0)).run P w1=.ok () w1:=by simp[eqGuard]
   simp only[execOp,p1,e3,aeq,Sem.run_bind,hg,_root_.Go.run_eql_slice_nil w1 tid eT base n cap aep,Result.andThen_ok,Sem.run_pure]
  rw[ex1];simp only[Oper.upon];rw[d1];refine wpList_nil ?_;have hmem:∀{t},t∈writes R2++writes R3→t∈writes R0++(writes R2++writes R3):=fun h=>K8 _ h;refine wp_cond_split (t:=base.isNone) e4 (fun hn=>?_) (fun hn=>?_)
  ·have hl:l=[]:=hbase (by simpa using hn);have:=hA l;rw[←hl] at this;exact Ph (w0:=w) (I:=I) (R:=.pair (.slice e) .unit) (N:=fn.ntmps) sw hc dB (fun t ht=>hd t (hmem (GZ _ (by simpa [writes] using ht)))) this s3 x1 fun a w hq=>hq
  ·exact wp_skip (Ph (w0:=w) (I:=I) (R:=.pair (.slice e) .unit) (N:=fn.ntmps) sw hc dB (fun t ht=>hd t (hmem (K8 _ (by simpa [writes] using ht)))) (hB l hfit) s3 x1 fun a w hq=>hq)
def acC(cx:Ctx)(bf:List Nat)(rs:List ResultVar)(e:Ty)(c:Code)(σ:St):Option (List e.den) :=
 ((ic cx 0 bf A8 c [] σ).bind fun r=>bif Nat.beq r.1 1 then((results1 cx r.2 rs).bind fun v=>match zk e r.2 v with
  | some x=>.ret x.2.2.2
  | none=>.fail) else .fail).run
def WG(w:World)(I:Nat→Nat→Prop)(e:Ty)(l:List e.den)(q:Ending)(w':World):Prop :=
 ∃v I' L,q=.returned v∧jZ w I (fun _=>False) w' I'∧wg w' I' e l L v∧∀blk c,L=some (blk,c)→w.heap.size≤blk
theorem Mr{Q:Exit→Act→World→Prop}(sw:P.follows .mixedOrders=true)(hc:eW P cx){G:fo}(dB:oJ P G cx){fn:Func}{e:Ty}{l:List e.den}{c:Code}{σ:St}{γ:Gh}{a:Act}{w0 w:World}{N:Nat}{I:Nat→Nat→Prop}
  (hd:∀t∈writes c,t<N) (hf:acC cx bf fn.results.toList e c σ=some l) (h:cF (ld G w0.heap.size) N γ σ a w) (hx:Ext (ld G w0.heap.size) ⟨I,fun _=>none⟩ (fun _=>none) w0 γ σ.mem w)
  (hQ:∀a w,bodyPost P fn (WG w0 I e l) .ret a w→Q .ret a w):c.wp P Q a w:=by
 unfold acC at hf;obtain⟨r,h1,h2⟩:=bind_some hf;obtain⟨x,σ'⟩:=r;obtain⟨h3,h4⟩:=aB h2;obtain⟨v,h5,h6⟩:=bind_some h4;split at h6
 case h_2=>cases h6
 rename_i o ho;obtain⟨b,aA,bx,l0⟩:=o;obtain rfl:=aG h6;obtain⟨hb,bh,bu,hlk,hro,gL,_⟩:=su ho;refine sy sw hc dB Fy zx c hd h1 h fun γ' a' w' s x f=>?_;obtain⟨val,r1,r2⟩:=xz (fn:=fn) hc s h5;have x1:=hx.trans x;obtain⟨hown,he⟩:=O6 (σ:=σ') s.ok ho r2;have key:WG w0 I e l0 (.returned val) w':=by
  refine⟨val,γ'.I,γ'.loc b,rfl,⟨⟨x1.below.os,x1.below.tape,x1.below.output,x1.below.size,fun k hk=>x1.below.block k hk⟩,x1.I,s.ok.tN,fun b o hi hn=>pz.1 ((x1.pE b o hi).resolve_left hn)⟩,hown,fun blk c hl=>?_⟩;exact pz.1 (s.ok.fresh b blk c (by rw[hb];simp) hl).1
 have:a'.defers=[]∧∃v1,(results fn a'.tmps).run P w'=.ok v1 w'∧WG w0 I e l0 (.returned v1) w':=⟨s.defers,val,r1,key⟩;have h3':_=1:=fu h3;dsimp only at h3';subst h3';exact hQ _ _ this
theorem yE(sw:P.follows .mixedOrders=true)(hc:eW P cx)(dB:oJ P v7 cx){f tid id1:Nat}{fn:Func}{e:Ty}{R0 R2 R3:Code}{o0 o1:Oper}{ty2:TypeId}{s0:List e.den→St}
 (hP:P.funcs[f]?=some fn) (hname:(fn.name == "runtime.NumGoroutine")=false)
 (hbody:fn.body=some (.seq R0 (.seq (.seq (.region id1 #[o0,o1] false) (.cond (.tmp 4) (.seq R2 .ret) .skip)) (.seq R3 .ret))))
 (hT:find cx.T tid=some (.slice e)) (hN:4<fn.ntmps) (hd:∀t∈writes R0++(writes R2++writes R3),t<fn.ntmps)
 (g0:o0.guard=none) (d0:o0.dst=some 3) (p0:o0.op=.move (.tmp 0)) (g1:o1.guard=none) (d1:o1.dst=some 4) (p1:o1.op=.binOp .eql tid (.tmp 3) (.const (.slice none 0 0)) ty2)
 (h0:∀l,(ic cx 0 bf A8 R0 [] (u7 (fun _=>none) [.data (.slice e) l])).run=some (0,s0 l)) (hs0:∀l,(s0 l).slots 0=.data (.slice e) l) (hs3:∀l,(s0 l).slots 3=.undef) (hs4:∀l,(s0 l).slots 4=.undef)
 (hA:∀l,acC cx bf fn.results.toList e (.seq R2 .ret) (s0 l)=some [])
 (hB:∀l:List e.den,fits (len l)=true→acC cx bf fn.results.toList e (.seq R3 .ret) (s0 l)=some l) :
 gz P f (.clone e):=by
 refine⟨⟨fn,_,hP,hname,hbody⟩,fun I w args l hI hargs hfit=>?_⟩;obtain⟨cs,rest,hal,Bc,oK⟩:=hargs;obtain rfl:rest=[]:=oK;obtain⟨eT,aep,_⟩:=(hc.T _ _ hT).slice;have hm:bp (ld v7 w.heap.size) ⟨I,fun _=>none⟩ (fun _=>none) w :=
  { aH:=fun b Q g=>g.elim
    base:=mq _
    boxes:=fun b bx hb=>by cases hb
    inj:=fun b c blk k k' hb=>absurd rfl hb
    fresh:=fun b blk k hb=>absurd rfl hb
    tN:=hI
    sep:=fun b bx blk k off hb=>by cases hb }
 have hv:kW ⟨I,fun _=>none⟩ (fun _=>none) w [.data (.slice e) l] args.toList:=by
  rw[hal];refine⟨rfl,fun i v x hv hx=>?_⟩;cases i with
  | zero=>obtain rfl:=aG hv;obtain rfl:=aG hx;exact⟨cs,Bc,rfl⟩
  | succ i=>cases hv
 show Calls P f args w (WG w I e l)
 refine calls_of_wp hP hbody (wp_seq ?_);have hsz:args.size=1:=by have:=congrArg List.length hal;simpa using this
 have hNN:args.size+(fn.ntmps-args.size)=fn.ntmps:=by omega
 have Vx:=Hy hm hv fn.ntmps;rw[hNN] at Vx;refine sy sw hc dB Fy zx R0 (fun t ht=>hd t (GZ _ ht)) (h0 l) Vx fun ij a1 w1 s1 x1 f1=>?_;refine wp_seq (wp_seq (wp_region_list ?_));have hr0:=s1.slots 0;rw[hs0] at hr0;obtain⟨UA,hc1,hv1⟩:=dA.1 hr0;have YH:∃base n cap,a1.tmps.getD 0 Go.undef=.slice base n cap∧(base=none→l=[]):=by
  rcases hc1 with ⟨⟨base,k1⟩,k2⟩|⟨blk,off,cap,k1,_⟩
  ·exact⟨base,0,0,by rw[hv1,k1];rfl,fun _=>k2⟩
  ·exact⟨_,_,_,by rw[hv1,k1];rfl,fun h=>by cases h⟩
 obtain⟨base,n,cap,hval,hbase⟩:=YH;have Fc:∀{d:Nat},(s0 l).slots d=.undef→(s0 l).put d .undef=s0 l:=by
  intro d hd0;unfold St.put;generalize s0 l=q at hd0⊢;obtain⟨sl,mm⟩:=q
  congr 1
  funext t;cases hb:Nat.beq t d with
  | true=>obtain rfl:=fu hb;exact hd0.symm
  | false=>rfl
 have s2:cF (ld v7 w.heap.size) fn.ntmps ij (s0 l) (a1.put (some 3) (.slice base n cap)) w1:=by
  have:=s1.ve (d:=some 3) (v:=.undef) (val:=.slice base n cap) (fun k hk=>by cases hk;omega) ⟨_,rfl⟩;rw[show(s0 l).aP (some 3) .undef=s0 l from Fc (hs3 l)] at this;exact this
 have s3:cF (ld v7 w.heap.size) fn.ntmps ij (s0 l) ((a1.put (some 3) (.slice base n cap)).put (some 4) (.bool base.isNone)) w1:=by
  have:=s2.ve (d:=some 4) (v:=.undef) (val:=.bool base.isNone) (fun k hk=>by cases hk;omega) ⟨_,rfl⟩;rw[show(s0 l).aP (some 4) .undef=s0 l from Fc (hs4 l)] at this;exact this
 have e3:(a1.put (some 3) (.slice base n cap)).eval (.tmp 3)=.slice base n cap:=by
  simp[Act.eval,Act.put,s1.size];omega
 have e4:((a1.put (some 3) (.slice base n cap)).put (some 4) (.bool base.isNone)).eval (.tmp 4)=.bool base.isNone:=by
  have:=s2.size;simp only[Act.eval];generalize a1.put (some 3) (.slice base n cap)=a2 at this⊢;simp[Act.put,this,hN]
 show wpList P #[o0,o1] _ [o0,o1] a1 w1
 unfold wpList;rw[show Region.wanted o0 (yielded #[o0,o1] a1.tmps)=true by unfold Region.wanted;rw[g0]];simp only[nk];refine .inl ?_;unfold Oper.wp;have ex0:(execOp a1.eval o0).run P w1=.ok (.value (.slice base n cap)) w1:=by
  have:a1.eval (.tmp 0)=.slice base n cap:=hval;simp only[execOp,p0,this];rfl
 rw[ex0];show wpList P #[o0,o1] _ [o1] (a1.put o0.dst (.slice base n cap)) w1
 rw[d0];unfold wpList;rw[show Region.wanted o1 (yielded #[o0,o1] (a1.put (some 3) (.slice base n cap)).tmps)=true by unfold Region.wanted;rw[g1]];simp only[nk];refine .inl ?_;unfold Oper.wp;have ex1:(execOp (a1.put (some 3) (.slice base n cap)).eval o1).run P w1=.ok (.value (.bool base.isNone)) w1:=by
  have aeq:(a1.put (some 3) (.slice base n cap)).eval (.const (.slice none 0 0))=.slice none 0 0:=rfl;have hg:(eqGuard .eql tid (.tmp 3) (.const (.slice none 0 0)) (.slice base n cap) (.slice none 0 0)).run P w1=.ok () w1:=by simp[eqGuard]
  simp only[execOp,p1,e3,aeq,Sem.run_bind,hg,_root_.Go.run_eql_slice_nil w1 tid eT base n cap aep,Result.andThen_ok,Sem.run_pure]
 rw[ex1];simp only[Oper.upon];rw[d1];refine wpList_nil ?_;have hmem:∀{t},t∈writes R2++writes R3→t∈writes R0++(writes R2++writes R3):=fun h=>K8 _ h;refine wp_cond_split (t:=base.isNone) e4 (fun hn=>?_) (fun hn=>?_)
 ·have hl:l=[]:=hbase (by simpa using hn);have:=hA l;rw[←hl] at this;exact Mr (w0:=w) (I:=I) (N:=fn.ntmps) sw hc dB (fun t ht=>hd t (hmem (GZ _ (by simpa [writes] using ht)))) this s3 x1 fun a w hq=>hq
 ·exact wp_skip (Mr (w0:=w) (I:=I) (N:=fn.ntmps) sw hc dB (fun t ht=>hd t (hmem (K8 _ (by simpa [writes] using ht)))) (hB l hfit) s3 x1 fun a w hq=>hq)
end
end Go.Ge
namespace Go.Ge
variable [Lp]
theorem dw{S R:Type}{f:S→Option (S⊕R)}{r:R}:∀(k:Nat) (st:Nat→S),(∀i,i<k→f (st i)=some (.inl (st (i+1))))→f (st k)=some (.inr r)→Loop f (st 0)=some r:=by
 intro k;induction k with
 | zero=>intro st _ h;rw[jo,h];rfl
 | succ k ih =>
   intro st h1 h2;rw[jo,h1 0 (by omega)];exact ih (fun i=>st (i+1)) (fun i hi=>h1 (i+1) (by omega)) h2
theorem cG{i:Nat}(h:i<4611686018427387904):aD .i64 (i:Int) 1=((i+1:Nat):Int):=by
 unfold aD;simp[IntKind.wrap,IntKind.min,IntKind.max,IntKind.signed,IntKind.bits];omega
theorem Cz{α:Type}(l:List α)(i:Nat):idx l (i:Int)=l[i]?:=by
 unfold idx;rw[bG (by omega)];simp
theorem XR{n:Nat}(h:n≤4294967296):fits (n:Int)=true:=by
 unfold fits;simp;omega
theorem ai{α:Type}(x y:α):aq true x y=x:=rfl
theorem ak{α:Type}(x y:α):aq false x y=y:=rfl
theorem af{α β:Type}(x:α)(f:α→Option β):aa (some x) f=f x:=rfl
theorem vm(a:Int):bI a a=true:=by simp[bI]
theorem cg:nt true=false:=rfl
theorem cN:nt false=true:=rfl
theorem aam{P:Program}{tys:List (Nat×Ty)}(h:(tys.all fun p=>eF P p.2 false p.1 0 [])=true):∀tid t,find tys tid=some t→Den P t tid:=fun tid t hf=>by
 rw[DY] at h;exact h _ (sA hf)
theorem Pj{l:List Nat}{t:Nat}(h:cC l t=true):t∈l:=Sp.1 h
def afK(P:Program)(tid:TypeId):Bool:=(match P.underlying tid with|some (.pointer _)=>true|some (.func ..)=>true|_=>false)&&(match P.info? tid with|some i=>Nat.beq i.size 1&&(match i.zero with|some z=>z.oneCell'|none=>false)|none=>false)
theorem WH{P:Program}{oX:List Nat}(h:(oX.all fun t=>afK P t)=true):∀tid,cC oX tid=true→(∀w,(isAgg tid).run P w=.ok false w)∧(∀w,(Go.sizeOf tid).run P w=.ok 1 w)∧∃z,(∀w,(zeroValue tid).run P w=.ok z w)∧z.oneCell'=true:=fun tid ht=>by
 rw[DY] at h;have:=h tid (Pj ht);simp only[afK,dW] at this;obtain⟨h1,h2⟩:=this;refine⟨?_,?_,?_⟩
 ·intro w;split at h1
  ·rename_i hu;simp[isAgg,run_underlying hu]
  ·rename_i hu;simp[isAgg,run_underlying hu]
  ·cases h1
 ·intro w;split at h2
  ·rename_i i hi;simp only[dW] at h2;have:=fu h2.1;simp[Go.sizeOf,typeInfo,hi,this]
  ·cases h2
 ·split at h2
  ·rename_i i hi;simp only[dW] at h2;obtain⟨_,h3⟩:=h2;split at h3
   ·rename_i z hz;exact⟨z,fun w=>by simp[zeroValue,typeInfo,hi,hz],h3⟩
   ·cases h3
  ·cases h2
def afL(P:Program)(tid:TypeId):Bool:=match P.underlying tid with|some (.pointer _)=>true|_=>false
theorem WI{P:Program}{yj:List Nat}(h:(yj.all fun t=>afL P t)=true):∀tid,cC yj tid=true→∃e,P.underlying tid=some (.pointer e):=fun tid ht=>by
 rw[DY] at h;have:=h tid (Pj ht);unfold afL at this;split at this
 ·rename_i e he;exact⟨e,he⟩
 ·cases this
theorem WJ{P:Program}:∀p∈([]:List (Nat×Func)),P.funcs[p.1]?=some p.2:=fun p h=>by cases h
theorem ah{P:Program}{f:Nat}{fn:Func}{l:List (Nat×Func)}(h:P.funcs[f]?=some fn)(hl:∀p∈l,P.funcs[p.1]?=some p.2):∀p∈(f,fn)::l,P.funcs[p.1]?=some p.2:=fun p hp=>by
 rcases List.mem_cons.1 hp with rfl|hp
 ·exact h
 ·exact hl p hp
theorem aan{P:Program}{l:List (Nat×Func)}(h:∀p∈l,P.funcs[p.1]?=some p.2):∀f fn,find l f=some fn→P.funcs[f]?=some fn:=fun f fn hf=>h _ (sA hf)
theorem av{P:Program}{G:fo}:∀p∈([]:List (Nat×bO)),Holds P G p.1 p.2:=fun p h=>by cases h
theorem ag{P:Program}{G:fo}{f:Nat}{c:bO}{l:List (Nat×bO)}(h:Holds P G f c)(hl:∀p∈l,Holds P G p.1 p.2):∀p∈(f,c)::l,Holds P G p.1 p.2:=fun p hp=>by
 rcases List.mem_cons.1 hp with rfl|hp
 ·exact h
 ·exact hl p hp
theorem aj{P:Program}{G:fo}:∀p∈([]:List (Nat×ur)),iq P G p.1 p.2:=fun p h=>by cases h
theorem ef{P:Program}{G:fo}{f:Nat}{c:ur}{l:List (Nat×ur)}(h:iq P G f c)(hl:∀p∈l,iq P G p.1 p.2):∀p∈(f,c)::l,iq P G p.1 p.2:=fun p hp=>by
 rcases List.mem_cons.1 hp with rfl|hp
 ·exact h
 ·exact hl p hp
theorem zy{P:Program}:∀p∈([]:List (Nat×Xj)),gz P p.1 p.2:=fun p hp=>by cases hp
theorem fY{P:Program}{f:Nat}{s:Xj}{l:List (Nat×Xj)}(h:gz P f s)(hl:∀p∈l,gz P p.1 p.2):∀p∈(f,s)::l,gz P p.1 p.2:=fun p hp=>by
 rcases List.mem_cons.1 hp with rfl|hp
 ·exact h
 ·exact hl p hp
theorem Pk{α:Type}:∀{l:List (String×α)} {k:String} {a:α},RW l k=some a→(k,a)∈l
 | [],_,_,h=>by cases h
 | (i,a)::r,k,b,h=>by
   unfold RW at h;by_cases e:i=k
   ·rw[kj e] at h;obtain rfl:=e;obtain rfl:=aG h;exact sU ..
   ·rw[mu e] at h;exact vR _ (Pk h)
theorem ax{P:Program}{G:fo}:∀p∈([]:List (String×bO)),ow P G p.1 p.2:=fun p h=>by cases h
theorem S5{P:Program}{G:fo}{f:String}{c:bO}{l:List (String×bO)}(h:ow P G f c)(hl:∀p∈l,ow P G p.1 p.2):∀p∈(f,c)::l,ow P G p.1 p.2:=fun p hp=>by
 rcases List.mem_cons.1 hp with rfl|hp
 ·exact h
 ·exact hl p hp
theorem jD{P:Program}{G:fo}{cx:Ctx}(h:∀p∈cx.bF,Holds P G p.1 p.2)(k:∀p∈cx.aJ,iq P G p.1 p.2)(s:∀p∈cx.Rz,gz P p.1 p.2)(v:∀p∈cx.inv,ow P G p.1 p.2):oJ P G cx :=
 ⟨fun f c hf=>h _ (sA hf),fun f c hf=>k _ (sA hf),fun f c hf=>s _ (sA hf),fun n c hf=>v _ (Pk hf)⟩
theorem WK{P:Program}{qn:List (Nat×List mw)}(h:(qn.all fun p=>Lr P p.1 p.2)=true):∀tid fs,find qn tid=some fs→Lr P tid fs=true:=fun tid fs hf=>by
 rw[DY] at h;exact h _ (sA hf)
def elB(P:Program)(p:Nat×Nat):Bool:=match P.underlying p.1 with|some (.slice e)=>Nat.beq e p.2|_=>false
theorem aao{P:Program}{els:List (Nat×Nat)}(h:(els.all fun p=>elB P p)=true):∀tid e,find els tid=some e→P.underlying tid=some (.slice e):=fun tid e hf=>by
 rw[DY] at h;have:=h _ (sA hf);unfold elB at this;split at this
 ·rename_i e' he;rw[he,fu this]
 ·cases this
theorem I0{P:Program}{t:TypeId}{i:TypeInfo}{z:Value}(h:P.info? t=some i)(k:i.zero=some z)(w:World):(zeroValue t).run P w=.ok z w:=by simp[zeroValue,typeInfo,h,k]
theorem aap(I:Nat→Nat→Prop)(w:World):He v7 w:=fun b Q h=>h.elim
end Go.Ge
namespace Go.Ge
open RowKit
theorem JX(c:UInt8):∀l:List UInt8,-1≤Lib.indexByte l c∧Lib.indexByte l c<l.length:=by
 intro l;induction l with
 | nil=>exact⟨by simp[Lib.indexByte],by simp[Lib.indexByte]⟩
 | cons b r ih =>
   unfold Lib.indexByte;split
   ·exact⟨by simp,by simp only[o7];omega⟩
   ·split
    ·exact⟨by simp,by simp only[o7];omega⟩
    ·simp only[o7];omega
theorem WL{P:Program}{f:Nat}{fn:Func}(hP:P.funcs[f]?=some fn)(hname:(fn.name == "runtime.NumGoroutine")=false)(hb:fn.body.isSome=true) :
  ∃fn code,P.funcs[f]?=some fn∧(fn.name == "runtime.NumGoroutine")=false∧fn.body=some code:=by
 obtain⟨code,hc⟩:=Option.isSome_iff_exists.1 hb;exact⟨fn,code,hP,hname,hc⟩
theorem S6{w:World}{b:Nat}{p q v:Value}{T:TypeId}{fr:Nat×Nat}(h:w.heap[b]?=some (.cells #[p,v] T fr)):w.setCell ⟨b,0,none⟩ q=w.setRow b #[q,v]:=by
 unfold World.setCell World.setRow
 congr 1
 apply Array.ext_getElem?;intro i;simp only[YU];by_cases e:b=i
 ·subst e;simp[h]
 ·simp[e]
theorem vT.refl(og:Option Nat)(w:World):vT og w w:=⟨rfl,rfl,rfl,mq _,fun _ _ _=>rfl,fun _ _ _=>rfl⟩
theorem vT.weaken{og:Option Nat}{w w':World}(h:vT none w w'):vT og w w':=⟨h.os,h.tape,h.output,h.size,fun k hk _=>h.block k hk (by simp),h.cell⟩
theorem vT.drew{og:Option Nat}{w w':World}(h:vT og w w'):vT og w w'.drew:=⟨h.os,h.tape,h.output,h.size,h.block,h.cell⟩
theorem vT.alloc{og:Option Nat}{w w':World}(h:vT og w w')(o:Obj):vT og w (w'.alloc o) where
 os:=h.os
 tape:=h.tape
 output:=h.output
 size:=jl h.size (by simp)
 block:=fun k hk hn=>(cu w' o k (DX hk h.size)).trans (h.block k hk hn)
 cell:=fun k c hk=>(cH (cu w' o k (DX hk h.size))).trans (h.cell k c hk)
theorem vT.freeze{g:Nat}{w w':World}(h:vT (some g) w w')(n:Nat):vT (some g) w (w'.freeze ⟨g,0,none⟩ n):=by
 unfold World.freeze;split
 ·exact h
 ·refine⟨h.os,h.tape,h.output,jl h.size (by simp),fun k hk hn=>?_,fun k c hk=>?_⟩
  ·have hne:¬g=k:=fun e=>hn (by rw[e]);rw[←h.block k hk hn];simp[YU,hne]
  ·rw[←h.cell k c hk];by_cases e:g=k
   ·subst e;simp only[World.cell?,YU,nk];cases w'.heap[g]? with
    | none=>rfl
    | some o=>cases o<;>rfl
   ·have hne:¬g=k:=e;simp[World.cell?,YU,hne]
theorem Qw{P:Program}{G:fo}{f:Nat}{fn:Func}{spec:List UInt8→Int→Int}(hP:P.funcs[f]?=some fn)(hname:(fn.name == "runtime.NumGoroutine")=false)(hb:fn.body.isSome=true)
  (hr:∀s c,(-1≤spec s c∧spec s c<s.length))
  (h:∀(s:ByteArray) (c:Int) (w:World),Calls P f #[.string s,.int .u8 c] w fun e w'=>e=.returned (.int .i64 (spec s.data.toList c))∧w'=w) :
  Holds P G f ⟨.pair .str (.pair (.int .u8) .unit),.pair (.int .i64) .unit,fun x=>some (spec x.1 x.2.1,())⟩ where
 body:=by
  obtain⟨code,hc⟩:=Option.isSome_iff_exists.1 hb;exact⟨fn,code,hP,hname,hc⟩
 calls:=by
  intro I w args x y hI hG hargs hspec;obtain⟨s,c,u⟩:=x;change List UInt8 at s;change Int at c;obtain rfl:((spec s c:Int),())=y:=aG hspec;obtain⟨cs,rest,hal,Bc,RA,Ms,S7,Mt,Ei⟩:=hargs;obtain rfl:Ms=[]:=Ei;obtain⟨rfl,hl⟩:=Bc;obtain⟨rfl,_⟩:=Mt;obtain rfl:args=#[.string ⟨s.toArray⟩,.int .u8 c]:=by
   apply Array.toList_inj.1;rw[hal,S7];rfl
  refine(h ⟨s.toArray⟩ c w).mono ?_;rintro e w' ⟨rfl,rfl⟩;refine⟨_,I,rfl,Below.refl _ _,fun b o h=>h,hI,fun b o h1 h2=>absurd h1 h2,?_⟩;have hs:=hr s c;have hm:s.length≤maxLen:=hl;refine⟨[.int .i64 (spec s c)],⟨rfl,?_,?_⟩,rfl⟩
  ·have:(IntKind.i64).min=-9223372036854775808:=by decide
   show(IntKind.i64).min≤spec s c
   omega
  ·have:(IntKind.i64).max=9223372036854775807:=by decide
   have:maxLen=140737488355328∨maxLen≤9223372036854775807:=by right;decide
   show spec s c≤(IntKind.i64).max
   omega
theorem N6{P:Program}{G:fo}{f:Nat}{fn:Func}{spec:List UInt8→Int→Option (List UInt8)}(hP:P.funcs[f]?=some fn)(hname:(fn.name == "runtime.NumGoroutine")=false)(hb:fn.body.isSome=true)
  (hr:∀s c y,spec s c=some y→y.length≤maxLen)
  (h:∀(s:ByteArray) (c:Int) (w:World) (y:List UInt8),(IntKind.i64).min≤c∧c≤(IntKind.i64).max→s.data.toList.length≤maxLen→spec s.data.toList c=some y →
   Calls P f #[.string s,.int .i64 c] w fun e w'=>e=.returned (.string ⟨y.toArray⟩)∧Below w.heap.size w w') :
  Holds P G f ⟨.pair .str (.pair (.int .i64) .unit),.pair .str .unit,fun x=>(spec x.1 x.2.1).map fun y=>(y,())⟩ where
 body:=by
  obtain⟨code,hc⟩:=Option.isSome_iff_exists.1 hb;exact⟨fn,code,hP,hname,hc⟩
 calls:=by
  intro I w args x y hI hG hargs hspec;obtain⟨s,c,u⟩:=x;change List UInt8 at s;change Int at c;obtain⟨z,hz,rfl⟩:=Option.map_eq_some_iff.1 hspec;change spec s c=some z at hz;obtain⟨cs,rest,hal,Bc,RA,Ms,S7,Mt,Ei⟩:=hargs;obtain rfl:Ms=[]:=Ei;obtain⟨rfl,hl⟩:=Bc;obtain⟨rfl,hc⟩:=Mt;obtain rfl:args=#[.string ⟨s.toArray⟩,.int .i64 c]:=by
   apply Array.toList_inj.1;rw[hal,S7];rfl
  refine(h ⟨s.toArray⟩ c w z hc hl hz).mono ?_;rintro e w' ⟨rfl,hw⟩;exact⟨_,I,rfl,hw,fun b o h=>h,fun b o h=>DX (hI b o h) hw.size,fun b o h1 h2=>absurd h1 h2,[.string ⟨z.toArray⟩],⟨rfl,hr _ _ _ hz⟩,rfl⟩
end Go.Ge
