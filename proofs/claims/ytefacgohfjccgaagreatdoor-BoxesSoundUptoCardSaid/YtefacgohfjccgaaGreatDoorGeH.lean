/- A ghost interpreter of the model's code, and that it tells the truth: part 8. It says of a function of plain data what a call of it comes to. -/
import Derived.Test.YtefacgohfjccgaaGreatDoorGeG
import Derived.Laws.Sem
import Derived.ProofKit
import Derived.Lib.LazyBuf
import Derived.Lib.Bytealg
import Derived.WalkKit
set_option linter.unusedSectionVars false
set_option linter.unusedVariables false
set_option linter.unusedSimpArgs false
noncomputable section
namespace Go.Ge
variable [Lp]
open RowKit
section
variable {P:Program} {B:tJ} {N:Nat} {cx:Ctx} {nb:Nat} {bf:List Nat} {inl:Nat→List aS→St→Tree (aS×St)}
theorem Hv(k:Carry)(σ:St):(k.lock σ).mem=wC (fun b bx=>bif Ah k.M b then bx.lk else true) σ.mem:=by
 funext b;simp only[Carry.lock,wC];cases σ.mem b with
 | none=>rfl
 | some bx=>simp only;cases Ah k.M b<;>rfl
theorem agq(k:Carry)(σ:St):k.lock σ={ σ with mem:=wC (fun b bx=>bif Ah k.M b then bx.lk else true) σ.mem }:=by
 have:=Hv k σ;unfold Carry.lock at this⊢;dsimp only at this⊢;rw[this]
theorem Jj{T β:Type}{t:Tree T}{k:T→Tree β}{y:β}(h:(t.join k).run=some y):∃x,t.run=some x∧(k x).run=some y:=by
 rw[Tree.CJ] at h;exact Option.bind_eq_some_iff.1 h
theorem Nx{α:Type}{o:Option α}{y:α}(h:(Tree.ac6 o).run=some y):o=some y:=by
 cases o with
 | none=>cases h
 | some x=>exact h
theorem adX{e0 e i:Nat}(h:K1 [e0] e=some i):e=e0:=by
 simp only[K1] at h;cases hb:Nat.beq e0 e with
 | true=>exact(gz hb).symm
 | false=>rw[hb] at h;cases h
theorem dB.Zv{γ:Gh}{σ:St}{a:Act}{w:World}(h:dB B N γ σ a w){i:Nat}{v:aS}(hv:cI γ σ.mem w v .val [a.tmps.getD i Go.undef]):dB B N γ (σ.put i v) a w where
 slots:=fun t=>by
  show cI γ σ.mem w (bif Nat.beq t i then v else σ.slots t) .val _
  cases hb:Nat.beq t i with
  | true=>obtain rfl:=gz hb;exact hv
  | false=>exact h.slots t
 size:=h.size
 defers:=h.defers
 ok:=h.ok
theorem SK{a:Act}{w:World}:∀{l:List (Nat×Sh)} {σ σ':St} {γ:Gh},settle l σ=some σ'→dB B N γ σ a w→∃γ',dB B N γ' σ' a w∧Ext B γ σ.mem w γ' σ'.mem w∧bD σ σ':=by
 intro l;induction l with
 | nil=>intro σ σ' γ h hs;obtain rfl:=aN h;exact⟨γ,hs,Ext.refl _ _ _ _,bD.refl _⟩
 | cons p r ih =>
   obtain⟨i,s⟩:=p;intro σ σ' γ h hs;cases s with
   | d t =>
     simp only[settle] at h;split at h
     ·rename_i x σ1 hg;obtain⟨jC,s1,s2,s4⟩:=oc hs (hs.slots i) hg;have s3:dB B N jC (σ1.put i (.data t x)) a w:=s1.Zv s4;obtain⟨I9,t1,t2,t3⟩:=ih h s3;exact⟨I9,t1,s2.trans t2,(rG hg).trans t3⟩
     ·cases h
   | k v=>exact ih h hs
   | m a b=>exact ih h hs
theorem Hw{k:Carry}{fz:Bool}{wr:List Nat}{x:k.ty.den}{kU rH:St}{XH γ:Gh}{a a0:Act}{w w0:World}(hk:Ei k kU)(h0:dB B N XH kU a0 w0)(he:dB B N γ rH a w)(hx:Ext B XH kU.mem w0 γ rH.mem w)
  (hf:∀t,dD wr t=false→a.tmps[t]?=a0.tmps[t]?) (hkeep:∀b bx,kU.mem b=some bx→Ah k.M b=false→rH.mem b=some { bx with lk:=true }) (ho:k.MC fz kU rH=some x) :
  ∃γ',dB B N γ' (k.tI fz false wr kU x) a w∧Ext B XH kU.mem w0 γ' (k.tI fz false wr kU x).mem w:=by
 unfold Carry.MC at ho;cases fz with
 | false=>exact⟨γ,vj hk h0 he hx hf (fun b bx hb hin=>⟨true,hkeep b bx hb hin⟩) ho⟩
 | true =>
   simp only[gp] at ho;split at ho
   ·rename_i σ1 hs;obtain⟨jC,s1,x1,k1⟩:=SK hs he;exact⟨jC,vj hk h0 s1 (hx.trans x1) hf (fun b bx hb hin=>⟨true,k1 b _ (hkeep b bx hb hin) rfl⟩) ho⟩
   ·cases ho
def roundOf(cx:Ctx)(nb:Nat)(bf:List Nat)(inl:Nat→List aS→St→Tree (aS×St))(k:Carry)(fz:Bool)(σ:St)(c:Code)(pl:List (Option Uk))(x:k.ty.den):Option (k.ty.den⊕(Nat×k.ty.den)) :=
 ((jB cx nb bf inl c pl (k.tI false true (writes c) σ x)).bind fun r=>bif Nat.beq r.1 0 then(match k.out false σ r.2 with
   | some y=>.ret (.inl y)
   | none=>.fail)
  else match K1 (v7 c) r.1,k.MC fz σ r.2 with
   | some i,some y=>.ret (.inr (i,y))
   | _,_=>.fail).run
theorem QY{c:Code}{k:Carry}{fz:Bool}{σ:St}{γ:Gh}{a:Act}{w:World}{Q:Exit→Act→World→Prop}{R:Type}(hk:Ei k σ)(h:dB B N γ σ a w){x0:k.ty.den}(hx0:k.out false σ σ=some x0)
  (f:k.ty.den→Option (k.ty.den⊕R)) (Out:R→Nat→k.ty.den→Prop) {z:R} (hL:Loop f x0=some z)
  (hf:∀x r,f x=some r→∃e y,(match r with|.inl y'=>e=0∧y'=y|.inr z=>e≠0∧Out z e y) ∧
   ∀jC a1 w1 (Q':Exit→Act→World→Prop),dB B N jC (k.tI false true (writes c) σ x) a1 w1→(∀rH γ' a' w',(bif Nat.beq e 0 then k.out false σ rH else k.MC fz σ rH)=some y→bD (k.tI false true (writes c) σ x) rH→dB B N γ' rH a' w'→Ext B jC (k.tI false true (writes c) σ x).mem w1 γ' rH.mem w'→Hu (writes c) a1 a'→Q' (Nw e) a' w') →
    c.wp P Q' a1 w1)
  (final:∀e y,e≠0→Out z e y→∀γ' a' w',dB B N γ' (k.tI fz false (writes c) σ y) a' w'→Ext B γ σ.mem w γ' (k.tI fz false (writes c) σ y).mem w'→Hu (writes c) a a'→Q (Nw e) a' w') :
  (Code.loop c).wp P Q a w:=by
 obtain⟨n,hn⟩:=rZ hL;refine Ji (fun m a' w'=>∃γ' x,dB B N γ' (k.tI false true (writes c) σ x) a' w'∧Ext B γ σ.mem w γ' (k.tI false true (writes c) σ x).mem w'∧Hu (writes c) a a'∧rounds f m x=some z) (n:=n) ?_ ?_
 ·obtain⟨s,x⟩:=vj (lock:=true) (wr:=writes c) hk h h (Ext.refl _ _ _ _) (fun _ _=>rfl) (fun b bx hb _=>⟨bx.lk,hb⟩) hx0;exact⟨γ,x0,s,x,Hu.refl _ _,hn⟩
 ·intro m a1 w1 hI;obtain⟨jC,x,s1,e1,f1,hr⟩:=hI;cases m with
  | zero=>cases hr
  | succ m =>
    simp only[rounds] at hr;obtain⟨r,hfx,hr2⟩:=Option.bind_eq_some_iff.1 hr;obtain⟨e,y,hm,hwp⟩:=hf x r hfx;refine hwp jC a1 w1 _ s1 fun rH γ' a' w' ho hkp s2 e2 f2=>?_;have hx:=e1.trans e2;have hfr:=f1.trans f2;have hkeep:∀b bx,σ.mem b=some bx→Ah k.M b=false→rH.mem b=some { bx with lk:=true }:=fun b bx hb hin=>by
     have:=hkp b _ (U8 hb hin) (by simp);simpa using this
    cases r with
    | inl y' =>
      obtain⟨rfl,rfl⟩:=hm;obtain⟨s3,e3⟩:=vj (lock:=true) (wr:=writes c) hk h s2 hx hfr (fun b bx hb hin=>⟨true,hkeep b bx hb hin⟩) ho;exact⟨m,T7 m,γ',y',s3,e3,hfr,hr2⟩
    | inr z' =>
      obtain⟨h0,hO⟩:=hm;obtain rfl:=aN hr2;have hb0:Nat.beq e 0=false:=ja h0;rw[hb0] at ho;obtain⟨γ3,s3,e3⟩:=Hw (wr:=writes c) hk h s2 hx hfr hkeep ho;have:=final e y h0 hO γ3 a' w' s3 e3 hfr
      match e,h0,this with
      | 0,h0,_=>exact absurd rfl h0
      | 1,_,this=>exact this
      | i+2,_,this=>exact this
theorem aaR{S:Type}{o:Option (S⊕(Nat×S))}{r:S⊕S}(h:eP o=some r):(∃y,r=.inl y∧o=some (.inl y))∨∃i y,r=.inr y∧o=some (.inr (i,y)):=by
 unfold eP at h;obtain⟨q,h1,h2⟩:=Option.map_eq_some_iff.1 h;cases q with
 | inl y=>exact .inl ⟨y,h2.symm,h1⟩
 | inr p=>exact .inr ⟨p.1,p.2,h2.symm,h1⟩
theorem vk(vi:P.follows .mixedOrders=true)(hc:gA P cx)(eS:rD P B.G cx)(ny:yG P B.G inl)(hkeep:∀f vals σ v σ',(inl f vals σ).run=some (v,σ')→bD σ σ') :
  ∀(c:Code) {pl:List (Option Uk)} {σ:St} {γ:Gh} {a:Act} {w:World} {e:Nat} {σ':St} {Q:Exit→Act→World→Prop},(∀t∈writes c,t<N)→(jB cx nb bf inl c pl σ).run=some (e,σ')→dB B N γ σ a w →
   (∀γ' a' w',dB B N γ' σ' a' w'→Ext B γ σ.mem w γ' σ'.mem w'→Hu (writes c) a a'→Q (Nw e) a' w')→c.wp P Q a w:=by
 intro c;induction c with
 | skip =>
   intro pl σ γ a w e σ' Q hd hr h hK;obtain⟨rfl,rfl⟩:=e9 (aN hr);exact wp_skip (hK γ a w h (Ext.refl _ _ _ _) (Hu.refl _ _))
 | label l =>
   intro pl σ γ a w e σ' Q hd hr h hK;obtain⟨rfl,rfl⟩:=e9 (aN hr);exact wp_label (hK γ a w h (Ext.refl _ _ _ _) (Hu.refl _ _))
 | ret =>
   intro pl σ γ a w e σ' Q hd hr h hK;obtain⟨rfl,rfl⟩:=e9 (aN hr);exact wp_ret (hK γ a w h (Ext.refl _ _ _ _) (Hu.refl _ _))
 | exit i =>
   intro pl σ γ a w e σ' Q hd hr h hK;obtain⟨rfl,rfl⟩:=e9 (aN hr);exact wp_exit (hK γ a w h (Ext.refl _ _ _ _) (Hu.refl _ _))
 | region id ops dr =>
   intro pl σ γ a w e σ' Q hd hr h hK;obtain⟨σ1,h1,h2⟩:=bind_some hr;obtain⟨rfl,rfl⟩:=e9 (aN h2);have hd':∀o∈ops.toList,∀k,o.dst=some k→k<N:=fun o ho k hk=>hd k (SJ ho hk);have hfr:∀{a a':Act},Fr (number 0 ops.toList) a a'→Hu (writes (.region id ops dr)) a a':=fun hf t ht=>hf t (U7 ht);cases dr with
   | true=>exact U3 vi hc eS ny hd' h1 h fun γ' a' w' s x f=>hK γ' a' w' s x (hfr f)
   | false=>exact Sv hc eS ny hkeep hd' h1 h fun γ' a' w' s x f=>hK γ' a' w' s x (hfr f)
 | seq x y ihx ihy =>
   intro pl σ γ a w e σ' Q hd hr h hK;obtain⟨r1,h1,h2⟩:=bind_some hr;obtain⟨e1,σ1⟩:=r1;have SL:∀t∈writes x,t<N:=fun t ht=>hd t (GH _ ht);have hdy:∀t∈writes y,t<N:=fun t ht=>hd t (KW _ ht);refine wp_seq (ihx SL h1 h fun γ' a' w' s1 x1 f1=>?_);cases e1 with
   | zero=>exact ihy hdy h2 s1 fun afW a'' w'' s2 x2 f2=>hK afW a'' w'' s2 (x1.trans x2) (f1.left.trans f2.right)
   | succ e1 =>
     obtain⟨rfl,rfl⟩:=e9 (aN h2);have:=hK γ' a' w' s1 x1 f1.left;cases e1 with
     | zero=>exact this
     | succ i=>exact this
 | block i x ih =>
   intro pl σ γ a w e σ' Q hd hr h hK;obtain⟨r1,h1,h2⟩:=bind_some hr;obtain⟨e1,σ1⟩:=r1;obtain⟨rfl,rfl⟩:=e9 (aN h2);refine wp_block (ih hd h1 h fun γ' a' w' s1 x1 f1=>?_);have:=hK γ' a' w' s1 x1 f1
   match e1,this with
   | 0,this=>exact this
   | 1,this=>exact this
   | j+2,this =>
     show Exit.inBlock i Q (.exit j) a' w'
     unfold Exit.inBlock;by_cases e:j=i
     ·subst e;simp only[nZ];simpa [Nw] using this
     ·simp only[br e];have hb:Nat.beq (j+2) (i+2)=false:=ja (by omega);rw[hb] at this;exact this
 | scope x ih =>
   intro pl σ γ a w e σ' Q hd hr h hK;refine wp_scope_straight (ih hd hr h fun γ' a' w' s1 x1 f1=>?_);have:=hK γ' a' w' s1 x1 f1
   match e,this with
   | 0,this=>exact this
   | 1,this=>exact this
   | j+2,this=>exact this
 | cond o x y ihx ihy =>
   intro pl σ γ a w e σ' Q hd hr h hK;have SL:∀t∈writes x,t<N:=fun t ht=>hd t (GH _ ht);have hdy:∀t∈writes y,t<N:=fun t ht=>hd t (KW _ ht);unfold jB at hr;split at hr
   ·rename_i c0 pl0 hcv;change Bool at c0;have hev:=h.cL o;rw[hcv] at hev;have hev:=Bj hev;have hn:=gP hr;cases c0 with
    | false=>exact wp_cond_false hev (ihy hdy hn h fun γ' a' w' s1 x1 f1=>hK γ' a' w' s1 x1 f1.right)
    | true=>exact wp_cond_true hev (ihx SL hn h fun γ' a' w' s1 x1 f1=>hK γ' a' w' s1 x1 f1.left)
   ·rename_i c0 p pl0 hcv;change Bool at c0;have hev:=h.cL o;rw[hcv] at hev;have hev:=Bj hev;split at hr
    ·cases hr
    rename_i k hk;have hok:=Bn hk;dsimp only at hr;have go:∀{r:Nat×St},(Tree.node c0 (jB cx nb bf inl x pl0 (k.lock σ)) (jB cx nb bf inl y (pl0.drop (marks x)) (k.lock σ))).run=some r→∀{v:k.ty.den},k.MC p.fz σ r.2=some v →
      (∀γ' a' w',dB B N γ' (k.tI p.fz false (writes x++writes y) σ v) a' w'→Ext B γ σ.mem w γ' (k.tI p.fz false (writes x++writes y) σ v).mem w'→Hu (writes x++writes y) a a'→Q (Nw r.1) a' w') →
      (Code.cond o x y).wp P Q a w:=by
     intro r hrun v ho hQ;have hlk:dB B N γ (k.lock σ) a w:=by rw[agq];exact h.wC
     have hle:Ext B γ σ.mem w γ (k.lock σ).mem w:=by rw[Hv];exact Ext.wC
     have fin:bD (k.lock σ) r.2→∀γ' a' w',dB B N γ' r.2 a' w'→Ext B γ (k.lock σ).mem w γ' r.2.mem w'→Hu (writes x++writes y) a a'→Q (Nw r.1) a' w':=by
      intro hkp γ' a' w' s1 x1 f1;obtain⟨I9,s2,x2⟩:=Hw (wr:=writes x++writes y) hok h s1 (hle.trans x1) f1 (fun b bx hb hin=>hkp b _ (by rw[Hv,QW hb,hin];rfl) rfl) ho;exact hQ I9 a' w' s2 x2 f1
     have hn:=gP hrun;cases c0 with
     | false=>exact wp_cond_false hev (ihy hdy hn hlk fun γ' a' w' s1 x1 f1=>fin (xE hkeep _ _ _ _ hn) γ' a' w' s1 x1 f1.right)
     | true=>exact wp_cond_true hev (ihx SL hn hlk fun γ' a' w' s1 x1 f1=>fin (xE hkeep _ _ _ _ hn) γ' a' w' s1 x1 f1.left)
    split at hr
    ·obtain⟨v,h1,h2⟩:=Jj hr;obtain⟨rfl,rfl⟩:=e9 (aN h2);obtain⟨r,h3,h4⟩:=bind_some h1;obtain⟨h5,h6⟩:=aD h4;refine go h3 (Nx h6) fun γ' a' w' s x f=>?_;rw[gz h5];exact hK γ' a' w' s x f
    ·rename_i es hes;obtain⟨v,h1,h2⟩:=Jj hr;obtain⟨r,h3,h4⟩:=bind_some h1;split at h4
     ·rename_i i v' hix ho;obtain rfl:=aN h4;rw[QX hix] at h2;obtain⟨rfl,rfl⟩:=e9 (aN h2);exact go h3 ho fun γ' a' w' s x f=>hK γ' a' w' s x f
     ·cases h4
   ·cases hr
 | loop c ih =>
   intro pl σ γ a w e σ' Q hd hr h hK;unfold jB at hr;split at hr
   case h_2 =>
    rename_i pl0;generalize 100000=n at hr;refine Ji (fun m a' w'=>∃γ' σ1,dB B N γ' σ1 a' w'∧Ext B γ σ.mem w γ' σ1.mem w'∧Hu (writes c) a a'∧(again (fun σ=>jB cx nb bf inl c pl0 σ) m σ1).run=some (e,σ')) (n:=n) ⟨γ,σ,h,Ext.refl _ _ _ _,Hu.refl _ _,hr⟩ ?_;intro m a1 w1 hI;obtain⟨jC,σ1,s1,e1,f1,kW⟩:=hI;cases m with
    | zero=>cases kW
    | succ m =>
      obtain⟨r,q1,q2⟩:=bind_some kW;obtain⟨e',σ2⟩:=r;refine ih hd q1 s1 fun γ' a' w' s2 e2 f2=>?_;cases hq:Nat.beq e' 0 with
      | true =>
        dsimp only at q2;rw[hq] at q2;obtain rfl:=gz hq;exact⟨m,T7 m,γ',σ2,s2,e1.trans e2,f1.trans f2,q2⟩
      | false =>
        dsimp only at q2;rw[hq] at q2;obtain⟨rfl,rfl⟩:=e9 (aN q2);have:=hK γ' a' w' s2 (e1.trans e2) (f1.trans f2)
        match e',hq,this with
        | 0,hq,_=>cases hq
        | 1,_,this=>exact this
        | i+2,_,this=>exact this
   case h_3=>cases hr
   rename_i p pl0;split at hr
   ·rename_i ct hct;generalize 100=n at hr;generalize 0=j at hr;refine Ji (fun m a' w'=>∃γ' σ1 j',dB B N γ' σ1 a' w'∧Ext B γ σ.mem w γ' σ1.mem w'∧Hu (writes c) a a'∧(I0 (fun σ=>jB cx nb bf inl c pl0 σ) ct m j' σ1).run=some (e,σ')) (n:=n) ⟨γ,σ,j,h,Ext.refl _ _ _ _,Hu.refl _ _,hr⟩ ?_;intro m a1 w1 hI;obtain⟨jC,σ1,j1,s1,e1,f1,kW⟩:=hI;cases m with
    | zero=>cases kW
    | succ m =>
      unfold I0 at kW;split at kW
      case h_2=>cases kW
      rename_i x hx;obtain⟨hj,hr2⟩:=cF kW;obtain⟨r,q1,q2⟩:=bind_some hr2;obtain⟨e',σ2⟩:=r;change Int at x;have hxe:x=(j1:Int):=ic (show decide (x=(j1:Int))=true from hj);have s1':dB B N jC (σ1.put ct (.data (.int .i64) (j1:Int))) a1 w1:=s1.Zv (by
       have:=s1.slots ct;rw[hx] at this;rw[←hxe];exact this)
      refine ih hd q1 s1' fun γ' a' w' s2 e2 f2=>?_;have e2:Ext B jC σ1.mem w1 γ' σ2.mem w':=e2;cases hq:Nat.beq e' 0 with
      | true =>
        dsimp only at q2;rw[hq] at q2;obtain rfl:=gz hq;exact⟨m,T7 m,γ',σ2,j1+1,s2,e1.trans e2,f1.trans f2,q2⟩
      | false =>
        dsimp only at q2;rw[hq] at q2;obtain⟨rfl,rfl⟩:=e9 (aN q2);have:=hK γ' a' w' s2 (e1.trans e2) (f1.trans f2)
        match e',hq,this with
        | 0,hq,_=>cases hq
        | 1,_,this=>exact this
        | i+2,_,this=>exact this
   split at hr
   ·cases hr
   rename_i σ aik;obtain⟨γ,h,hx⟩:=U9 aik h;replace hK:=fun γ' a' w' s x f=>hK γ' a' w' s (hx.trans x) f;clear hx;split at hr
   ·cases hr
   rename_i k hk;have hok:=Bn hk;dsimp only at hr;split at hr
   ·cases hr
   rename_i x0 hx0;have hb:∀x r,roundOf cx nb bf inl k p.fz σ c pl0 x=some r→∃e rH y,(jB cx nb bf inl c pl0 (k.tI false true (writes c) σ x)).run=some (e,rH)∧(bif Nat.beq e 0 then k.out false σ rH else k.MC p.fz σ rH)=some y∧((e=0∧r=.inl y)∨(e≠0∧∃i,K1 (v7 c) e=some i∧r=.inr (i,y))):=by
    intro x r hx;unfold roundOf at hx;obtain⟨q,q1,q2⟩:=bind_some hx;obtain⟨e,rH⟩:=q;dsimp only at q2;cases he:Nat.beq e 0 with
    | true =>
      rw[he] at q2;simp only[gp] at q2;split at q2
      ·rename_i y hy;exact⟨e,rH,y,q1,by rw[he];exact hy,.inl ⟨gz he,(aN q2).symm⟩⟩
      ·cases q2
    | false =>
      rw[he] at q2;simp only[jM] at q2;split at q2
      ·rename_i i y hi hy;exact⟨e,rH,y,q1,by rw[he];exact hy,.inr ⟨fun e0=>(by subst e0;cases he),i,hi,(aN q2).symm⟩⟩
      ·cases q2
   have step:∀{x:k.ty.den} {e:Nat} {rH:St} {y:k.ty.den},(jB cx nb bf inl c pl0 (k.tI false true (writes c) σ x)).run=some (e,rH)→(bif Nat.beq e 0 then k.out false σ rH else k.MC p.fz σ rH)=some y→∀jC a1 w1 (Q':Exit→Act→World→Prop),dB B N jC (k.tI false true (writes c) σ x) a1 w1 →
     (∀rH γ' a' w',(bif Nat.beq e 0 then k.out false σ rH else k.MC p.fz σ rH)=some y→bD (k.tI false true (writes c) σ x) rH→dB B N γ' rH a' w'→Ext B jC (k.tI false true (writes c) σ x).mem w1 γ' rH.mem w'→Hu (writes c) a1 a'→Q' (Nw e) a' w')→c.wp P Q' a1 w1:=by
    intro x e rH y hrun ho jC a1 w1 Q' s hQ;exact ih hd hrun s fun γ' a' w' s1 x1 f1=>hQ rH γ' a' w' ho (xE hkeep _ _ _ _ hrun) s1 x1 f1
   split at hr
   ·rename_i e0 hes;obtain⟨v,h1,h2⟩:=cl hr;obtain⟨rfl,rfl⟩:=e9 (aN h2);refine QY (fz:=p.fz) hok h hx0 _ (fun z e' y=>e'=e0∧z=y) h1 (fun x r hx=>?_) (fun e' y hne hO γ' a' w' s x f=>?_)
    ·rcases aaR hx with ⟨y,rfl,hy⟩|⟨i,y,rfl,hy⟩
     ·obtain⟨e,rH,y',q1,q2,q3⟩:=hb x _ hy;rcases q3 with ⟨rfl,q3⟩|⟨_,i,_,q3⟩
      ·obtain rfl:=Zj q3;exact⟨0,y,⟨rfl,rfl⟩,step q1 q2⟩
      ·cases q3
     ·obtain⟨e,rH,y',q1,q2,q3⟩:=hb x _ hy;rcases q3 with ⟨rfl,q3⟩|⟨hne,i',hix,q3⟩
      ·cases q3
      ·obtain⟨rfl,rfl⟩:=e9 (Sum.inr.inj q3);rw[hes] at hix;exact⟨e,y,⟨hne,adX hix,rfl⟩,step q1 q2⟩
    ·obtain⟨rfl,rfl⟩:=hO;exact hK γ' a' w' s x f
   ·obtain⟨v,h1,h2⟩:=cl hr;refine QY (fz:=p.fz) hok h hx0 _ (fun z e' y=>K1 (v7 c) e'=some z.1∧z.2=y) h1 (fun x r hx=>?_) (fun e' y hne hO γ' a' w' s x f=>?_)
    ·obtain⟨e,rH,y',q1,q2,q3⟩:=hb x _ hx;rcases q3 with ⟨rfl,rfl⟩|⟨hne,i,hix,rfl⟩
     ·exact⟨0,y',⟨rfl,rfl⟩,step q1 q2⟩
     ·exact⟨e,y',⟨hne,hix,rfl⟩,step q1 q2⟩
    ·obtain⟨hix,rfl⟩:=hO;rw[QX hix] at h2;obtain⟨rfl,rfl⟩:=e9 (aN h2);exact hK γ' a' w' s x f
 | _=>intro pl σ γ a w e σ' Q hd hr h hK;cases hr
end
end Go.Ge
namespace Go.Ge
variable [Lp]
open RowKit
def aaS(fn:Func):Bool:=!(fn.name == "runtime.NumGoroutine")&&(match fn.body with|some c=>(writes c).all fun t=>Nat.blt t fn.ntmps|none=>true)
def Vb(cx:Ctx):Prop:=∀f fn,find cx.fns f=some fn→aaS fn=true
theorem vl{α:Type}{l:List (Nat×α)}{k:Nat}{x:α}(h:find l k=some x):(k,x)∈l:=by
 induction l with
 | nil=>cases h
 | cons p r ih =>
   obtain⟨i,a⟩:=p;simp only[find] at h;cases hb:Nat.beq i k with
   | true =>
     rw[hb] at h;obtain rfl:=aN h;obtain rfl:=gz hb;exact nX ..
   | false=>rw[hb] at h;exact qU _ (ih h)
theorem adY{cx:Ctx}(h:(cx.fns.all fun p=>aaS p.2)=true):Vb cx:=fun f fn hf=>by
 rw[Cx] at h;exact h _ (vl hf)
section
variable {P:Program} {B:tJ} {N:Nat} {γ:Gh} {σ:St} {a:Act} {w:World} {cx:Ctx}
def Jk(tmps:Array Value):ResultVar→Sem Value
 | .tmp t=>pure (tmps.getD t undef)
 | .cell a t=>do loadVar t (←asAddr (tmps.getD a undef))
theorem Ch(hc:gA P cx)(h:dB B N γ σ a w){r:ResultVar}{v:aS}(hr:(I3 cx σ r).run=some v):∃val,(Jk a.tmps r).run P w=.ok val w∧cI γ σ.mem w v .val [val]:=by
 cases r with
 | tmp t =>
   obtain rfl:=aN hr;exact⟨_,rfl,h.slots t⟩
 | cell t ty =>
   obtain⟨τ,h1,h2⟩:=bind_some hr;obtain rfl:=aN h2;obtain⟨u,val,ad,rfl,g1,g2,g3⟩:=Ur (P:=P) hc (x:=.tmp t) h h1;refine⟨val,?_,?_⟩
   ·have g1':a.tmps.getD t undef=.pointer (some ad):=g1;simp only[Jk,g1',asAddr,Sem.run_bind,Sem.run_pure,Result.andThen_ok,g2]
   ·simpa [St.aW,St.put] using g3
theorem Ny(hc:gA P cx)(h:dB B N γ σ a w):∀{rs:List ResultVar} {v:aS},(GP cx σ rs).run=some v→∃vals:List Value,vals.length=rs.length∧(rs.mapM (Jk a.tmps)).run P w=.ok vals w∧cI γ σ.mem w v .many vals:=by
 intro rs;induction rs with
 | nil=>intro v hr;obtain rfl:=aN hr;exact⟨[],rfl,rfl,rfl⟩
 | cons r rs ih =>
   intro v hr;obtain⟨v1,h1,h2⟩:=bind_some hr;obtain⟨l,h3,h4⟩:=bind_some h2;obtain rfl:=aN h4;obtain⟨val,g1,g2⟩:=Ch hc h h1;obtain⟨vals,k1,k2,k3⟩:=ih h3;refine⟨val::vals,by simp[k1],?_,val,vals,rfl,g2,k3⟩;simp only[Ze,Sem.run_bind,g1,Result.andThen_ok,k2,Sem.run_pure]
theorem XM(fn:Func)(tmps:Array Value):results fn tmps=(do
  let vs ←fn.results.toList.mapM (Jk tmps)
  pure (if h:vs.toArray.size=1 then vs.toArray[0] else .tuple vs.toArray)):=by
 have h:results fn tmps=(do
   let vs ←fn.results.mapM (Jk tmps)
   pure (if h:vs.size=1 then vs[0] else .tuple vs)):=by
  unfold results
  congr 1
 rw[h,Array.mapM_eq_mapM_toList];simp only[bind_map_left]
theorem zI(hc:gA P cx)(h:dB B N γ σ a w){fn:Func}{v:aS}(hr:(results1 cx σ fn.results.toList).run=some v):∃val,(results fn a.tmps).run P w=.ok val w∧cI γ σ.mem w v .val [val]:=by
 rw[XM];generalize fn.results.toList=rs at hr;have many:∀{l:aS},rs.length≠1→(GP cx σ rs).run=some l→∃val,(do
   let vs ←rs.mapM (Jk a.tmps)
   pure (if h:vs.toArray.size=1 then vs.toArray[0] else .tuple vs.toArray):Sem Value).run P w=.ok val w∧cI γ σ.mem w (.FQ l) .val [val]:=by
  intro l hne hl;obtain⟨vals,k1,k2,k3⟩:=Ny hc h hl;refine⟨.tuple vals.toArray,?_,vals.toArray,rfl,by simpa using k3⟩;have:¬vals.toArray.size=1:=by simp[k1,hne]
  simp only[Sem.run_bind,k2,Result.andThen_ok,Sem.run_pure,dif_neg this]
 match rs,hr with
 | [],hr =>
   obtain⟨l,h1,h2⟩:=bind_some hr;obtain rfl:=aN h2;exact many (by simp) h1
 | [r],hr =>
   obtain⟨val,g1,g2⟩:=Ch hc h hr;refine⟨val,?_,g2⟩;simp only[Ze,List.mapM_nil,Sem.run_bind,g1,Result.andThen_ok,Sem.run_pure];rfl
 | r::s::rs,hr =>
   obtain⟨l,h1,h2⟩:=bind_some hr;obtain rfl:=aN h2;exact many (by simp) h1
theorem Jl{mem:Nat→Option Box}(hm:bK B γ mem w){vals:List aS}{xs:Array Value}(hv:nx γ mem w vals xs.toList)(n:Nat) :
  dB B (xs.size+(n-xs.size)) γ (v8 mem vals) { tmps:=xs++Array.replicate (n-xs.size) undef,defers:=[] } w where
 slots:=fun t=>by
  show cI γ mem w ((vals[t]?).getD .undef) .val [_]
  cases hq:vals[t]? with
  | none=>exact⟨_,rfl⟩
  | some v =>
    have ht:t<xs.size:=by
     have:=(List.getElem?_eq_some_iff.1 hq).1;have h2:=hv.1;simp at h2;omega
    have h1:xs[t]?=some xs[t]:=Array.getElem?_eq_getElem ht;have h2:(xs++Array.replicate (n-xs.size) undef).getD t undef=xs[t]:=by
     rw[acp,ahm ht,h1];rfl
    dsimp only;rw[h2];exact hv.2 t v xs[t] hq (by simp[ht])
 size:=by simp
 defers:=rfl
 ok:=hm
def QZ(cx:Ctx)(n nb:Nat)(fH:Nat→Aw):Nat→List aS→St→Tree (aS×St) :=
 fun g xs σ=>(Cc cx n ((nb+g+1)*1000) fH g xs σ.mem).bind fun r=>.ret (r.1,{ σ with mem:=r.2 })
theorem Nz{n nb f:Nat}{fH:Nat→Aw}{vals:List aS}{mem:Nat→Option Box}{r:aS×(Nat→Option Box)}(hr:(Cc cx (n+1) nb fH f vals mem).run=some r) :
  ∃fn c,find cx.fns f=some fn∧fn.body=some c∧((MD cx nb (fH f) (QZ cx n nb fH) fn c vals mem).run=some r∨∃R,(Zn R vals mem (MD cx nb (fH f) (QZ cx n nb fH) fn c vals)).run=some r):=by
 unfold Cc at hr;split at hr
 case h_2=>cases hr
 rename_i fn hfn;split at hr
 case h_2=>cases hr
 rename_i c hb;refine⟨fn,c,hfn,hb,?_⟩;split at hr
 ·exact .inl hr
 ·exact .inr ⟨_,hr⟩
theorem F7{nb:Nat}{p:Aw}{inl:Nat→List aS→St→Tree (aS×St)}{fn:Func}{c:Code}{vals:List aS}{mem:Nat→Option Box}{r:aS×(Nat→Option Box)}(hr:(MD cx nb p inl fn c vals mem).run=some r) :
  ∃e σ',(jB cx nb p.ahX inl c p.marks (v8 mem vals)).run=some (e,σ')∧(e=0∨e=1)∧(results1 cx σ' fn.results.toList).run=some r.1∧r.2=σ'.mem:=by
 obtain⟨q,h1,h2⟩:=bind_some hr;obtain⟨e,σ'⟩:=q;obtain⟨h3,h4⟩:=aD h2;obtain⟨v,h5,h6⟩:=bind_some h4;obtain rfl:=aN h6;refine⟨e,σ',h1,?_,h5,rfl⟩;simp only[zv] at h3;rcases h3 with h3|h3
 ·exact .inl (gz h3)
 ·exact .inr (gz h3)
theorem NA{R:Ty}{vals:List aS}{mem:Nat→Option Box}{F:(Nat→Option Box)→Tree (aS×(Nat→Option Box))}{r:aS×(Nat→Option Box)}(hr:(Zn R vals mem F).run=some r) :
  ∃(k:Carry) (x:k.ty.den) (v:aS) (mem':Nat→Option Box),Ei k (mE mem)∧(F (k.lock (mE mem)).mem).run=some (v,mem')∧k.out false (mE mem) (adg v mem')=some x ∧
   r=((k.tI false false [0] (mE mem) x).slots 0,(k.tI false false [0] (mE mem) x).mem):=by
 unfold Zn at hr;split at hr
 ·cases hr
 rename_i m hm;obtain⟨x,h1,h2⟩:=Jj hr;obtain⟨q,h3,h4⟩:=bind_some h1;refine⟨⟨[(0,.d R)],m,fun _=>false⟩,x,q.1,q.2,⟨fun t s hts=>?_,adU hm,fun b x hb=>(by cases hb)⟩,h3,Nx h4,(aN h2).symm⟩;rw[Cw] at hts;obtain⟨rfl,rfl⟩:=e9 hts;trivial
theorem XN{fH:Nat→Aw}:∀(n nb f:Nat) (vals:List aS) (mem:Nat→Option Box) (r:aS×(Nat→Option Box)),(Cc cx n nb fH f vals mem).run=some r→∀b bx,mem b=some bx→bx.lk=true→r.2 b=some bx:=by
 intro n;induction n with
 | zero=>intro nb f vals mem r h;cases h
 | succ n ih =>
   intro nb f vals mem r h b bx hb hl;obtain⟨fn,c,h1,h2,h3⟩:=Nz h;have body:∀{mem:Nat→Option Box} {r:aS×(Nat→Option Box)},(MD cx nb (fH f) (QZ cx n nb fH) fn c vals mem).run=some r→∀b bx,mem b=some bx→bx.lk=true→r.2 b=some bx:=by
    intro mem r h b bx hb hl;obtain⟨e,σ',h3,h4,h5,h6⟩:=F7 h;have:=xE (fun f vals σ v σ' hi=>by
     obtain⟨q,g1,g2⟩:=bind_some (show((Cc cx n ((nb+f+1)*1000) fH f vals σ.mem).bind fun r=>.ret (r.1,{ σ with mem:=r.2 })).run=some (v,σ') from hi);obtain⟨rfl,rfl⟩:=e9 (aN g2);exact fun b bx hb hl=>ih _ _ _ _ q g1 b bx hb hl) c _ _ _ h3
    rw[h6];exact this b bx hb hl
   rcases h3 with h3|⟨R,h3⟩
   ·exact body h3 b bx hb hl
   ·obtain⟨k,x,v,mem',hk,_,_,rfl⟩:=NA h3;exact C4 (fz:=false) (lock:=false) (wr:=[0]) (x:=x) hk b bx hb hl
theorem NB{fH:Nat→Aw}(n nb:Nat):∀f vals σ v σ',(QZ cx n nb fH f vals σ).run=some (v,σ')→bD σ σ':=by
 intro f vals σ v σ' hi;obtain⟨q,g1,g2⟩:=bind_some (show((Cc cx n ((nb+f+1)*1000) fH f vals σ.mem).bind fun r=>.ret (r.1,{ σ with mem:=r.2 })).run=some (v,σ') from hi);obtain⟨rfl,rfl⟩:=e9 (aN g2);exact fun b bx hb hl=>XN _ _ _ _ _ q g1 b bx hb hl
theorem Kj(vi:P.follows .mixedOrders=true)(hc:gA P cx){G:jN}(eS:rD P G cx)(XO:Vb cx){fH:Nat→Aw} :
  ∀(n nb f:Nat) (B:tJ) (γ:Gh) (mem mem':Nat→Option Box) (w:World) (vals:List aS) (xs:Array Value) (v:aS),B.G=G→bK B γ mem w→nx γ mem w vals xs.toList→(Cc cx n nb fH f vals mem).run=some (v,mem') →
  (∃fn code,P.funcs[f]?=some fn∧(fn.name == "runtime.NumGoroutine")=false∧fn.body=some code) ∧
  Calls P f xs w fun e w'=>∃val γ',e=.returned val∧bK B γ' mem' w'∧Ext B γ mem w γ' mem' w'∧cI γ' mem' w' v .val [val]:=by
 intro n;induction n with
 | zero=>intro nb f B γ mem mem' w vals xs v _ _ _ h;cases h
 | succ n ih =>
   intro nb f B γ mem mem' w vals xs v hG hm hv h;subst hG;obtain⟨fn,c,h1,h2,h3⟩:=Nz h;have hok:=XO f fn h1;simp only[aaS,h2,dW,nq,Cx] at hok;have hP:=hc.fns f fn h1;refine⟨⟨fn,c,hP,hok.1,h2⟩,?_⟩;have ny:yG P B.G (QZ cx n nb fH):=by
    intro B' γ σ agf w f vals xs v hG hm hv hi;obtain⟨q,g1,g2⟩:=bind_some (show((Cc cx n ((nb+f+1)*1000) fH f vals σ.mem).bind fun r=>.ret (r.1,{ σ with mem:=r.2 })).run=some (v,agf) from hi);obtain⟨rfl,rfl⟩:=e9 (aN g2);obtain⟨k1,k2⟩:=ih _ f B' γ σ.mem q.2 w vals xs q.1 hG hm hv g1;exact⟨k1,rfl,k2⟩
   have body:∀{γ:Gh} {mem mem':Nat→Option Box} {v:aS},bK B γ mem w→nx γ mem w vals xs.toList→(MD cx nb (fH f) (QZ cx n nb fH) fn c vals mem).run=some (v,mem') →
     Calls P f xs w fun e w'=>∃val γ',e=.returned val∧bK B γ' mem' w'∧Ext B γ mem w γ' mem' w'∧cI γ' mem' w' v .val [val]:=by
    intro γ mem mem' v hm hv h;obtain⟨e,σ',h3,h4,h5,h6⟩:=F7 h;dsimp only at h5 h6;subst h6;refine calls_of_wp hP h2 ?_;refine vk (B:=B) vi hc eS ny (NB _ _) c (fun t ht=>?_) h3 (Jl hm hv fn.ntmps) fun γ' a' w' s x f=>?_
    ·have:=hok.2 t ht;have:=KV (by simpa [Nat.blt] using this);omega
    ·obtain⟨val,r1,r2⟩:=zI (fn:=fn) hc s h5;have:a'.defers=[]∧∃v1,(results fn a'.tmps).run P w'=.ok v1 w'∧∃val γ',Ending.returned v1=.returned val∧bK B γ' σ'.mem w'∧Ext B γ mem w γ' σ'.mem w'∧cI γ' σ'.mem w' v .val [val] :=
      ⟨s.defers,val,r1,val,γ',rfl,s.ok,x,r2⟩
     rcases h4 with rfl|rfl
     ·exact this
     ·exact this
   rcases h3 with h3|⟨R,h3⟩
   ·exact body hm hv h3
   ·obtain⟨k,x,v1,ail,hk,h4,h5,h6⟩:=NA h3;obtain⟨rfl,rfl⟩:=e9 h6;have hlm:(k.lock (mE mem)).mem=wC (fun b bx=>bif Ah k.M b then bx.lk else true) mem:=Hv k (mE mem);have hm1:bK B γ (k.lock (mE mem)).mem w:=by rw[hlm];exact hm.wC
    have hx1:Ext B γ mem w γ (k.lock (mE mem)).mem w:=by rw[hlm];exact Ext.wC
    have hkeep:∀b bx,(k.lock (mE mem)).mem b=some bx→bx.lk=true→ail b=some bx:=by
     intro b bx hb hl;obtain⟨e,σ',g3,_,_,g6⟩:=F7 h4;have:=xE (fun f vals σ v σ' hi=>NB n nb f vals σ v σ' hi) c _ _ _ g3;rw[show ail=σ'.mem from g6];exact this b bx hb hl
    refine(body hm1 (hv.ext hx1) h4).mono fun e w' hw=>?_;obtain⟨val,jC,rfl,m1,x1,r1⟩:=hw;have s0:dB B 1 γ (mE mem) { tmps:=#[undef],defers:=[] } w:=⟨fun t=>⟨_,rfl⟩,rfl,rfl,hm⟩;have s1:dB B 1 jC (adg v1 ail) { tmps:=#[val],defers:=[] } w':=⟨fun t=>by
     cases t with
     | zero=>exact r1
     | succ t=>exact⟨_,rfl⟩,rfl,rfl,m1⟩
    obtain⟨s2,x2⟩:=vj (lock:=false) (wr:=[0]) hk s0 s1 (hx1.trans x1) (fun t ht=>by
     cases t with
     | zero=>cases ht
     | succ t=>rfl) (fun b bx hb hin=>⟨true,hkeep b _ (by rw[hlm];simp only[wC,show mem b=some bx from hb,hin,jM]) rfl⟩) h5
    exact⟨val,jC,rfl,s2.ok,x2,s2.slots 0⟩
end
end Go.Ge
namespace Go.Ge
variable [Lp]
open RowKit
section
variable {P:Program} {B:tJ} {N:Nat} {γ:Gh} {σ:St} {a:Act} {w:World} {cx:Ctx}
theorem SM{mem:Nat→Option Box}{I:Nat→Nat→Prop}{loc:Nat→Option (Nat×Nat)}:∀{A:Ty} {x:A.den} {xs:List Value},ju w I A x xs→nx ⟨I,loc⟩ mem w (I4 A x) xs:=by
 intro A;induction A with
 | pair t r Mw ihr =>
   intro x xs h;obtain⟨cs,rest,rfl,h1,h2⟩:=h;have:=ihr h2;refine⟨by simp[I4,this.1],fun i v y hv hy=>?_⟩;cases i with
   | zero =>
     obtain rfl:=aN hv;obtain rfl:=aN hy;exact⟨cs,h1,rfl⟩
   | succ i=>exact this.2 i v y (by simpa [I4] using hv) (by simpa using hy)
 | unit=>intro x xs h;rw[show xs=[] from h];exact⟨rfl,fun i v y hv=>by cases hv⟩
 | _=>intro x xs h;exact h.elim
theorem Vc(hm:bK B γ σ.mem w){I':Nat→Nat→Prop}(hI:∀b o,γ.I b o→I' b o)(WA:∀b o,B.has b→b<w.heap.size→I' b o):∀{R:Ty} {y:R.den} {u:aS} {vs:List Value},
  cI γ σ.mem w u .many vs→jo σ R (GQ u)=some y→cI ⟨I',fun _=>none⟩ (fun _=>none) w (CK R y) .many vs:=by
 intro R;induction R with
 | pair t r Mw ihr =>
   intro y u vs hu hl;cases u with
   | mix p q =>
     obtain⟨v,rest,rfl,h1,h2⟩:=hu;simp only[GQ,jo] at hl;split at hl
     ·rename_i x z hx hz;obtain rfl:=aN hl;obtain⟨cs,c1,c2⟩:=MV hm hI WA h1 hx;exact⟨v,rest,rfl,⟨cs,c1,by rw[c2]⟩,ihr h2 hz⟩
     ·cases hl
   | _=>cases hl
 | unit =>
   intro y u vs hu hl;cases u with
   | mix p q=>cases hl
   | nl=>exact hu
   | _=>exact(show False from hu).elim
 | _=>intro y u vs hu hl;cases u<;>cases hl
theorem Q0(hm:bK B γ σ.mem w){I':Nat→Nat→Prop}(hI:∀b o,γ.I b o→I' b o)(WA:∀b o,B.has b→b<w.heap.size→I' b o){R:Ty}{y:R.den}{v:aS}{val:Value}
  (hv:cI γ σ.mem w v .val [val]) (hl:jo σ R (GR R v)=some y):oe w I' R y val:=by
 have many:∀{R:Ty} {y:R.den},(xh R y=.FQ (CK R y))→(jo σ R (match v with|.FQ v=>GQ v|v=>[v])=some y)→(∀t,R≠.pair t .unit)→oe w I' R y val:=by
  intro R y hres hl hne;unfold oe;rw[hres];have one:∀{v':aS},jo σ R [v']=some y→False:=by
   intro v' h;cases R with
   | pair t r =>
     simp only[jo] at h;split at h
     ·rename_i hr;cases r with
      | unit=>exact hne t rfl
      | _=>cases hr
     ·cases h
   | _=>cases h
  cases v with
  | FQ u =>
    obtain⟨arr,h1,h2⟩:=hv;exact⟨arr,h1,Vc hm hI WA h2 hl⟩
  | _=>exact(one hl).elim
 cases R with
 | pair t r =>
   cases r with
   | unit =>
     simp only[GR,jo] at hl;split at hl
     ·rename_i x z hx hz;obtain rfl:=aN hl;obtain⟨cs,c1,c2⟩:=MV hm hI WA hv hx;exact⟨cs,c1,by rw[c2]⟩
     ·cases hl
   | _=>exact many rfl (by cases v<;>exact hl) (fun t e=>by cases e)
 | _=>exact many rfl (by cases v<;>exact hl) (fun t e=>by cases e)
theorem SN(vi:P.follows .mixedOrders=true)(hc:gA P cx){G:jN}(eS:rD P G cx)(XO:Vb cx){fH:Nat→Aw}{n f:Nat}{A R:Ty}{spec:A.den→Option R.den}
  {fn:Func} {code:Code} (hfn:find cx.fns f=some fn) (hbody:fn.body=some code) (h:∀x y,spec x=some y→sem cx n fH f A R x=some y):Holds P G f ⟨A,R,spec⟩ where
 body:=by
  have hok:=XO f fn hfn;simp only[aaS,hbody,dW,nq] at hok;exact⟨fn,code,hc.fns f fn hfn,hok.1,hbody⟩
 calls:=by
  intro I w args x y hI hG hargs hspec;have hs:=h x y hspec;unfold sem at hs;obtain⟨r,h1,h2⟩:=bind_some hs;obtain⟨v,mem'⟩:=r;have hl:jo (mE mem') R (GR R v)=some y:=by
   dsimp only at h2;split at h2
   ·rename_i y' hy';obtain rfl:=aN h2;exact hy'
   ·cases h2
  have hm:bK (nG G w.heap.size) ⟨I,fun _=>none⟩ (fun _=>none) w :=
   { bp:=fun b Q g=>by
      obtain⟨o,h1,h2⟩:=hG b Q g;exact⟨fun hb=>by have:=r9.1 hb;have:=(Array.getElem?_eq_some_iff.1 h1).1;omega,o,h1,h2⟩
     base:=cU _
     boxes:=fun b bx hb=>by cases hb
     inj:=fun b c blk k k' hb=>absurd rfl hb
     fresh:=fun b blk k hb=>absurd rfl hb
     we:=hI
     sep:=fun b bx blk k off hb=>by cases hb }
  obtain⟨_,MX⟩:=Kj vi hc eS XO n 0 f (nG G w.heap.size) ⟨I,fun _=>none⟩ (fun _=>none) mem' w (I4 A x) args v rfl hm (SM hargs) h1;refine MX.mono fun e w' hw=>?_;obtain⟨val,γ',rfl,m1,x1,r1⟩:=hw;refine⟨val,fun b o=>γ'.I b o∨(w.heap.size≤b∧b<w'.heap.size),rfl,x1.below.below,fun b o hi=>.inl (x1.I b o hi),fun b o hi=>?_,fun b o hi hn=>?_,?_⟩
  ·rcases hi with hi|hi
   ·exact m1.we b o hi
   ·exact hi.2
  ·rcases hi with hi|hi
   ·exact r9.1 ((x1.sg b o hi).resolve_left hn)
   ·exact hi.1
  ·exact Q0 (σ:=mE mem') m1 (fun b o hi=>.inl hi) (fun b o h1 h2=>.inr ⟨r9.1 h1,h2⟩) r1 hl
def Lm:List Nat→Nat→Nat→Option (Nat×Nat)
 | [],_,_=>none
 | blk::r,k,b=>if b=js k then some (blk,0) else Lm r (k+1) b
theorem Kk{i j:Nat}(h:js i=js j):i=j:=by unfold js at h;omega
theorem SO:∀{bs:List Nat} {k j blk:Nat},bs[j]?=some blk→Lm bs k (js (k+j))=some (blk,0):=by
 intro bs;induction bs with
 | nil=>intro k j blk h;cases h
 | cons x r ih =>
   intro k j blk h;cases j with
   | zero=>obtain rfl:=aN h;simp[Lm]
   | succ j =>
     simp only[Lm];rw[br (fun e=>by have:=Kk e;omega),show k+(j+1)=k+1+j by omega];exact ih (by simpa using h)
theorem Jm:∀{bs:List Nat} {k b blk q:Nat},Lm bs k b=some (blk,q)→∃j,bs[j]?=some blk∧b=js (k+j):=by
 intro bs;induction bs with
 | nil=>intro k b blk q h;cases h
 | cons x r ih =>
   intro k b blk q h;simp only[Lm] at h;split at h
   ·rename_i e;obtain⟨rfl,_⟩:=e9 (aN h);exact⟨0,rfl,e⟩
   ·obtain⟨j,h1,h2⟩:=ih h;exact⟨j+1,by simpa using h1,by rw[h2];congr 1;omega⟩
theorem agr{I:Nat→Nat→Prop}:∀{U:Ty} {u:U.den} {bs:List Nat} {k:Nat},zF w I U u bs→∀{j blk:Nat},bs[j]?=some blk →
  ∃bx,K2 U u k (js (k+j))=some bx∧bx.aC=0:=by
 intro U;induction U with
 | pair t U Mw Xb =>
   intro u bs k h j blk hj;obtain⟨b0,r,rfl,h1,h2⟩:=h;cases j with
   | zero=>exact⟨{ val:=.data t u.1,tid:=0,buf:=false,ro:=false,lk:=false,aC:=0 },by simp[K2],rfl⟩
   | succ j =>
     obtain⟨bx,g1,g2⟩:=Xb (k:=k+1) h2 (j:=j) (by simpa using hj);refine⟨bx,?_,g2⟩;simp only[K2];rw[ja (fun e=>by have:=Kk e;omega),jM,show k+(j+1)=k+1+j by omega];exact g1
 | unit=>intro u bs k h j blk hj;rw[show bs=[] from h] at hj;cases hj
 | _=>intro u bs k h;exact h.elim
theorem Q1{I:Nat→Nat→Prop}:∀{U:Ty} {u:U.den} {bs:List Nat} {k b:Nat} {bx:Box},zF w I U u bs→K2 U u k b=some bx →
  ∃j blk t,∃x:t.den,bs[j]?=some blk∧b=js (k+j)∧bx={ val:=.data t x,tid:=0,buf:=false,ro:=false,lk:=false,aC:=0 }∧adt w I t x blk:=by
 intro U;induction U with
 | pair t U Mw Xb =>
   intro u bs k b bx h hb;obtain⟨b0,r,rfl,h1,h2⟩:=h;simp only[K2] at hb;cases hq:Nat.beq b (js k) with
   | true =>
     rw[hq] at hb;exact⟨0,b0,t,u.1,rfl,gz hq,(aN hb).symm,h1⟩
   | false =>
     rw[hq] at hb;obtain⟨j,blk,t',x',g1,g2,g3,g4⟩:=Xb h2 hb;exact⟨j+1,blk,t',x',by simpa using g1,by rw[g2];congr 1;omega,g3,g4⟩
 | unit=>intro u bs k b bx h hb;cases hb
 | _=>intro u bs k b bx h;exact h.elim
theorem XP{mem:Nat→Option Box}:∀{ps:List Bool} {A U:Ty} {x:A.den} {xs:List Value} {bs:List Nat} {k:Nat},Uz w γ.I ps A U x xs bs →
  (∀j blk,bs[j]?=some blk→∃bx,mem (js (k+j))=some bx∧bx.aC=0∧γ.loc (js (k+j))=some (blk,0))→nx γ mem w (EW ps A U x k) xs:=by
 intro ps;induction ps with
 | nil =>
   intro A U x xs bs k h _;obtain⟨_,_,rfl,_⟩:=h;exact⟨rfl,fun i v y hv=>by cases hv⟩
 | cons p ps ih =>
   intro A U x xs bs k h hb;cases p with
   | false =>
     cases A<;>first|(exact(show False from h).elim)|skip
     rename_i t A;obtain⟨cs,rest,rfl,h1,h2⟩:=h;have:=ih h2 hb;refine⟨by simp[EW,this.1],fun i v y hv hy=>?_⟩;cases i with
     | zero =>
       obtain rfl:=aN hv;obtain rfl:=aN hy;exact⟨cs,h1,rfl⟩
     | succ i=>exact this.2 i v y (by simpa [EW] using hv) (by simpa using hy)
   | true =>
     cases U<;>first|(exact(show False from h).elim)|skip
     rename_i t U;obtain⟨blk,rest,r,rfl,rfl,h1⟩:=h;have:=ih (k:=k+1) h1 fun j dX hj=>by
      have:=hb (j+1) dX (by simpa using hj);rw[show k+(j+1)=k+1+j by omega] at this;exact this
     refine⟨by simp[EW,this.1],fun i v y hv hy=>?_⟩;cases i with
     | zero =>
       obtain rfl:=aN hv;obtain rfl:=aN hy;obtain⟨bx,g1,g2,g3⟩:=hb 0 blk rfl;exact⟨⟨_,rfl,rfl⟩,bx,g1,O4 g2.symm,fun _=>⟨blk,0,g3,rfl⟩⟩
     | succ i=>exact this.2 i v y (by simpa [EW] using hv) (by simpa using hy)
theorem XQ{mem:Nat→Option Box}:∀{u:aS} {vs:List Value},cI γ mem w u .many vs→nx γ mem w (GQ u) vs:=by
 intro u;induction u with
 | mix p q W4 Uv =>
   intro vs h;obtain⟨v,r,rfl,h1,h2⟩:=h;have:=Uv h2;refine⟨by simp[GQ,this.1],fun i v' y hv hy=>?_⟩;cases i with
   | zero =>
     obtain rfl:=aN hv;obtain rfl:=aN hy;exact h1
   | succ i=>exact this.2 i v' y (by simpa [GQ] using hv) (by simpa using hy)
 | nl=>intro vs h;rw[show vs=[] from h];exact⟨rfl,fun i v y hv=>by cases hv⟩
 | _=>intro vs h;exact(show False from h).elim
theorem XR{I:Nat→Nat→Prop}:∀{R:Ty} {y:R.den} {vs:List Value},ju w I R y vs→cI ⟨I,fun _=>none⟩ (fun _=>none) w (CK R y) .many vs:=by
 intro R;induction R with
 | pair t r Mw ihr =>
   intro y vs h;obtain⟨cs,rest,rfl,h1,h2⟩:=h;exact⟨_,rest,rfl,⟨cs,h1,rfl⟩,ihr h2⟩
 | unit=>intro y vs h;exact h
 | _=>intro y vs h;exact h.elim
theorem Vd{mem:Nat→Option Box}{v:aS}{x:Value}(h:cI γ mem w v .val [x]):nx γ mem w [v] [x]:=by
 refine⟨rfl,fun i v' y hv hy=>?_⟩;cases i with
 | zero =>
   obtain rfl:=aN hv;obtain rfl:=aN hy;exact h
 | succ i=>cases hv
theorem XS{mem:Nat→Option Box}{R:Ty}{v:aS}{val:Value}(hv:cI γ mem w v .val [val]) :
  ∃xs,nx γ mem w (GR R v) xs∧∀(I:Nat→Nat→Prop) (y:R.den),ju w I R y xs→oe w I R y val:=by
 have other:∀{R:Ty},(∀t,R≠.pair t .unit)→(∀y,xh R y=.FQ (CK R y))→∃xs,nx γ mem w (match v with|.FQ v=>GQ v|v=>[v]) xs∧∀(I:Nat→Nat→Prop) (y:R.den),ju w I R y xs→oe w I R y val:=by
  intro R hne hres;have one:nx γ mem w [v] [val]→∃xs,nx γ mem w [v] xs∧∀(I:Nat→Nat→Prop) (y:R.den),ju w I R y xs→oe w I R y val:=by
   intro h1;refine⟨[val],h1,fun I y h=>?_⟩;exfalso;cases R with
   | pair t r =>
     obtain⟨cs,rest,e,_,h2⟩:=h;obtain⟨_,rfl⟩:=ac2 e;cases r with
     | unit=>exact hne t rfl
     | pair a b=>obtain⟨_,_,e2,_⟩:=h2;cases e2
     | _=>exact h2.elim
   | unit=>cases (show [val]=[] from h)
   | _=>exact h.elim
  cases v with
  | FQ u =>
    obtain⟨arr,h1,h2⟩:=hv;refine⟨arr.toList,XQ h2,fun I y h=>?_⟩;unfold oe;rw[hres];exact⟨arr,h1,XR h⟩
  | _=>exact one (Vd hv)
 cases R with
 | pair t r =>
   cases r with
   | unit =>
     refine⟨[val],by cases v<;>exact Vd hv,fun I y h=>?_⟩;obtain⟨cs,rest,e,h1,h2⟩:=h;obtain⟨rfl,_⟩:=ac2 e;exact⟨cs,h1,rfl⟩
   | _ =>
     cases v<;>exact other (fun t' e=>by cases e) (fun y=>rfl)
 | _ =>
   cases v<;>exact other (fun t' e=>by cases e) (fun y=>rfl)
theorem XT{mem aj7:Nat→Option Box}{B0:tJ}{XH:Gh}{w0:World}{I:Nat→Nat→Prop}(hm:bK B γ mem w)(hx:Ext B0 XH aj7 w0 γ mem w):∀{U:Ty} {u y:U.den} {k:Nat} {bs:List Nat},zF w0 I U u bs →
  (∀j blk,bs[j]?=some blk→(∃bx,aj7 (js (k+j))=some bx∧bx.aC=0)∧XH.loc (js (k+j))=some (blk,0))→Ul mem U k=some y →
  zF w γ.I U y bs∧∀blk∈bs,∀o,¬γ.I blk o:=by
 intro U;induction U with
 | pair t U Mw Xb =>
   intro u y k bs h hb hr;obtain⟨blk,r,rfl,h1,h2⟩:=h;simp only[Ul] at hr;split at hr
   case h_2=>cases hr
   rename_i bx tK;cases hcd:(Nat.beq bx.aC 0&&!bx.buf&&!bx.ro) with
   | false=>rw[hcd] at hr;cases hr
   | true =>
     rw[hcd] at hr;simp only[dW,nq] at hcd;simp only[gp] at hr;split at hr
     case h_2=>cases hr
     rename_i x1 u1 g1 g2;obtain rfl:=aN hr;have hval:=UB g1;obtain⟨⟨dM,j1,j2⟩,j3⟩:=hb 0 blk rfl;rw[An] at j1 j3;obtain⟨iJ,q1,q2,q3⟩:=hx.boxes _ dM j1;rw[tK] at q1;obtain rfl:=aN q1;have bF:=gz hcd.1.1;have hl:=(q3 (by rw[bF,j2])).1;rw[j3] at hl;obtain⟨k1,k2⟩:=Xb (k:=k+1) h2 (fun j dX hj=>by
      have:=hb (j+1) dX (by simpa using hj);rw[show k+(j+1)=k+1+j by omega] at this;exact this) g2
     have jt:=hm.boxes _ bx tK;unfold cR at jt;rw[hcd.1.2] at jt;obtain⟨dX,cap,cur,tid,fr,a1,a2,a3,jb,a4⟩:=jt;rw[hl] at a1;obtain⟨rfl,_⟩:=e9 (aN a1);rw[hval] at a4;refine⟨⟨blk,r,rfl,⟨cur,tid,fr,a2,a3,a4⟩,k1⟩,fun b hbm o hi=>?_⟩;rcases List.mem_cons.1 hbm with rfl|hbm
     ·have:=(hm.sep _ bx b 0 o tK hl hi).1;rw[hcd.2] at this;cases this
     ·exact k2 b hbm o hi
 | unit =>
   intro u y k bs h hb hr;exact⟨h,fun b hbm=>by rw[show bs=[] from h] at hbm;cases hbm⟩
 | _=>intro u y k bs h;exact h.elim
theorem PB(vi:P.follows .mixedOrders=true)(hc:gA P cx){G:jN}(eS:rD P G cx)(XO:Vb cx){fH:Nat→Aw}{n f:Nat}{ps:List Bool}{A U R:Ty}{spec:A.den×U.den→Option (R.den×U.den)}
  {fn:Func} {code:Code} (hfn:find cx.fns f=some fn) (hbody:fn.body=some code) (h:∀x y,spec x=some y→ahZ cx n fH f ps A U R x=some y):p7 P G f ⟨ps,A,U,R,spec⟩ where
 body:=by
  have hok:=XO f fn hfn;simp only[aaS,hbody,dW,nq] at hok;exact⟨fn,code,hc.fns f fn hfn,hok.1,hbody⟩
 calls:=by
  intro I w args bs x u y hI hG hGb hargs hrefs hnd hfree hspec;have hs:=h (x,u) y hspec;unfold ahZ at hs;obtain⟨r,h1,h2⟩:=bind_some hs;obtain⟨v,mem'⟩:=r;obtain⟨y1,y2⟩:=y;have hg:∃σ1,lU (mE mem') R (GR R v)=some (y1,σ1)∧Ul σ1.mem U 0=some y2:=by
   dsimp only at h2;split at h2
   ·rename_i y' σ1 hy';split at h2
    ·rename_i u' Kb;obtain⟨rfl,rfl⟩:=e9 (aN h2);exact⟨σ1,hy',Kb⟩
    ·cases h2
   ·cases h2
  obtain⟨σ1,OU,hg2⟩:=hg;have Xd:∀j blk,bs[j]?=some blk→(∃bx,K2 U u 0 (js (0+j))=some bx∧bx.aC=0)∧Lm bs 0 (js (0+j))=some (blk,0):=fun j blk hj=>⟨agr hrefs hj,SO hj⟩;have hm:bK ⟨w.heap.size,(·∈bs),G⟩ ⟨I,Lm bs 0⟩ (K2 U u 0) w :=
   { bp:=fun b Q g=>by
      obtain⟨o,h1,h2⟩:=hG b Q g;refine⟨fun hb=>?_,o,h1,h2⟩;have:=(Array.getElem?_eq_some_iff.1 h1).1;rcases hb with hb|hb
      ·exact absurd this (by have hb':w.heap.size≤b:=hb;omega)
      ·exact hGb b Q g hb
     base:=cU _
     boxes:=fun b bx hb=>by
      obtain⟨j,blk,t,z,g1,g2,g3,g4⟩:=Q1 hrefs hb;subst g3;subst g2;obtain⟨cur,tid,fr,k1,k2,k3⟩:=g4;exact⟨blk,0,cur,tid,fr,SO g1,k1,k2,.inl rfl,k3⟩
     inj:=fun b c blk k k' hb hc' e1 e2=>by
      obtain⟨i,i1,i2⟩:=Jm e1;obtain⟨j,j1,j2⟩:=Jm e2;have hij:i=j:=by
       have hi:=(List.getElem?_eq_some_iff.1 i1).1;exact(List.getElem?_inj hi hnd).1 (i1.trans j1.symm)
      subst hij;rw[i2,j2]
     fresh:=fun b blk k hb e1=>by
      cases hq:K2 U u 0 b with
      | none=>exact absurd hq hb
      | some bx =>
        obtain⟨j,dX,t,z,g1,g2,g3,g4⟩:=Q1 hrefs hq;have e1':Lm bs 0 b=some (blk,k):=e1;rw[g2,SO g1] at e1';obtain⟨rfl,_⟩:=e9 (aN e1');obtain⟨cur,tid,fr,k1,k2,k3⟩:=g4;exact⟨.inr (gm g1),(Array.getElem?_eq_some_iff.1 k1).1⟩
     we:=hI
     sep:=fun b bx blk k off hb e1 hi=>by
      obtain⟨j,j1,_⟩:=Jm e1;exact(hfree blk (gm j1) off hi).elim }
  have hv:nx ⟨I,Lm bs 0⟩ (K2 U u 0) w (EW ps A U x 0) args.toList:=XP (γ:=⟨I,Lm bs 0⟩) hargs fun j blk hj=>by
   obtain⟨⟨bx,g1,g2⟩,g3⟩:=Xd j blk hj;exact⟨bx,g1,g2,g3⟩
  obtain⟨_,MX⟩:=Kj vi hc eS XO n 0 f ⟨w.heap.size,(·∈bs),G⟩ ⟨I,Lm bs 0⟩ (K2 U u 0) mem' w (EW ps A U x 0) args v rfl hm hv h1;refine MX.mono fun e w' hw=>?_;obtain⟨val,γ',rfl,m1,x1,r1⟩:=hw;obtain⟨xs,u1,u2⟩:=XS (R:=R) r1;have XU:dB ⟨w.heap.size,(·∈bs),G⟩ 0 γ' (mE mem') { tmps:=#[],defers:=[] } w' :=
   { slots:=fun t=>⟨_,rfl⟩
     size:=rfl
     defers:=rfl
     ok:=m1 }
  obtain⟨I9,s1,s2,s3⟩:=uy XU u1 OU;have xx:=x1.trans s2;obtain⟨k1,k2⟩:=XT s1.ok xx hrefs Xd hg2;refine⟨val,I9.I,rfl,xx.below,xx.I,s1.ok.we,fun b o hi hn=>?_,u2 _ _ s3,k1⟩;rcases(xx.sg b o hi).resolve_left hn with q|q
  ·exact q
  ·exact(k2 b q o hi).elim
end
end Go.Ge
namespace Go.Ge
open RowKit ChangeShapes
def vN{α:Type}(f:α→Nat):List α→Nat
 | []=>0
 | x::r=>f x+vN f r
def Ty.bulk:(t:Ty)→t.den→Nat
 | .int _,_=>1
 | .bool,_=>1
 | .str,s=>List.length (α:=UInt8) s+1
 | .slice e,l=>vN e.bulk l+1
 | .arr _ e,l=>vN e.bulk l
 | .pair a b,x=>a.bulk x.1+b.bulk x.2
 | .unit,_=>0
 | .alt _ _ _,_=>0
 | .CG,_=>0
def Ty.E5:Ty→Bool
 | .slice e=>e.E5
 | .arr _ e=>e.E5
 | .pair a b=>a.E5&&b.E5
 | .alt _ _ _=>false
 | .CG=>false
 | _=>true
structure NC {H:Type} (bulk:DataW H→Nat) (all:List (DataW H)→Nat):Prop where
 lit:∀l,1≤bulk (.lit l)
 str:∀s,bulk (.lit (.string s))=s.length+1
 nil:1≤bulk .nil
 slice:∀e s,bulk (.slice e s)=all e+all s+1
 agg:∀p,bulk (.agg p)=all p+1
 none:all []=0
 cons:∀d r,all (d::r)=bulk d+all r
theorem Ej{α β:Type}{f:α→Option β}:∀{l:List α} {ys:List β},l.mapM f=some ys→ys.length=l.length∧∀(i:Nat) x,l[i]?=some x→f x=ys[i]?:=by
 intro l;induction l with
 | nil=>intro ys h;obtain rfl:=aN (show some []=some ys by simpa using h);exact⟨rfl,fun i x hx=>by cases hx⟩
 | cons a l ih =>
   intro ys h;rw[Ze] at h;obtain⟨y,h1,h2⟩:=Option.bind_eq_some_iff.1 h;obtain⟨zs,h3,h4⟩:=Option.bind_eq_some_iff.1 h2;obtain rfl:y::zs=ys:=aN h4;obtain⟨k1,k2⟩:=ih h3;refine⟨by simp[k1],fun i x hx=>?_⟩;cases i with
   | zero=>obtain rfl:=aN hx;exact h1
   | succ i=>exact k2 i x (by simpa using hx)
theorem Kl{α β:Type}{R:Nat→α→β→Prop}:∀{ys:List β} {k:Nat},(∀i y,ys[i]?=some y→∃x,R (k+i) x y)→∃xs:List α,xs.length=ys.length∧∀i x y,xs[i]?=some x→ys[i]?=some y→R (k+i) x y:=by
 intro ys;induction ys with
 | nil=>intro k _;exact⟨[],rfl,fun i x y h=>by cases h⟩
 | cons y ys ih =>
   intro k h;obtain⟨x,hx⟩:=h 0 y rfl;obtain⟨xs,h1,h2⟩:=ih (k:=k+1) fun i y hy=>by
    have:=h (i+1) y (by simpa using hy)
    rwa [show k+(i+1)=k+1+i by omega] at this
   refine⟨x::xs,by simp[h1],fun i x' y' hx' hy'=>?_⟩;cases i with
   | zero=>obtain rfl:=aN hx';obtain rfl:=aN hy';exact hx
   | succ i =>
     rw[show k+(i+1)=k+1+i by omega];exact h2 i x' y' (by simpa using hx') (by simpa using hy')
theorem Zw{α β:Type}{f:α→Nat}{g:β→Nat}:∀{xs:List α} {ys:List β},xs.length=ys.length→(∀(i:Nat) x y,xs[i]?=some x→ys[i]?=some y→f x≤g y)→vN f xs≤vN g ys:=by
 intro xs;induction xs with
 | nil=>intro ys _ _;exact rT _
 | cons x xs ih =>
   intro ys hl h;cases ys with
   | nil=>cases hl
   | cons y ys =>
     have h1:=h 0 x y rfl rfl;have h2:=ih (ys:=ys) (by simpa using hl) fun i x y hx hy=>h (i+1) x y (by simpa using hx) (by simpa using hy);simp only[vN];omega
section
variable {H:Type} {enc:TypeId×Value→H} {P:Program} {w:World} {held:Bool} {bulk:DataW H→Nat} {all:List (DataW H)→Nat}
theorem Zx(hb:NC bulk all){β:Type}(f:β→DataW H):∀l:List β,all (l.map f)=vN (fun y=>bulk (f y)) l:=by
 intro l;induction l with
 | nil=>exact hb.none
 | cons y l ih=>rw[JY,hb.cons,ih];rfl
def old(w:World):Nat→Nat→Prop:=fun b _=>b<w.heap.size
theorem Km{a:Addr}{n:Nat}{cs:List Value}(h:w.cells? 0 a n=some cs):cs.length=n∧∀j,j<n→w.cell? (a.add j)=cs[j]?:=by
 unfold World.cells? at h;rw[bu (rT _)] at h;obtain⟨h1,h2⟩:=Ej h;refine⟨by simpa using h1,fun j hj=>h2 j j ?_⟩;simp[hj]
theorem Ve{b o:Nat}{v:Value}{sp:Option Nat}(h:w.cell? ⟨b,o,sp⟩=some v):b<w.heap.size∧sp=none:=by
 unfold World.cell? at h;split at h
 ·rename_i c t f hg;refine⟨(Array.getElem?_eq_some_iff.1 hg).1,?_⟩;split at h
  ·cases h
  ·rename_i hs;cases sp with
   | none=>rfl
   | some s=>exact absurd rfl hs
 ·cases h
theorem ad0(hb:NC bulk all):∀{t:Ty},t.E5=true →
  (∀{fuel tid:Nat} {cs:List Value} {d:DataW H} {ps:List MemPlace},Den P t tid→DataW.trod enc P w 0 (fun _=>true) held fuel tid cs=some (d,ps)→∃x:t.den,bN w (old w) t x cs∧t.bulk x≤bulk d) ∧
  (∀{fuel off:Nat} {fs:List Field} {cs:List Value} {xs:List (DataW H×List MemPlace)},rS P t off fs→(fs.mapM fun f=>DataW.trod enc P w 0 (fun _=>true) held fuel f.type ((cs.drop f.offset).take (P.cellsOf f.type)))=some xs →
   cs.length=off+t.size→∃x:t.den,bN w (old w) t x (cs.drop off)∧t.bulk x≤all (xs.map (·.1))):=by
 intro t;induction t with
 | int k =>
   intro hna;refine⟨fun {fuel tid cs d ps} hd h=>?_,fun hd=>by simp[rS,fI] at hd⟩;cases fuel with
   | zero=>cases h
   | succ fuel =>
     simp only[DataW.trod,hd.int] at h;split at h<;>first|(exfalso;simp_all;done)|skip
     rename_i k0 k' n hk;split at h
     ·rename_i hc;obtain⟨rfl,rfl⟩:=e9 (aN h);injection hk with hk;injection hk with hk;subst hk
      obtain⟨rfl,hwf⟩:=hc;simp only[Lit.wf,dW,nY] at hwf;exact⟨(n:Int),⟨rfl,hwf.1,hwf.2⟩,hb.lit _⟩
     ·cases h
 | bool =>
   intro hna;refine⟨fun {fuel tid cs d ps} hd h=>?_,fun hd=>by simp[rS,fI] at hd⟩;cases fuel with
   | zero=>cases h
   | succ fuel =>
     simp only[DataW.trod,hd.bool] at h;split at h<;>first|(exfalso;simp_all;done)|skip
     rename_i b _;obtain⟨rfl,rfl⟩:=e9 (aN h);exact⟨b,rfl,hb.lit _⟩
 | str =>
   intro hna;refine⟨fun {fuel tid cs d ps} hd h=>?_,fun hd=>by simp[rS,fI] at hd⟩;cases fuel with
   | zero=>cases h
   | succ fuel =>
     simp only[DataW.trod,hd.str] at h;split at h<;>first|(exfalso;simp_all;done)|skip
     rename_i s _;split at h
     ·rename_i hs;obtain⟨rfl,rfl⟩:=e9 (aN h);refine⟨s.data.toList,⟨?_,?_⟩,?_⟩
      ·rfl
      ·have:List.length (α:=UInt8) s.data.toList=s.size:=WH;rw[this];exact hs
      ·rw[hb.str];exact cU _
     ·cases h
 | slice e ih =>
   intro hna;have ih:=ih hna;refine⟨fun {fuel tid cs d ps} hd h=>?_,fun hd=>by simp[rS,fI] at hd⟩;obtain⟨gd,h1,h2,h3,h4⟩:=hd.slice;cases fuel with
   | zero=>cases h
   | succ fuel =>
     simp only[DataW.trod,h1] at h;split at h<;>first|(exfalso;simp_all;done)|skip
     ·obtain⟨rfl,rfl⟩:=e9 (aN h);exact⟨([]:List e.den),.inl ⟨⟨none,rfl⟩,rfl⟩,hb.nil⟩
     ·rename_i e' a len cap he;injection he with he;injection he with he;subst he
      split at h
      case isFalse=>cases h
      rename_i hc;obtain⟨hc1,hc2,hc3⟩:=hc;obtain⟨elems,g1,g2⟩:=Option.bind_eq_some_iff.1 h;obtain⟨rest,g3,g4⟩:=Option.map_eq_some_iff.1 g2;obtain⟨rfl,rfl⟩:=e9 g4;simp only[nZ] at g3;obtain⟨k1,k2⟩:=Ej g1;obtain⟨m1,m2⟩:=Ej g3;simp only[Y7] at k1 m1;rw[h2.cells] at k2 m2;by_cases hcap:cap=0
      ·subst hcap;obtain rfl:len=0:=by omega
       exact⟨([]:List e.den),.inl ⟨⟨some a,rfl⟩,rfl⟩,by rw[hb.slice];simp[Ty.bulk,vN]⟩
      ·
       have jt:∃y,(w.cells? 0 a e.size).bind (DataW.trod enc P w 0 (fun _=>true) held fuel gd)=some y:=by
        by_cases hlen:len=0
        ·have:=m2 0 0 (QC (by omega));have hlt:0<rest.length:=by omega
         rw[kL hlt] at this;rw[hlen] at this;simp only[ym,QG] at this;exact⟨_,by rw[←this];simp[Addr.add]⟩
        ·have:=k2 0 0 (QC (by omega));have hlt:0<elems.length:=by omega
         rw[kL hlt] at this;simp only[QG] at this;exact⟨_,by rw[←this];simp[Addr.add]⟩
       obtain⟨y,hy⟩:=jt;obtain⟨es,hes,_⟩:=Option.bind_eq_some_iff.1 hy;obtain⟨z1,z2⟩:=Km hes;have z3:=z2 0 h4;rw[kL (by omega)] at z3;have ad1:a.spot=none:=by
        have:a.add 0=a:=by simp[Addr.add]
        rw[this] at z3;obtain⟨blk,off,sp⟩:=a;exact(Ve z3).2
       obtain⟨blk,off,sp⟩:=a;dsimp only at ad1;subst ad1;obtain⟨xs,x1,x2⟩:=Kl (R:=fun i (x:e.den) (y:DataW H×List MemPlace)=>(∃es:List Value,es.length=e.size ∧
         (∀(j:Nat) v,es[j]?=some v→w.cell? ⟨blk,off+i*e.size+j,none⟩=some v∧old w blk (off+i*e.size+j))∧bN w (old w) e x es)∧e.bulk x≤bulk y.1) (ys:=elems) (k:=0) fun i y hi=>by
        have hlt:=(List.getElem?_eq_some_iff.1 hi).1;have:=k2 i i (QC (by omega));rw[hi] at this;obtain⟨es,q1,q2⟩:=Option.bind_eq_some_iff.1 this;rw[addr_add] at q1;obtain⟨q3,q4⟩:=Km q1;obtain⟨x,r1,r2⟩:=ih.1 (d:=y.1) (ps:=y.2) h2 q2;refine⟨x,⟨es,q3,fun j v hv=>?_,r1⟩,r2⟩;have hj:=(List.getElem?_eq_some_iff.1 hv).1;have:=q4 j (by omega);rw[addr_add,hv] at this;rw[ym];exact⟨this,(Ve this).1⟩
       refine⟨xs,.inr ⟨blk,off,cap,?_,?_,hc3,fun i x hx=>?_⟩,?_⟩
       ·show [Value.slice _ len cap]=[Value.slice _ (List.length (α:=e.den) xs) cap]
        rw[x1,k1]
       ·show List.length (α:=e.den) xs≤cap
        rw[x1,k1];exact hc2
       ·have hx':xs[i]?=some x:=hx;have hlt:=(List.getElem?_eq_some_iff.1 hx').1;obtain⟨y,hy⟩:∃y,elems[i]?=some y:=⟨_,kL (by omega)⟩;have:=(x2 i x y hx' hy).1;rw[ym] at this;exact this
       ·rw[hb.slice,Zx hb];have:=Zw (f:=e.bulk) (g:=fun y:DataW H×List MemPlace=>bulk y.1) x1 fun i x y hx hy=>(x2 i x y hx hy).2;show vN e.bulk xs+1≤_
        omega
 | arr n e ih =>
   intro hna;have ih:=ih hna;refine⟨fun {fuel tid cs d ps} hd h=>?_,fun hd=>by simp[rS,fI] at hd⟩;obtain⟨gd,h1,h2,h4⟩:=hd.arr;cases fuel with
   | zero=>cases h
   | succ fuel =>
     simp only[DataW.trod,h1] at h;split at h
     case isFalse=>cases h
     rename_i hc;obtain⟨ys,g1,g2⟩:=Option.map_eq_some_iff.1 h;obtain⟨rfl,rfl⟩:=e9 g2;obtain⟨k1,k2⟩:=Ej g1;simp only[Y7] at k1;rw[h2.cells] at k2;obtain⟨xs,x1,x2⟩:=Kl (R:=fun i (x:e.den) (y:DataW H×List MemPlace)=>bN w (old w) e x ((cs.drop (i*e.size)).take e.size)∧e.bulk x≤bulk y.1) (ys:=ys) (k:=0) fun i y hi=>by
      have hlt:=(List.getElem?_eq_some_iff.1 hi).1;have:=k2 i i (QC (by omega));rw[hi] at this;obtain⟨x,r1,r2⟩:=ih.1 (d:=y.1) (ps:=y.2) h2 this;exact⟨x,by rw[ym];exact r1,r2⟩
     refine⟨xs,⟨?_,?_,fun i x hx=>?_⟩,?_⟩
     ·show List.length (α:=e.den) xs=n
      rw[x1,k1]
     ·rw[hc,hd.cells];rfl
     ·have hx':xs[i]?=some x:=hx;have hlt:=(List.getElem?_eq_some_iff.1 hx').1;obtain⟨y,hy⟩:∃y,ys[i]?=some y:=⟨_,kL (by omega)⟩;have:=(x2 i x y hx' hy).1;rw[ym] at this;exact this
     ·rw[hb.agg,Zx hb];have:=Zw (f:=e.bulk) (g:=fun y:DataW H×List MemPlace=>bulk y.1) x1 fun i x y hx hy=>(x2 i x y hx hy).2;show vN e.bulk xs≤_
      omega
 | pair a b kM nV =>
   intro hna;simp only[Ty.E5,dW] at hna;have kM:=kM hna.1;have nV:=nV hna.2;have chain:∀{fuel off:Nat} {fs:List Field} {cs:List Value} {xs:List (DataW H×List MemPlace)},rS P (.pair a b) off fs→(fs.mapM fun f=>DataW.trod enc P w 0 (fun _=>true) held fuel f.type ((cs.drop f.offset).take (P.cellsOf f.type)))=some xs →
     cs.length=off+(Ty.pair a b).size→∃x:(Ty.pair a b).den,bN w (old w) (.pair a b) x (cs.drop off)∧(Ty.pair a b).bulk x≤all (xs.map (·.1)):=by
    intro fuel off fs cs xs hd h hl;obtain⟨f,r,rfl,f1,_,f2,f3,f4⟩:=hd.cons;rw[Ze] at h;obtain⟨y,g1,g2⟩:=Option.bind_eq_some_iff.1 h;obtain⟨ys,g3,g4⟩:=Option.bind_eq_some_iff.1 g2;obtain rfl:y::ys=xs:=aN g4;rw[f1,f2.cells] at g1;obtain⟨x1,p1,p2⟩:=kM.1 (d:=y.1) (ps:=y.2) f2 g1;obtain⟨x2,q1,q2⟩:=nV.2 f4 g3 (by simp only[Ty.size] at hl;omega);refine⟨(x1,x2),⟨_,_,?_,p1,q1⟩,?_⟩
    ·rw[←zw,CE]
    ·rw[JY,hb.cons];show a.bulk x1+b.bulk x2≤_
     omega
   refine⟨fun {fuel tid cs d ps} hd h=>?_,chain⟩;obtain⟨fs,h1,h2,_⟩:=hd.pair;cases fuel with
   | zero=>cases h
   | succ fuel =>
     simp only[DataW.trod,h1] at h;split at h
     case isFalse=>cases h
     rename_i hc;obtain⟨ys,g1,g2⟩:=Option.map_eq_some_iff.1 h;obtain⟨rfl,rfl⟩:=e9 g2;rw[hd.cells] at hc;obtain⟨x,r1,r2⟩:=chain h2 g1 (by rw[hc,ym]);exact⟨x,by simpa using r1,by rw[hb.agg];omega⟩
 | alt u a r kM ihr=>intro hna;cases hna
 | CG=>intro hna;cases hna
 | unit =>
   intro hna;refine⟨fun hd=>by simp[Den,fI] at hd,fun {fuel off fs cs xs} hd h hl=>?_⟩;exact⟨(),by show cs.drop off=[];rw[List.drop_eq_nil_iff];simp[Ty.size] at hl;omega,rT _⟩
end
end Go.Ge
namespace Go.Ge
open RowKit ChangeShapes WideShapes
def XV(P:Program):Ty→List TypeId→Prop
 | .pair t r,tid::ts=>Den P t tid∧XV P r ts
 | .unit,[]=>True
 | _,_=>False
section
variable {H:Type} {enc:TypeId×Value→H} {P:Program} {w:World} {held:Bool} {bulk:DataW H→Nat} {all:List (DataW H)→Nat}
theorem Vf{t:Ty}{tid base:Nat}{v:Value}{x:t.den}(hna:t.E5=true)(hd:Den P t tid)(hv:Value.okWide P w .any base tid v)(hr:bN w (old w) t x v.cells.toList):v=cM t v.cells.toList:=by
 cases t with
 | int k=>obtain⟨n,rfl⟩:=okWide_int hd.int hv;rfl
 | bool=>obtain⟨b,rfl⟩:=okWide_bool hd.bool hv;rfl
 | str=>obtain⟨s,rfl⟩:=okWide_string hd.str hv;rfl
 | slice e=>obtain⟨gd,h1,_⟩:=hd.slice;obtain⟨a,len,cap,rfl⟩:=okWide_slice h1 hv;rfl
 | pair a b=>obtain⟨fs,h1,_⟩:=hd.pair;obtain⟨cs,rfl,_⟩:=okWide_struct h1 hv;simp[cM,Ty.isAgg,Value.cells]
 | arr n e =>
   obtain⟨gd,h1,_⟩:=hd.arr;unfold Value.okWide at hv;rw[h1] at hv;obtain⟨cs,rfl,_⟩:=hv;simp[cM,Ty.isAgg,Value.cells]
 | unit=>simp[Den,fI] at hd
 | alt u a r=>cases hna
 | CG=>cases hna
theorem ad2(hb:NC bulk all){base:Nat}:∀{A:Ty} {ts:List TypeId} {vs:List Value} {ds:List (DataW H)} {ps:List MemPlace},A.E5=true→XV P A ts→DataW.TrodAll enc P w 0 (fun _=>true) held ts vs ds ps →
  (∀(j:Nat) t v,ts[j]?=some t→vs[j]?=some v→Value.okWide P w .any base t v)→∃x:A.den,ju w (old w) A x vs∧A.bulk x≤all ds:=by
 intro A;induction A with
 | pair t r Mw ihr =>
   intro ts vs ds ps hna hd h hval;simp only[Ty.E5,dW] at hna;cases ts with
   | nil=>exact hd.elim
   | cons tid ts =>
     obtain⟨h1,h2⟩:=hd;obtain⟨v,vs',d,ds',p,q,rfl,rfl,rfl,⟨fuel,hf⟩,hs⟩:=trodAll_cons h;obtain⟨x,r1,r2⟩:=(ad0 hb hna.1).1 h1 hf;obtain⟨y,s1,s2⟩:=ihr hna.2 h2 hs fun j t v hj hv=>hval (j+1) t v (by simpa using hj) (by simpa using hv);refine⟨(x,y),⟨v.cells.toList,vs',?_,r1,s1⟩,?_⟩
     ·rw[←Vf hna.1 h1 (hval 0 tid v rfl rfl) r1]
     ·rw[hb.cons];show t.bulk x+r.bulk y≤_
      omega
 | unit =>
   intro ts vs ds ps hna hd h hval;cases ts with
   | nil =>
     obtain⟨rfl,rfl,rfl⟩:=trodAll_nil h;exact⟨(),rfl,rT _⟩
   | cons tid ts=>exact hd.elim
 | _=>intro ts vs ds ps hna hd;exact hd.elim
theorem PC(hl:laidOutB P=true){W W':World}{sp:Nat→Bool}:∀{ts:List TypeId} {vs:List Value} {ds:List (DataW H)} {ps:List MemPlace},(∀t∈ts,P.readableRec t=true∧t<P.types.size) →
  DataW.TrodAll enc P W 0 (fun _=>true) true ts vs ds ps→(∀p∈ps,W.sameAt W' p)→(∀p∈ps,sp p.block=true)→DataW.TrodAll enc P W' 0 sp true ts vs ds ps:=by
 intro ts;induction ts with
 | nil=>intro vs ds ps _ h _ _;obtain⟨rfl,rfl,rfl⟩:=trodAll_nil h;rfl
 | cons t ts ih =>
   intro vs ds ps hr h hsame hsp;obtain⟨v,vs',d,ds',p,q,rfl,rfl,rfl,h1,h2⟩:=trodAll_cons h;refine⟨p,q,WideElems.Trod_stays hl (hr t (nX ..)).1 (hr t (nX ..)).2 h1 (fun x hx=>hsame x (GH _ hx)) (fun x hx=>hsp x (GH _ hx)),?_,rfl⟩;exact ih (fun t ht=>hr t (qU _ ht)) h2 (fun x hx=>hsame x (KW _ hx)) (fun x hx=>hsp x (KW _ hx))
def Ty.ok:(t:Ty)→t.den→Prop
 | .int k,n=>k.min≤(show Int from n)∧(show Int from n)≤k.max
 | .bool,_=>True
 | .str,s=>List.length (α:=UInt8) s≤maxLen
 | .slice e,l=>∀(i:Nat) (x:e.den),(show List e.den from l)[i]?=some x→e.ok x
 | .arr n e,l=>List.length (α:=e.den) l=n∧∀(i:Nat) (x:e.den),(show List e.den from l)[i]?=some x→e.ok x
 | .pair a b,x=>a.ok x.1∧b.ok x.2
 | .unit,_=>True
 | .alt _ _ _,_=>True
 | .CG,_=>True
theorem bN.ok{I:Nat→Nat→Prop}:∀{t:Ty} {x:t.den} {cs:List Value},bN w I t x cs→t.ok x:=by
 intro t;induction t with
 | int k=>intro x cs h;exact h.2
 | bool=>intro x cs h;trivial
 | str=>intro x cs h;exact h.2
 | slice e ih =>
   intro x cs h i y hy;rcases h with ⟨_,h⟩|⟨blk,off,cap,h1,h2,h3,h4⟩
   ·rw[show(show List e.den from x)=[] from h] at hy;cases hy
   ·obtain⟨es,_,_,hr⟩:=h4 i y hy;exact ih hr
 | arr n e ih=>intro x cs h;exact⟨h.1,fun i y hy=>ih (h.2.2 i y hy)⟩
 | pair a b kM nV=>intro x cs h;obtain⟨c1,c2,_,h1,h2⟩:=h;exact⟨kM h1,nV h2⟩
 | unit=>intro x cs h;trivial
 | alt u a r=>intro x cs h;trivial
 | CG=>intro x cs h;trivial
theorem ju.ok{I:Nat→Nat→Prop}:∀{A:Ty} {x:A.den} {xs:List Value},ju w I A x xs→A.ok x:=by
 intro A;induction A with
 | pair t r Mw ihr=>intro x xs h;obtain⟨cs,rest,_,h1,h2⟩:=h;exact⟨h1.ok,ihr h2⟩
 | unit=>intro x xs h;trivial
 | _=>intro x xs h;exact h.elim
theorem aaT(hb:NC bulk all)(hl:laidOutB P=true){fid tb:Nat}{fn:Func}{s:ChangeSpec}{A:Ty}{spec:A.den→Option (Ty.pair .bool .unit).den}{apart fresh handsOn:Bool}
  (yp:XV P A fn.params.toList) (hread:∀t∈fn.params.toList,P.readableRec t=true∧t<P.types.size) (hres:fn.resultTypes=#[tb]) (htb:P.underlying tb=some .bool) (hsv:s.vars=[])
  (hs:∀ds:List (DataW H),ds.length=fn.params.toList.length→s.fn H ds={ results:=[.lit (.bool true)],args:=ds }) {G:jN} (hh:Holds P G fid ⟨A,.pair .bool .unit,spec⟩)
  {W:World} (hG:I5 G W) {base:Nat} {args:Array Value} {ds gs:List (DataW H)} {before:List MemPlace} (hval:∀(j:Nat) t v,fn.params[j]?=some t→args[j]?=some v→Value.okWide P W .any base t v)
  (hW:DataW.Whole enc P fn.params.toList s.vars apart W args.toList ds gs before) (hspec:∀x:A.den,A.ok x→A.bulk x≤all (ds++gs)→spec x=some (true,())) (hna:A.E5=true:=by rfl) :
  Calls P fid args W fun e W'=>∃v,e=.returned v∧s.post enc P fn apart fresh handsOn false W args v W':=by
 have hlt:=hW.lt;have hW':=hW;obtain⟨p,q,hA,hV,rfl,hfz,hnd⟩:=hW;rw[hsv] at hV;obtain⟨rfl,rfl⟩:=trodVars_none hV;simp only[Am] at hW' hlt hspec;obtain⟨x,x1,x2⟩:=ad2 hb (base:=base) hna yp hA fun j t v hj hv=>hval j t v (by simpa using hj) (by simpa using hv);have hlen:∀{ts:List TypeId} {vs:List Value} {ds:List (DataW H)} {ps:List MemPlace},DataW.TrodAll enc P W 0 (fun _=>true) true ts vs ds ps→ds.length=ts.length:=by
  intro ts;induction ts with
  | nil=>intro vs ds ps h;obtain⟨_,rfl,_⟩:=trodAll_nil h;rfl
  | cons t ts ih=>intro vs ds ps h;obtain⟨v,vs',d,ds',p,q,rfl,rfl,rfl,h1,h2⟩:=trodAll_cons h;simp[ih h2]
 have hfn:=hs ds (hlen hA);refine(hh.calls (old W) W args x (true,()) (fun b o h=>h) hG x1 (hspec x x1.ok x2)).mono fun e W' hw=>?_;obtain⟨v,I',rfl,b1,_,_,_,hr⟩:=hw;obtain⟨cs,rfl,hv⟩:=hr;obtain rfl:v=.bool true:=by simpa [cM,Ty.isAgg] using hv
 refine⟨_,rfl,ds,[],p,[],p,[],hW',?_,?_,?_,b1.frame _,fun h=>by cases h⟩
 ·rw[Am,hfn,hres];exact trodAll_mk1 (shut_bool htb true)
 ·rw[Am,hfn];exact PC hl hread hA (fun x hx=>b1.same (hlt x hx)) (fun x hx=>by simpa using hlt x hx)
 ·rw[Am,hfn,hsv];rfl
end
end Go.Ge
namespace Go.Ge
variable [Lp]
open RowKit
def ags(cx:Ctx)(bf:List Nat)(rs:List ResultVar)(R:Ty)(c:Code)(σ:St):Option R.den :=
 ((jB cx 0 bf CN c [] σ).bind fun r=>bif Nat.beq r.1 1 then((results1 cx r.2 rs).bind fun v=>match jo (mE r.2.mem) R (GR R v) with
  | some y=>.ret y
  | none=>.fail) else .fail).run
section
variable {P:Program} {cx:Ctx} {bf:List Nat}
theorem Hy{G:jN}:yG P G CN:=fun B γ σ σ' w f vals xs v _ _ _ h=>by cases h
theorem Bo:∀f vals σ v σ',(CN f vals σ).run=some (v,σ')→bD σ σ':=fun f vals σ v σ' h=>by cases h
def Ends(w:World)(I:Nat→Nat→Prop)(R:Ty)(y:R.den)(e:Ending)(w':World):Prop :=
 ∃v I',e=.returned v∧Below w.heap.size w w'∧(∀b o,I b o→I' b o)∧(∀b o,I' b o→b<w'.heap.size)∧(∀b o,I' b o→¬I b o→w.heap.size≤b)∧oe w' I' R y v
theorem Q2{Q:Exit→Act→World→Prop}(vi:P.follows .mixedOrders=true)(hc:gA P cx){G:jN}(eS:rD P G cx){fn:Func}{R:Ty}{y:R.den}{c:Code}{σ:St}{γ:Gh}{a:Act}{w0 w:World}{N:Nat}{I:Nat→Nat→Prop}
  (hd:∀t∈writes c,t<N) (hf:ags cx bf fn.results.toList R c σ=some y) (h:dB (nG G w0.heap.size) N γ σ a w) (hx:Ext (nG G w0.heap.size) ⟨I,fun _=>none⟩ (fun _=>none) w0 γ σ.mem w)
  (hQ:∀a w,bodyPost P fn (Ends w0 I R y) .ret a w→Q .ret a w):c.wp P Q a w:=by
 unfold ags at hf;obtain⟨r,h1,h2⟩:=bind_some hf;obtain⟨e,σ'⟩:=r;obtain⟨h3,h4⟩:=aD h2;obtain⟨v,h5,h6⟩:=bind_some h4;have hl:jo (mE σ'.mem) R (GR R v)=some y:=by
  split at h6
  ·rename_i y' hy';obtain rfl:=aN h6;exact hy'
  ·cases h6
 refine vk vi hc eS Hy Bo c hd h1 h fun γ' a' w' s x f=>?_;obtain⟨val,r1,r2⟩:=zI (fn:=fn) hc s h5;have x1:=hx.trans x;have key:Ends w0 I R y (.returned val) w':=by
  refine⟨val,fun b o=>γ'.I b o∨(w0.heap.size≤b∧b<w'.heap.size),rfl,x1.below.below,fun b o hi=>.inl (x1.I b o hi),fun b o hi=>?_,fun b o hi hn=>?_,?_⟩
  ·rcases hi with hi|hi
   ·exact s.ok.we b o hi
   ·exact hi.2
  ·rcases hi with hi|hi
   ·exact r9.1 ((x1.sg b o hi).resolve_left hn)
   ·exact hi.1
  ·exact Q0 (σ:=mE σ'.mem) s.ok (fun b o hi=>.inl hi) (fun b o h1 h2=>.inr ⟨r9.1 h1,h2⟩) r2 hl
 have:a'.defers=[]∧∃v1,(results fn a'.tmps).run P w'=.ok v1 w'∧Ends w0 I R y (.returned v1) w':=⟨s.defers,val,r1,key⟩;have h3':e=1:=gz h3;subst h3';exact hQ _ _ this
theorem vm(vi:P.follows .mixedOrders=true)(hc:gA P cx){G:jN}(eS:rD P G cx){f tid id1:Nat}{fn:Func}{e:Ty}{R0 R2 R3:Code}{o0 o1:Oper}{ty2:TypeId}{s0:List e.den→St}
  (hP:P.funcs[f]?=some fn) (hname:(fn.name == "runtime.NumGoroutine")=false)
  (hbody:fn.body=some (.seq R0 (.seq (.seq (.region id1 #[o0,o1] false) (.cond (.tmp 4) (.seq R2 .ret) .skip)) (.seq R3 .ret))))
  (hT:find cx.T tid=some (.slice e)) (hN:4<fn.ntmps) (hd:∀t∈writes R0++(writes R2++writes R3),t<fn.ntmps)
  (g0:o0.guard=none) (d0:o0.dst=some 3) (p0:o0.op=.move (.tmp 0)) (g1:o1.guard=none) (d1:o1.dst=some 4) (p1:o1.op=.binOp .eql tid (.tmp 3) (.const (.slice none 0 0)) ty2)
  (h0:∀l,(jB cx 0 bf CN R0 [] (v8 (fun _=>none) [.data (.slice e) l])).run=some (0,s0 l)) (hs0:∀l,(s0 l).slots 0=.data (.slice e) l) (hs3:∀l,(s0 l).slots 3=.undef) (hs4:∀l,(s0 l).slots 4=.undef)
  (hA:∀l,ags cx bf fn.results.toList (.pair (.slice e) .unit) (.seq R2 .ret) (s0 l)=some (([]:List e.den),()))
  (hB:∀l:List e.den,fits (len l)=true→ags cx bf fn.results.toList (.pair (.slice e) .unit) (.seq R3 .ret) (s0 l)=some (l,())) :
  Holds P G f ⟨.pair (.slice e) .unit,.pair (.slice e) .unit,fun x=>bif fits (len (α:=e.den) x.1) then some x else none⟩ where
 body:=⟨fn,_,hP,hname,hbody⟩
 calls:=by
  intro I w args x y hI hG hargs hspec;obtain⟨l,u⟩:=x;change List e.den at l;have hfit:fits (len l)=true∧y=(l,()):=by
   change (bif fits (len l) then some ((l,u):(Ty.pair (.slice e) .unit).den) else none)=some y at hspec;cases hq:fits (len l) with
   | true=>rw[hq] at hspec;exact⟨rfl,(aN hspec).symm⟩
   | false=>rw[hq] at hspec;cases hspec
  obtain⟨hfit,rfl⟩:=hfit;obtain⟨cs,rest,hal,MN,rE⟩:=hargs;obtain rfl:rest=[]:=rE;obtain⟨gd,aim,_⟩:=(hc.T _ _ hT).slice;have hm:bK (nG G w.heap.size) ⟨I,fun _=>none⟩ (fun _=>none) w :=
   { bp:=fun b Q g=>by
      obtain⟨o,h1,h2⟩:=hG b Q g;exact⟨fun hb=>by have:=r9.1 hb;have:=(Array.getElem?_eq_some_iff.1 h1).1;omega,o,h1,h2⟩
     base:=cU _
     boxes:=fun b bx hb=>by cases hb
     inj:=fun b c blk k k' hb=>absurd rfl hb
     fresh:=fun b blk k hb=>absurd rfl hb
     we:=hI
     sep:=fun b bx blk k off hb=>by cases hb }
  have hv:nx ⟨I,fun _=>none⟩ (fun _=>none) w [.data (.slice e) l] args.toList:=by
   rw[hal];refine⟨rfl,fun i v x hv hx=>?_⟩;cases i with
   | zero=>obtain rfl:=aN hv;obtain rfl:=aN hx;exact⟨cs,MN,rfl⟩
   | succ i=>cases hv
  show Calls P f args w (Ends w I (.pair (.slice e) .unit) (l,()))
  refine calls_of_wp hP hbody (wp_seq ?_);have hsz:args.size=1:=by have:=congrArg List.length hal;simpa using this
  have hNN:args.size+(fn.ntmps-args.size)=fn.ntmps:=by omega
  have XU:=Jl hm hv fn.ntmps;rw[hNN] at XU;refine vk vi hc eS Hy Bo R0 (fun t ht=>hd t (GH _ ht)) (h0 l) XU fun jC a1 w1 s1 x1 f1=>?_;refine wp_seq (wp_seq (wp_region_list ?_));have hr0:=s1.slots 0;rw[hs0] at hr0;obtain⟨WW,hc1,hv1⟩:=eu.1 hr0;have hsl:∃base n cap,a1.tmps.getD 0 Go.undef=.slice base n cap∧(base=none→l=[]):=by
   rcases hc1 with ⟨⟨base,k1⟩,k2⟩|⟨blk,off,cap,k1,_⟩
   ·exact⟨base,0,0,by rw[hv1,k1];rfl,fun _=>k2⟩
   ·exact⟨_,_,_,by rw[hv1,k1];rfl,fun h=>by cases h⟩
  obtain⟨base,n,cap,hval,hbase⟩:=hsl;have rF:∀{d:Nat},(s0 l).slots d=.undef→(s0 l).put d .undef=s0 l:=by
   intro d hd0;unfold St.put;generalize s0 l=q at hd0⊢;obtain⟨sl,mm⟩:=q
   congr 1
   funext t;cases hb:Nat.beq t d with
   | true=>obtain rfl:=gz hb;exact hd0.symm
   | false=>rfl
  have s2:dB (nG G w.heap.size) fn.ntmps jC (s0 l) (a1.put (some 3) (.slice base n cap)) w1:=by
   have:=s1.xy (d:=some 3) (v:=.undef) (val:=.slice base n cap) (fun k hk=>by cases hk;omega) ⟨_,rfl⟩;rw[show(s0 l).aW (some 3) .undef=s0 l from rF (hs3 l)] at this;exact this
  have s3:dB (nG G w.heap.size) fn.ntmps jC (s0 l) ((a1.put (some 3) (.slice base n cap)).put (some 4) (.bool base.isNone)) w1:=by
   have:=s2.xy (d:=some 4) (v:=.undef) (val:=.bool base.isNone) (fun k hk=>by cases hk;omega) ⟨_,rfl⟩;rw[show(s0 l).aW (some 4) .undef=s0 l from rF (hs4 l)] at this;exact this
  have e3:(a1.put (some 3) (.slice base n cap)).eval (.tmp 3)=.slice base n cap:=by
   simp[Act.eval,Act.put,s1.size];omega
  have e4:((a1.put (some 3) (.slice base n cap)).put (some 4) (.bool base.isNone)).eval (.tmp 4)=.bool base.isNone:=by
   have:=s2.size;simp only[Act.eval];generalize a1.put (some 3) (.slice base n cap)=a2 at this⊢;simp[Act.put,this,hN]
  show wpList P #[o0,o1] _ [o0,o1] a1 w1
  unfold wpList;rw[show Region.wanted o0 (yielded #[o0,o1] a1.tmps)=true by unfold Region.wanted;rw[g0]];simp only[nZ];refine .inl ?_;unfold Oper.wp;have ex0:(execOp a1.eval o0).run P w1=.ok (.value (.slice base n cap)) w1:=by
   have:a1.eval (.tmp 0)=.slice base n cap:=hval;simp only[execOp,p0,this];rfl
  rw[ex0];show wpList P #[o0,o1] _ [o1] (a1.put o0.dst (.slice base n cap)) w1
  rw[d0];unfold wpList;rw[show Region.wanted o1 (yielded #[o0,o1] (a1.put (some 3) (.slice base n cap)).tmps)=true by unfold Region.wanted;rw[g1]];simp only[nZ];refine .inl ?_;unfold Oper.wp;have ex1:(execOp (a1.put (some 3) (.slice base n cap)).eval o1).run P w1=.ok (.value (.bool base.isNone)) w1:=by
   have ain:(a1.put (some 3) (.slice base n cap)).eval (.const (.slice none 0 0))=.slice none 0 0:=rfl;have hg:(eqGuard .eql tid (.tmp 3) (.const (.slice none 0 0)) (.slice base n cap) (.slice none 0 0)).run P w1=.ok () w1:=by simp[eqGuard]
   simp only[execOp,p1,e3,ain,Sem.run_bind,hg,_root_.Go.run_eql_slice_nil w1 tid gd base n cap aim,Result.andThen_ok,Sem.run_pure]
  rw[ex1];simp only[Oper.upon];rw[d1];refine wpList_nil ?_;have hmem:∀{t},t∈writes R2++writes R3→t∈writes R0++(writes R2++writes R3):=fun h=>KW _ h;refine wp_cond_split (t:=base.isNone) e4 (fun hn=>?_) (fun hn=>?_)
  ·have hl:l=[]:=hbase (by simpa using hn);have:=hA l;rw[←hl] at this;exact Q2 (w0:=w) (I:=I) (R:=.pair (.slice e) .unit) (N:=fn.ntmps) vi hc eS (fun t ht=>hd t (hmem (GH _ (by simpa [writes] using ht)))) this s3 x1 fun a w hq=>hq
  ·exact wp_skip (Q2 (w0:=w) (I:=I) (R:=.pair (.slice e) .unit) (N:=fn.ntmps) vi hc eS (fun t ht=>hd t (hmem (KW _ (by simpa [writes] using ht)))) (hB l hfit) s3 x1 fun a w hq=>hq)
def agt(cx:Ctx)(bf:List Nat)(rs:List ResultVar)(e:Ty)(c:Code)(σ:St):Option (List e.den) :=
 ((jB cx 0 bf CN c [] σ).bind fun r=>bif Nat.beq r.1 1 then((results1 cx r.2 rs).bind fun v=>match Bd e r.2 v with
  | some x=>.ret x.2.2.2
  | none=>.fail) else .fail).run
def Zy(w:World)(I:Nat→Nat→Prop)(e:Ty)(l:List e.den)(q:Ending)(w':World):Prop :=
 ∃v I' L,q=.returned v∧lX w I (fun _=>False) w' I'∧yF w' I' e l L v∧∀blk c,L=some (blk,c)→w.heap.size≤blk
theorem ND{Q:Exit→Act→World→Prop}(vi:P.follows .mixedOrders=true)(hc:gA P cx){G:jN}(eS:rD P G cx){fn:Func}{e:Ty}{l:List e.den}{c:Code}{σ:St}{γ:Gh}{a:Act}{w0 w:World}{N:Nat}{I:Nat→Nat→Prop}
  (hd:∀t∈writes c,t<N) (hf:agt cx bf fn.results.toList e c σ=some l) (h:dB (nG G w0.heap.size) N γ σ a w) (hx:Ext (nG G w0.heap.size) ⟨I,fun _=>none⟩ (fun _=>none) w0 γ σ.mem w)
  (hQ:∀a w,bodyPost P fn (Zy w0 I e l) .ret a w→Q .ret a w):c.wp P Q a w:=by
 unfold agt at hf;obtain⟨r,h1,h2⟩:=bind_some hf;obtain⟨x,σ'⟩:=r;obtain⟨h3,h4⟩:=aD h2;obtain⟨v,h5,h6⟩:=bind_some h4;split at h6
 case h_2=>cases h6
 rename_i o ho;obtain⟨b,aC,bx,l0⟩:=o;obtain rfl:=aN h6;obtain⟨hb,bF,bO,hlk,hro,jb,_⟩:=vh ho;refine vk vi hc eS Hy Bo c hd h1 h fun γ' a' w' s x f=>?_;obtain⟨val,r1,r2⟩:=zI (fn:=fn) hc s h5;have x1:=hx.trans x;obtain⟨hown,he⟩:=QT (σ:=σ') s.ok ho r2;have key:Zy w0 I e l0 (.returned val) w':=by
  refine⟨val,γ'.I,γ'.loc b,rfl,⟨⟨x1.below.os,x1.below.tape,x1.below.output,x1.below.size,fun k hk=>x1.below.block k hk⟩,x1.I,s.ok.we,fun b o hi hn=>r9.1 ((x1.sg b o hi).resolve_left hn)⟩,hown,fun blk c hl=>?_⟩;exact r9.1 (s.ok.fresh b blk c (by rw[hb];simp) hl).1
 have:a'.defers=[]∧∃v1,(results fn a'.tmps).run P w'=.ok v1 w'∧Zy w0 I e l0 (.returned v1) w':=⟨s.defers,val,r1,key⟩;have h3':_=1:=gz h3;dsimp only at h3';subst h3';exact hQ _ _ this
theorem AG(vi:P.follows .mixedOrders=true)(hc:gA P cx)(eS:rD P Bh cx){f tid id1:Nat}{fn:Func}{e:Ty}{R0 R2 R3:Code}{o0 o1:Oper}{ty2:TypeId}{s0:List e.den→St}
 (hP:P.funcs[f]?=some fn) (hname:(fn.name == "runtime.NumGoroutine")=false)
 (hbody:fn.body=some (.seq R0 (.seq (.seq (.region id1 #[o0,o1] false) (.cond (.tmp 4) (.seq R2 .ret) .skip)) (.seq R3 .ret))))
 (hT:find cx.T tid=some (.slice e)) (hN:4<fn.ntmps) (hd:∀t∈writes R0++(writes R2++writes R3),t<fn.ntmps)
 (g0:o0.guard=none) (d0:o0.dst=some 3) (p0:o0.op=.move (.tmp 0)) (g1:o1.guard=none) (d1:o1.dst=some 4) (p1:o1.op=.binOp .eql tid (.tmp 3) (.const (.slice none 0 0)) ty2)
 (h0:∀l,(jB cx 0 bf CN R0 [] (v8 (fun _=>none) [.data (.slice e) l])).run=some (0,s0 l)) (hs0:∀l,(s0 l).slots 0=.data (.slice e) l) (hs3:∀l,(s0 l).slots 3=.undef) (hs4:∀l,(s0 l).slots 4=.undef)
 (hA:∀l,agt cx bf fn.results.toList e (.seq R2 .ret) (s0 l)=some [])
 (hB:∀l:List e.den,fits (len l)=true→agt cx bf fn.results.toList e (.seq R3 .ret) (s0 l)=some l) :
 jc P f (.clone e):=by
 refine⟨⟨fn,_,hP,hname,hbody⟩,fun I w args l hI hargs hfit=>?_⟩;obtain⟨cs,rest,hal,MN,rE⟩:=hargs;obtain rfl:rest=[]:=rE;obtain⟨gd,aim,_⟩:=(hc.T _ _ hT).slice;have hm:bK (nG Bh w.heap.size) ⟨I,fun _=>none⟩ (fun _=>none) w :=
  { bp:=fun b Q g=>g.elim
    base:=cU _
    boxes:=fun b bx hb=>by cases hb
    inj:=fun b c blk k k' hb=>absurd rfl hb
    fresh:=fun b blk k hb=>absurd rfl hb
    we:=hI
    sep:=fun b bx blk k off hb=>by cases hb }
 have hv:nx ⟨I,fun _=>none⟩ (fun _=>none) w [.data (.slice e) l] args.toList:=by
  rw[hal];refine⟨rfl,fun i v x hv hx=>?_⟩;cases i with
  | zero=>obtain rfl:=aN hv;obtain rfl:=aN hx;exact⟨cs,MN,rfl⟩
  | succ i=>cases hv
 show Calls P f args w (Zy w I e l)
 refine calls_of_wp hP hbody (wp_seq ?_);have hsz:args.size=1:=by have:=congrArg List.length hal;simpa using this
 have hNN:args.size+(fn.ntmps-args.size)=fn.ntmps:=by omega
 have XU:=Jl hm hv fn.ntmps;rw[hNN] at XU;refine vk vi hc eS Hy Bo R0 (fun t ht=>hd t (GH _ ht)) (h0 l) XU fun jC a1 w1 s1 x1 f1=>?_;refine wp_seq (wp_seq (wp_region_list ?_));have hr0:=s1.slots 0;rw[hs0] at hr0;obtain⟨WW,hc1,hv1⟩:=eu.1 hr0;have hsl:∃base n cap,a1.tmps.getD 0 Go.undef=.slice base n cap∧(base=none→l=[]):=by
  rcases hc1 with ⟨⟨base,k1⟩,k2⟩|⟨blk,off,cap,k1,_⟩
  ·exact⟨base,0,0,by rw[hv1,k1];rfl,fun _=>k2⟩
  ·exact⟨_,_,_,by rw[hv1,k1];rfl,fun h=>by cases h⟩
 obtain⟨base,n,cap,hval,hbase⟩:=hsl;have rF:∀{d:Nat},(s0 l).slots d=.undef→(s0 l).put d .undef=s0 l:=by
  intro d hd0;unfold St.put;generalize s0 l=q at hd0⊢;obtain⟨sl,mm⟩:=q
  congr 1
  funext t;cases hb:Nat.beq t d with
  | true=>obtain rfl:=gz hb;exact hd0.symm
  | false=>rfl
 have s2:dB (nG Bh w.heap.size) fn.ntmps jC (s0 l) (a1.put (some 3) (.slice base n cap)) w1:=by
  have:=s1.xy (d:=some 3) (v:=.undef) (val:=.slice base n cap) (fun k hk=>by cases hk;omega) ⟨_,rfl⟩;rw[show(s0 l).aW (some 3) .undef=s0 l from rF (hs3 l)] at this;exact this
 have s3:dB (nG Bh w.heap.size) fn.ntmps jC (s0 l) ((a1.put (some 3) (.slice base n cap)).put (some 4) (.bool base.isNone)) w1:=by
  have:=s2.xy (d:=some 4) (v:=.undef) (val:=.bool base.isNone) (fun k hk=>by cases hk;omega) ⟨_,rfl⟩;rw[show(s0 l).aW (some 4) .undef=s0 l from rF (hs4 l)] at this;exact this
 have e3:(a1.put (some 3) (.slice base n cap)).eval (.tmp 3)=.slice base n cap:=by
  simp[Act.eval,Act.put,s1.size];omega
 have e4:((a1.put (some 3) (.slice base n cap)).put (some 4) (.bool base.isNone)).eval (.tmp 4)=.bool base.isNone:=by
  have:=s2.size;simp only[Act.eval];generalize a1.put (some 3) (.slice base n cap)=a2 at this⊢;simp[Act.put,this,hN]
 show wpList P #[o0,o1] _ [o0,o1] a1 w1
 unfold wpList;rw[show Region.wanted o0 (yielded #[o0,o1] a1.tmps)=true by unfold Region.wanted;rw[g0]];simp only[nZ];refine .inl ?_;unfold Oper.wp;have ex0:(execOp a1.eval o0).run P w1=.ok (.value (.slice base n cap)) w1:=by
  have:a1.eval (.tmp 0)=.slice base n cap:=hval;simp only[execOp,p0,this];rfl
 rw[ex0];show wpList P #[o0,o1] _ [o1] (a1.put o0.dst (.slice base n cap)) w1
 rw[d0];unfold wpList;rw[show Region.wanted o1 (yielded #[o0,o1] (a1.put (some 3) (.slice base n cap)).tmps)=true by unfold Region.wanted;rw[g1]];simp only[nZ];refine .inl ?_;unfold Oper.wp;have ex1:(execOp (a1.put (some 3) (.slice base n cap)).eval o1).run P w1=.ok (.value (.bool base.isNone)) w1:=by
  have ain:(a1.put (some 3) (.slice base n cap)).eval (.const (.slice none 0 0))=.slice none 0 0:=rfl;have hg:(eqGuard .eql tid (.tmp 3) (.const (.slice none 0 0)) (.slice base n cap) (.slice none 0 0)).run P w1=.ok () w1:=by simp[eqGuard]
  simp only[execOp,p1,e3,ain,Sem.run_bind,hg,_root_.Go.run_eql_slice_nil w1 tid gd base n cap aim,Result.andThen_ok,Sem.run_pure]
 rw[ex1];simp only[Oper.upon];rw[d1];refine wpList_nil ?_;have hmem:∀{t},t∈writes R2++writes R3→t∈writes R0++(writes R2++writes R3):=fun h=>KW _ h;refine wp_cond_split (t:=base.isNone) e4 (fun hn=>?_) (fun hn=>?_)
 ·have hl:l=[]:=hbase (by simpa using hn);have:=hA l;rw[←hl] at this;exact ND (w0:=w) (I:=I) (N:=fn.ntmps) vi hc eS (fun t ht=>hd t (hmem (GH _ (by simpa [writes] using ht)))) this s3 x1 fun a w hq=>hq
 ·exact wp_skip (ND (w0:=w) (I:=I) (N:=fn.ntmps) vi hc eS (fun t ht=>hd t (hmem (KW _ (by simpa [writes] using ht)))) (hB l hfit) s3 x1 fun a w hq=>hq)
end
end Go.Ge
namespace Go.Ge
variable [Lp]
theorem de{S R:Type}{f:S→Option (S⊕R)}{r:R}:∀(k:Nat) (st:Nat→S),(∀i,i<k→f (st i)=some (.inl (st (i+1))))→f (st k)=some (.inr r)→Loop f (st 0)=some r:=by
 intro k;induction k with
 | zero=>intro st _ h;rw[aX,h];rfl
 | succ k ih =>
   intro st h1 h2;rw[aX,h1 0 (by omega)];exact ih (fun i=>st (i+1)) (fun i hi=>h1 (i+1) (by omega)) h2
theorem aY{i:Nat}(h:i<4611686018427387904):aL .i64 (i:Int) 1=((i+1:Nat):Int):=by
 unfold aL;simp[IntKind.wrap,IntKind.min,IntKind.max,IntKind.signed,IntKind.bits];omega
theorem yK{α:Type}(l:List α)(i:Nat):idx l (i:Int)=l[i]?:=by
 unfold idx;rw[bu (by omega)];simp
theorem aaU{n:Nat}(h:n≤4294967296):fits (n:Int)=true:=by
 unfold fits;simp;omega
theorem ag{α:Type}(x y:α):aj true x y=x:=rfl
theorem af{α:Type}(x y:α):aj false x y=y:=rfl
theorem aa{α β:Type}(x:α)(f:α→Option β):ah (some x) f=f x:=rfl
theorem xF(a:List UInt8):cc a a=true:=by simp[cc]
theorem qi(a:Int):bI a a=true:=by simp[bI]
theorem aJ:nt true=false:=rfl
theorem aF:nt false=true:=rfl
theorem aio{P:Program}{tys:List (Nat×Ty)}(h:(tys.all fun p=>fI P p.2 false p.1 0 [])=true):∀tid t,find tys tid=some t→Den P t tid:=fun tid t hf=>by
 rw[Cx] at h;exact h _ (vl hf)
theorem Q3{l:List Nat}{t:Nat}(h:dD l t=true):t∈l:=UA.1 h
def aj9(P:Program)(tid:TypeId):Bool:=(match P.underlying tid with|some (.pointer _)=>true|some (.func ..)=>true|_=>false)&&(match P.info? tid with|some i=>Nat.beq i.size 1&&(match i.zero with|some z=>z.oneCell'|none=>false)|none=>false)
theorem agu{P:Program}{u9:List Nat}(h:(u9.all fun t=>aj9 P t)=true):∀tid,dD u9 tid=true→(∀w,(isAgg tid).run P w=.ok false w)∧(∀w,(Go.sizeOf tid).run P w=.ok 1 w)∧∃z,(∀w,(zeroValue tid).run P w=.ok z w)∧z.oneCell'=true:=fun tid ht=>by
 rw[Cx] at h;have:=h tid (Q3 ht);simp only[aj9,dW] at this;obtain⟨h1,h2⟩:=this;refine⟨?_,?_,?_⟩
 ·intro w;split at h1
  ·rename_i hu;simp[isAgg,run_underlying hu]
  ·rename_i hu;simp[isAgg,run_underlying hu]
  ·cases h1
 ·intro w;split at h2
  ·rename_i i hi;simp only[dW] at h2;have:=gz h2.1;simp[Go.sizeOf,typeInfo,hi,this]
  ·cases h2
 ·split at h2
  ·rename_i i hi;simp only[dW] at h2;obtain⟨_,h3⟩:=h2;split at h3
   ·rename_i z hz;exact⟨z,fun w=>by simp[zeroValue,typeInfo,hi,hz],h3⟩
   ·cases h3
  ·cases h2
def aka(P:Program)(tid:TypeId):Bool:=match P.underlying tid with|some (.pointer _)=>true|_=>false
theorem agv{P:Program}{EK:List Nat}(h:(EK.all fun t=>aka P t)=true):∀tid,dD EK tid=true→∃e,P.underlying tid=some (.pointer e):=fun tid ht=>by
 rw[Cx] at h;have:=h tid (Q3 ht);unfold aka at this;split at this
 ·rename_i e he;exact⟨e,he⟩
 ·cases this
theorem agw{P:Program}:∀p∈([]:List (Nat×Func)),P.funcs[p.1]?=some p.2:=fun p h=>by cases h
theorem ak{P:Program}{f:Nat}{fn:Func}{l:List (Nat×Func)}(h:P.funcs[f]?=some fn)(hl:∀p∈l,P.funcs[p.1]?=some p.2):∀p∈(f,fn)::l,P.funcs[p.1]?=some p.2:=fun p hp=>by
 rcases List.mem_cons.1 hp with rfl|hp
 ·exact h
 ·exact hl p hp
theorem aip{P:Program}{l:List (Nat×Func)}(h:∀p∈l,P.funcs[p.1]?=some p.2):∀f fn,find l f=some fn→P.funcs[f]?=some fn:=fun f fn hf=>h _ (vl hf)
theorem az{P:Program}{G:jN}:∀p∈([]:List (Nat×dA)),Holds P G p.1 p.2:=fun p h=>by cases h
theorem ai{P:Program}{G:jN}{f:Nat}{c:dA}{l:List (Nat×dA)}(h:Holds P G f c)(hl:∀p∈l,Holds P G p.1 p.2):∀p∈(f,c)::l,Holds P G p.1 p.2:=fun p hp=>by
 rcases List.mem_cons.1 hp with rfl|hp
 ·exact h
 ·exact hl p hp
theorem aq{P:Program}{G:jN}:∀p∈([]:List (Nat×EJ)),p7 P G p.1 p.2:=fun p h=>by cases h
theorem kX{P:Program}{G:jN}{f:Nat}{c:EJ}{l:List (Nat×EJ)}(h:p7 P G f c)(hl:∀p∈l,p7 P G p.1 p.2):∀p∈(f,c)::l,p7 P G p.1 p.2:=fun p hp=>by
 rcases List.mem_cons.1 hp with rfl|hp
 ·exact h
 ·exact hl p hp
theorem Ek{P:Program}:∀p∈([]:List (Nat×Spc)),jc P p.1 p.2:=fun p hp=>by cases hp
theorem ij{P:Program}{f:Nat}{s:Spc}{l:List (Nat×Spc)}(h:jc P f s)(hl:∀p∈l,jc P p.1 p.2):∀p∈(f,s)::l,jc P p.1 p.2:=fun p hp=>by
 rcases List.mem_cons.1 hp with rfl|hp
 ·exact h
 ·exact hl p hp
theorem Q4{α:Type}:∀{l:List (String×α)} {k:String} {a:α},Uf l k=some a→(k,a)∈l
 | [],_,_,h=>by cases h
 | (i,a)::r,k,b,h=>by
   unfold Uf at h;by_cases e:i=k
   ·rw[fo e] at h;obtain rfl:=e;obtain rfl:=aN h;exact nX ..
   ·rw[dJ e] at h;exact qU _ (Q4 h)
theorem aA{P:Program}{G:jN}:∀p∈([]:List (String×dA)),MT P G p.1 p.2:=fun p h=>by cases h
theorem mF{P:Program}{G:jN}{cx:Ctx}(h:∀p∈cx.cT,Holds P G p.1 p.2)(k:∀p∈cx.bA,p7 P G p.1 p.2)(s:∀p∈cx.WL,jc P p.1 p.2)(v:∀p∈cx.inv,MT P G p.1 p.2):rD P G cx :=
 ⟨fun f c hf=>h _ (vl hf),fun f c hf=>k _ (vl hf),fun f c hf=>s _ (vl hf),fun n c hf=>v _ (Q4 hf)⟩
theorem agx{P:Program}{wu:List (Nat×List p4)}(h:(wu.all fun p=>O5 P p.1 p.2)=true):∀tid fs,find wu tid=some fs→O5 P tid fs=true:=fun tid fs hf=>by
 rw[Cx] at h;exact h _ (vl hf)
def elB(P:Program)(p:Nat×Nat):Bool:=match P.underlying p.1 with|some (.slice e)=>Nat.beq e p.2|_=>false
theorem aiq{P:Program}{els:List (Nat×Nat)}(h:(els.all fun p=>elB P p)=true):∀tid e,find els tid=some e→P.underlying tid=some (.slice e):=fun tid e hf=>by
 rw[Cx] at h;have:=h _ (vl hf);unfold elB at this;split at this
 ·rename_i e' he;rw[he,gz this]
 ·cases this
theorem C5{P:Program}{t:TypeId}{i:TypeInfo}{z:Value}(h:P.info? t=some i)(k:i.zero=some z)(w:World):(zeroValue t).run P w=.ok z w:=by simp[zeroValue,typeInfo,h,k]
theorem ad3(I:Nat→Nat→Prop)(w:World):I5 Bh w:=fun b Q h=>h.elim
end Go.Ge
namespace Go.Ge
open RowKit
theorem Ln(c:UInt8):∀l:List UInt8,-1≤Lib.indexByte l c∧Lib.indexByte l c<l.length:=by
 intro l;induction l with
 | nil=>exact⟨by simp[Lib.indexByte],by simp[Lib.indexByte]⟩
 | cons b r ih =>
   unfold Lib.indexByte;split
   ·exact⟨by simp,by simp only[ep];omega⟩
   ·split
    ·exact⟨by simp,by simp only[ep];omega⟩
    ·simp only[ep];omega
theorem Zz{P:Program}{f:Nat}{fn:Func}(hP:P.funcs[f]?=some fn)(hname:(fn.name == "runtime.NumGoroutine")=false)(hb:fn.body.isSome=true) :
  ∃fn code,P.funcs[f]?=some fn∧(fn.name == "runtime.NumGoroutine")=false∧fn.body=some code:=by
 obtain⟨code,hc⟩:=Option.isSome_iff_exists.1 hb;exact⟨fn,code,hP,hname,hc⟩
theorem Vg{w:World}{b:Nat}{p q v:Value}{T:TypeId}{fr:Nat×Nat}(h:w.heap[b]?=some (.cells #[p,v] T fr)):w.setCell ⟨b,0,none⟩ q=w.setRow b #[q,v]:=by
 unfold World.setCell World.setRow
 congr 1
 apply Array.ext_getElem?;intro i;simp only[TT];by_cases e:b=i
 ·subst e;simp[h]
 ·simp[e]
theorem yo.refl(og:Option Nat)(w:World):yo og w w:=⟨rfl,rfl,rfl,cU _,fun _ _ _=>rfl,fun _ _ _=>rfl⟩
theorem yo.weaken{og:Option Nat}{w w':World}(h:yo none w w'):yo og w w':=⟨h.os,h.tape,h.output,h.size,fun k hk _=>h.block k hk (by simp),h.cell⟩
theorem yo.drew{og:Option Nat}{w w':World}(h:yo og w w'):yo og w w'.drew:=⟨h.os,h.tape,h.output,h.size,h.block,h.cell⟩
theorem yo.alloc{og:Option Nat}{w w':World}(h:yo og w w')(o:Obj):yo og w (w'.alloc o) where
 os:=h.os
 tape:=h.tape
 output:=h.output
 size:=gY h.size (by simp)
 block:=fun k hk hn=>(cS w' o k (GI hk h.size)).trans (h.block k hk hn)
 cell:=fun k c hk=>(dF (cS w' o k (GI hk h.size))).trans (h.cell k c hk)
theorem yo.freeze{g:Nat}{w w':World}(h:yo (some g) w w')(n:Nat):yo (some g) w (w'.freeze ⟨g,0,none⟩ n):=by
 unfold World.freeze;split
 ·exact h
 ·refine⟨h.os,h.tape,h.output,gY h.size (by simp),fun k hk hn=>?_,fun k c hk=>?_⟩
  ·have hne:¬g=k:=fun e=>hn (by rw[e]);rw[←h.block k hk hn];simp[TT,hne]
  ·rw[←h.cell k c hk];by_cases e:g=k
   ·subst e;simp only[World.cell?,TT,nZ];cases w'.heap[g]? with
    | none=>rfl
    | some o=>cases o<;>rfl
   ·have hne:¬g=k:=e;simp[World.cell?,TT,hne]
theorem PD{P:Program}{G:jN}{f:Nat}{fn:Func}{spec:List UInt8→Int→Option (List UInt8)}(hP:P.funcs[f]?=some fn)(hname:(fn.name == "runtime.NumGoroutine")=false)(hb:fn.body.isSome=true)
  (hr:∀s c y,spec s c=some y→y.length≤maxLen)
  (h:∀(s:ByteArray) (c:Int) (w:World) (y:List UInt8),(IntKind.i64).min≤c∧c≤(IntKind.i64).max→s.data.toList.length≤maxLen→spec s.data.toList c=some y →
   Calls P f #[.string s,.int .i64 c] w fun e w'=>e=.returned (.string ⟨y.toArray⟩)∧Below w.heap.size w w') :
  Holds P G f ⟨.pair .str (.pair (.int .i64) .unit),.pair .str .unit,fun x=>(spec x.1 x.2.1).map fun y=>(y,())⟩ where
 body:=by
  obtain⟨code,hc⟩:=Option.isSome_iff_exists.1 hb;exact⟨fn,code,hP,hname,hc⟩
 calls:=by
  intro I w args x y hI hG hargs hspec;obtain⟨s,c,u⟩:=x;change List UInt8 at s;change Int at c;obtain⟨z,hz,rfl⟩:=Option.map_eq_some_iff.1 hspec;change spec s c=some z at hz;obtain⟨cs,rest,hal,MN,WX,akb,al4,akc,air⟩:=hargs;obtain rfl:akb=[]:=air;obtain⟨rfl,hl⟩:=MN;obtain⟨rfl,hc⟩:=akc;obtain rfl:args=#[.string ⟨s.toArray⟩,.int .i64 c]:=by
   apply Array.toList_inj.1;rw[hal,al4];rfl
  refine(h ⟨s.toArray⟩ c w z hc hl hz).mono ?_;rintro e w' ⟨rfl,hw⟩;exact⟨_,I,rfl,hw,fun b o h=>h,fun b o h=>GI (hI b o h) hw.size,fun b o h1 h2=>absurd h1 h2,[.string ⟨z.toArray⟩],⟨rfl,hr _ _ _ hz⟩,rfl⟩
end Go.Ge
