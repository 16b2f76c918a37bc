/- A ghost interpreter of the model's code, and that it tells the truth: part 7. It says of a function of plain data what a call of it comes to. -/
import Derived.Test.YtkmbhcglaophaaaGeF
import Derived.Tactics
set_option linter.unusedVariables false
set_option linter.unusedSimpArgs false
set_option linter.unusedSectionVars false
namespace Go.Ge
open RowKit
def af(σ:St)(T:Tree St):Prop:=∀y,T.run=some y→aE σ y
theorem af.fail{σ:St}:af σ .fail:=fun y h=>by cases h
theorem af.ret{σ σ':St}(h:aE σ σ'):af σ (.ret σ'):=fun y hy=>by obtain rfl:=au hy;exact h
theorem af.bif{σ:St}{c:Bool}{t:Tree St}(h:af σ t):af σ (bif c then t else .fail):=fun y hy=>h y (ai hy).2
theorem af.need{σ:St}{c:Bool}{t:Tree St}(h:af σ t):af σ (.need c t):=fun y hy=>h y (aX hy).2
theorem af.look{σ:St}{T:Type}{o:Option T}{k:T→Tree St}(h:∀x,af σ (k x)):af σ (.look o k):=fun y hy=>by obtain⟨x,_,h2⟩:=aR hy;exact h x y h2
theorem af.node{σ:St}{c:Bool}{t e:Tree St}(h:af σ t)(k:af σ e):af σ (.node c t e):=fun y hy=>by
 have:=cT hy;cases c with
 | true=>exact h y this
 | false=>exact k y this
theorem af.bind{σ:St}{α:Type}{t:Tree α}{f:α→Tree St}(h:∀x,t.run=some x→af σ (f x)):af σ (t.bind f):=fun y hy=>by obtain⟨x,h1,h2⟩:=bind_some hy;exact h x h1 y h2
theorem af.ay{σ:St}{b:Nat}{val:av}{tid:TypeId}{buf:Bool}{d:Nat}{v:Nat→av}:af σ (σ.ay b val tid buf fun ag σ=>.ret (σ.put d (v ag))):=fun y hy=>by
 obtain⟨ag,k1,k2⟩:=fS hy;obtain rfl:=au k2;exact k1.trans (aE.put _ _ _)
section
variable {cx:Ctx} {nb:Nat} {bf:List Nat} {inl:Nat→List av→St→Tree (av×St)} {d:Option Nat} {σ:St}
theorem ni{ty:TypeId}{v:av}:af σ (eB cx nb bf d ty v σ):=by
 unfold eB;split
 ·(repeat' (first|exact af.fail|exact af.ret (aE.aA _ _ _)|exact af.ret (aE.put _ _ _)|exact af.ay|refine af.bif ?_|refine af.need ?_|refine af.look fun _=>?_|refine af.node ?_ ?_|refine af.bind fun _ _=>?_|split))
 ·split
  ·rename_i k e _;cases bC bf k with
   | true=>exact af.ay
   | false=>exact af.ret (aE.put _ _ _)
  ·exact af.ret (aE.aA _ _ _)
 ·exact af.ret (aE.aA _ _ _)
theorem wY{c a b:av}:af σ (gB d c a b σ):=by unfold gB;(repeat' (first|exact af.fail|exact af.ret (aE.aA _ _ _)|exact af.ret (aE.put _ _ _)|exact af.ay|refine af.bif ?_|refine af.need ?_|refine af.look fun _=>?_|refine af.node ?_ ?_|refine af.bind fun _ _=>?_|split))
theorem wZ{ty:TypeId}{a:av}:af σ (fh cx d ty a σ):=by unfold fh;(repeat' (first|exact af.fail|exact af.ret (aE.aA _ _ _)|exact af.ret (aE.put _ _ _)|exact af.ay|refine af.bif ?_|refine af.need ?_|refine af.look fun _=>?_|refine af.node ?_ ?_|refine af.bind fun _ _=>?_|split))
theorem vt{ty:TypeId}{x:av}{lo hi:Option Operand}:af σ (fu cx d ty x lo hi σ):=by unfold fu;(repeat' (first|exact af.fail|exact af.ret (aE.aA _ _ _)|exact af.ret (aE.put _ _ _)|exact af.ay|refine af.bif ?_|refine af.need ?_|refine af.look fun _=>?_|refine af.node ?_ ?_|refine af.bind fun _ _=>?_|split))
theorem Cd{b ag:Nat}{i:Int}:∀{m k:Nat},af σ (uE d b ag σ i m k):=by
 intro m;induction m with
 | zero=>intro k;exact af.fail
 | succ m ih=>intro k;exact af.node (af.ret (aE.aA _ _ _)) ih
theorem ko{ty:TypeId}{x:av}{i:Int}:af σ (bW cx d ty x i σ):=by
 unfold bW;split
 case h_6=>split
           ·exact af.bif Cd
           ·exact af.fail
 all_goals (repeat' (first|exact af.fail|exact af.ret (aE.aA _ _ _)|exact af.ret (aE.put _ _ _)|exact af.ay|refine af.bif ?_|refine af.need ?_|refine af.look fun _=>?_|refine af.node ?_ ?_|refine af.bind fun _ _=>?_|split))
theorem vu{ty:TypeId}{x:av}{i:Int}:af σ (fy cx d ty x i σ):=by
 unfold fy;split
 ·refine af.bif ?_;split
  ·exact af.bif (af.ret (aE.aA _ _ _))
  ·exact af.fail
 ·exact ko
theorem vv{ty:TypeId}{x:av}{i:Int}:af σ (fA cx d ty x i σ):=by unfold fA;(repeat' (first|exact af.fail|exact af.ret (aE.aA _ _ _)|exact af.ret (aE.put _ _ _)|exact af.ay|refine af.bif ?_|refine af.need ?_|refine af.look fun _=>?_|refine af.node ?_ ?_|refine af.bind fun _ _=>?_|split))
theorem pW{s:TypeId}{x:av}{k:Nat}:af σ (b9 cx d s x k σ):=by unfold b9;(repeat' (first|exact af.fail|exact af.ret (aE.aA _ _ _)|exact af.ret (aE.put _ _ _)|exact af.ay|refine af.bif ?_|refine af.need ?_|refine af.look fun _=>?_|refine af.node ?_ ?_|refine af.bind fun _ _=>?_|split))
theorem r9{s t:TypeId}{x:av}:af σ (dz cx nb d s t x σ):=by unfold dz;(repeat' (first|exact af.fail|exact af.ret (aE.aA _ _ _)|exact af.ret (aE.put _ _ _)|exact af.ay|refine af.bif ?_|refine af.need ?_|refine af.look fun _=>?_|refine af.node ?_ ?_|refine af.bind fun _ _=>?_|split))
theorem o6{ty:TypeId}{t x:av}:af σ (lS cx d ty t x σ):=by
 unfold lS;split
 ·split
  ·exact af.fail
  ·exact af.bind fun r hr=>af.ret ((sU hr).trans (aE.aA _ _ _))
 ·exact af.fail
theorem vw{ty:TypeId}{t:av}:af σ (lT cx ty t σ):=by
 unfold lT;split
 ·exact af.bind fun r hr=>af.ret (sU hr)
 ·exact af.fail
theorem tT{name:String}{args:List av}:af σ (iN cx d name args σ):=by
 intro σ' hr;unfold iN at hr;split at hr
 ·split at hr
  ·rename_i hx;obtain⟨y,hy,hr2⟩:=aR hr;obtain rfl:=au hr2;exact(ij hx).trans (aE.aA _ _ _)
  ·exact absurd hr (by intro k;cases k)
 ·exact absurd hr (by intro k;cases k)
theorem vz{ty u:TypeId}{x:av}:af σ (iM cx d ty u x σ):=by
 intro σ' hr;unfold iM at hr;split at hr
 ·split at hr
  ·split at hr
   ·rename_i hx;obtain rfl:=au hr;exact(gT hx).trans (aE.aA _ _ _)
   ·exact absurd hr (by intro k;cases k)
  ·exact absurd hr (by intro k;cases k)
 ·exact absurd hr (by intro k;cases k)
theorem w8(fE:∀f vals σ v σ',(inl f vals σ).run=some (v,σ')→aE σ σ'){ty:TypeId}{c:Call}:af σ (jZ cx nb bf inl d ty c σ):=by
 unfold jZ;split
 ·split
  ·(repeat' (first|exact af.fail|exact af.ret (aE.aA _ _ _)|exact af.ret (aE.put _ _ _)|exact af.ay|refine af.bif ?_|refine af.need ?_|refine af.look fun _=>?_|refine af.node ?_ ?_|refine af.bind fun _ _=>?_|split))
  ·split
   ·exact fun y hy=>nh hy
   ·exact fun y hy=>nh hy
   ·exact af.fail
  ·split
   ·exact o6
   ·exact o6
   ·exact af.fail
  ·split
   ·exact vw
   ·exact af.fail
  ·(repeat' (first|exact af.fail|exact af.ret (aE.aA _ _ _)|exact af.ret (aE.put _ _ _)|exact af.ay|refine af.bif ?_|refine af.need ?_|refine af.look fun _=>?_|refine af.node ?_ ?_|refine af.bind fun _ _=>?_|split))
  ·(repeat' (first|exact af.fail|exact af.ret (aE.aA _ _ _)|exact af.ret (aE.put _ _ _)|exact af.ay|refine af.bif ?_|refine af.need ?_|refine af.look fun _=>?_|refine af.node ?_ ?_|refine af.bind fun _ _=>?_|split))
  ·exact af.fail
 ·split
  ·exact af.bif fun y hy=>yY fE hy
  ·exact af.fail
 ·exact tT
theorem nP(fE:∀f vals σ v σ',(inl f vals σ).run=some (v,σ')→aE σ σ'){o:Oper}:af σ (gY cx nb bf inl o σ):=by
 unfold gY;split
 case h_1=>exact ni
 case h_2=>exact ni
 case h_3=>exact wY
 case h_4 =>
  split
  ·unfold jP;split
   ·refine af.bif fun y hy=>?_;obtain⟨ag,k1,k2⟩:=fS hy;exact k1.trans (af.ay y k2)
   ·exact af.ay
  ·split
   ·refine af.bind fun r hr=>?_;exact fun y hy=>(Cc hr).trans (af.ay y hy)
   ·exact af.bif af.ay
  ·exact af.fail
 case h_5 =>
  unfold qj;split
  ·exact af.fail
  ·exact af.fail
  ·split
   ·refine af.bind fun r hr=>?_;exact fun y hy=>(yW hr).trans (af.ay y hy)
   ·exact af.ay
  ·exact af.fail
 case h_6 =>
  split
  ·split
   ·rename_i hb;exact af.ret ((tQ hb).trans (aE.aA _ _ _))
   ·exact af.fail
  ·split
   ·rename_i hb;exact af.ret ((nO hb).trans (aE.aA _ _ _))
   ·exact af.fail
  ·(repeat' (first|exact af.fail|exact af.ret (aE.aA _ _ _)|exact af.ret (aE.put _ _ _)|exact af.ay|refine af.bif ?_|refine af.need ?_|refine af.look fun _=>?_|refine af.node ?_ ?_|refine af.bind fun _ _=>?_|split))
  ·exact af.fail
 case h_7 =>
  split
  ·split
   ·exact af.ay
   ·refine af.bif ?_;split
    ·rename_i hb;exact af.ret ((nO hb).trans (aE.aA _ _ _))
    ·exact af.fail
  ·unfold oq;(repeat' (first|exact af.fail|exact af.ret (aE.aA _ _ _)|exact af.ret (aE.put _ _ _)|exact af.ay|refine af.bif ?_|refine af.need ?_|refine af.look fun _=>?_|refine af.node ?_ ?_|refine af.bind fun _ _=>?_|split))
  ·exact af.fail
 case h_8=>exact wZ
 case h_9=>split
           ·exact fun y hy=>vp hy
           ·exact af.fail
 case h_10=>(repeat' (first|exact af.fail|exact af.ret (aE.aA _ _ _)|exact af.ret (aE.put _ _ _)|exact af.ay|refine af.bif ?_|refine af.need ?_|refine af.look fun _=>?_|refine af.node ?_ ?_|refine af.bind fun _ _=>?_|split))
 case h_11=>(repeat' (first|exact af.fail|exact af.ret (aE.aA _ _ _)|exact af.ret (aE.put _ _ _)|exact af.ay|refine af.bif ?_|refine af.need ?_|refine af.look fun _=>?_|refine af.node ?_ ?_|refine af.bind fun _ _=>?_|split))
 case h_12=>(repeat' (first|exact af.fail|exact af.ret (aE.aA _ _ _)|exact af.ret (aE.put _ _ _)|exact af.ay|refine af.bif ?_|refine af.need ?_|refine af.look fun _=>?_|refine af.node ?_ ?_|refine af.bind fun _ _=>?_|split))
 case h_13=>exact r9
 case h_14=>(repeat' (first|exact af.fail|exact af.ret (aE.aA _ _ _)|exact af.ret (aE.put _ _ _)|exact af.ay|refine af.bif ?_|refine af.need ?_|refine af.look fun _=>?_|refine af.node ?_ ?_|refine af.bind fun _ _=>?_|split))
 case h_15=>exact vt
 case h_16=>exact pW
 case h_17=>(repeat' (first|exact af.fail|exact af.ret (aE.aA _ _ _)|exact af.ret (aE.put _ _ _)|exact af.ay|refine af.bif ?_|refine af.need ?_|refine af.look fun _=>?_|refine af.node ?_ ?_|refine af.bind fun _ _=>?_|split))
 case h_18=>split
            ·cases bC bf 5000000 with
             | true=>exact vu
             | false=>exact ko
            ·exact af.fail
 case h_19=>split
            ·exact vv
            ·exact af.fail
 case h_20=>(repeat' (first|exact af.fail|exact af.ret (aE.aA _ _ _)|exact af.ret (aE.put _ _ _)|exact af.ay|refine af.bif ?_|refine af.need ?_|refine af.look fun _=>?_|refine af.node ?_ ?_|refine af.bind fun _ _=>?_|split))
 case h_21=>(repeat' (first|exact af.fail|exact af.ret (aE.aA _ _ _)|exact af.ret (aE.put _ _ _)|exact af.ay|refine af.bif ?_|refine af.need ?_|refine af.look fun _=>?_|refine af.node ?_ ?_|refine af.bind fun _ _=>?_|split))
 case h_22=>exact w8 fE
 case h_23=>exact vz
 case h_24=>exact af.fail
end
end Go.Ge
namespace Go.Ge
open RowKit
theorem fM.shrink{mem mem':Nat→Option aI}(hm:∀b bx,mem b=some bx→mem' b=some { bx with lk:=true }){b ag:Nat}{K0 K:aI→Prop}(h0:fM mem b ag K0)(h:fM mem' b ag K)
  (hK:∀bx,K { bx with lk:=true }→K bx):fM mem b ag K:=by
 obtain⟨bx,h1,h2,_⟩:=h0;obtain⟨dQ,k1,k2,k3⟩:=h;rw[hm b bx h1] at k1;obtain rfl:=au k1;exact⟨bx,h1,h2,fun e=>hK bx (k3 e)⟩
theorem aV.shrink{γ γ':Gh}{mem mem':Nat→Option aI}{w w':World}(hm:∀b bx,mem b=some bx→mem' b=some { bx with lk:=true }):∀{v:av} {m:Mode} {us vs:List Value},
  aV γ mem w v m us→aV γ' mem' w' v m vs→aV γ' mem w' v m vs:=by
 intro v;induction v with
 | undef=>intro m us vs _ r;cases m<;>exact r
 | data t x=>intro m us vs _ r;cases m<;>exact r
 | gA=>intro m us vs _ r;cases m<;>exact r
 | iL=>intro m us vs _ r;cases m<;>exact r
 | cell t x=>intro m us vs _ r;cases m<;>exact r
 | nl=>intro m us vs _ r;cases m<;>exact r
 | jg=>intro m us vs _ r;cases m<;>exact r
 | kS b ag =>
   intro m us vs r0 r;cases m with
   | many=>exact r
   | cells=>exact⟨r.1,r0.2.shrink hm r.2 fun _ k=>k⟩
   | val=>exact⟨r.1,r0.2.shrink hm r.2 fun _ k=>k⟩
 | ptr b ag p =>
   intro m us vs r0 r;cases m with
   | many=>exact r
   | cells=>exact⟨r.1,r0.2.shrink hm r.2 fun _ k=>k⟩
   | val=>exact⟨r.1,r0.2.shrink hm r.2 fun _ k=>k⟩
 | whole b ag =>
   intro m us vs r0 r;cases m with
   | many=>exact r
   | cells=>exact⟨r.1,r0.2.shrink hm r.2 fun _ k=>k⟩
   | val=>exact⟨r.1,r0.2.shrink hm r.2 fun _ k=>k⟩
 | part b ag lo n =>
   intro m us vs r0 r;cases m with
   | many=>exact r
   | cells=>exact⟨r.1,r0.2.shrink hm r.2 fun _ k=>k⟩
   | val=>exact⟨r.1,r0.2.shrink hm r.2 fun _ k=>k⟩
 | win b ag q e k lo n =>
   intro m us vs r0 r;cases m with
   | many=>exact r
   | cells=>exact⟨r.1,r0.2.shrink hm r.2 fun _ k=>k⟩
   | val=>exact⟨r.1,r0.2.shrink hm r.2 fun _ k=>k⟩
 | fn f caps =>
   intro m us vs r0 r;cases m with
   | many=>exact r
   | cells=>obtain⟨_,_,_,s⟩:=r0;obtain⟨arr,r1,r2,r3⟩:=r;exact⟨arr,r1,r2,fun i b ag hc=>(s i b ag hc).shrink hm (r3 i b ag hc) fun _ k=>k⟩
   | val=>obtain⟨_,_,_,s⟩:=r0;obtain⟨arr,r1,r2,r3⟩:=r;exact⟨arr,r1,r2,fun i b ag hc=>(s i b ag hc).shrink hm (r3 i b ag hc) fun _ k=>k⟩
 | mix a b eH fF =>
   intro m us vs r0 r;cases m with
   | cells=>obtain⟨_,_,_,s1,s2⟩:=r0;obtain⟨c1,c2,r0,r1,r2⟩:=r;exact⟨c1,c2,r0,eH s1 r1,fF s2 r2⟩
   | val=>obtain⟨_,_,_,s1,s2⟩:=r0;obtain⟨c1,c2,r0,r1,r2⟩:=r;exact⟨c1,c2,r0,eH s1 r1,fF s2 r2⟩
   | many=>obtain⟨_,_,_,s1,s2⟩:=r0;obtain⟨c1,c2,r0,r1,r2⟩:=r;exact⟨c1,c2,r0,eH s1 r1,fF s2 r2⟩
 | kN u ih =>
   intro m us vs r0 r;cases m with
   | val=>obtain⟨_,_,s⟩:=r0;obtain⟨arr,r1,r2⟩:=r;exact⟨arr,r1,ih s r2⟩
   | cells=>exact r
   | many=>exact r
theorem aG.unlock{B:iP}{γ γ':Gh}{mem mem':Nat→Option aI}{w w':World}(h:aG B γ mem w)(hm:∀b bx,mem b=some bx→mem' b=some { bx with lk:=true })
  (h':aG B γ' mem' w') (hx:Ext B γ (fun i=>match mem i with|some b=>some { b with lk:=true }|none=>none) w γ' mem' w'):aG B γ' mem w'∧Ext B γ mem w γ' mem w':=by
 have oR:∀b bx,mem b=some bx→γ'.loc b=γ.loc b:=by
  intro b bx hb;obtain⟨dQ,k1,k2,k3⟩:=hx.boxes b { bx with lk:=true } (by simp[hb]);rw[hm b bx hb] at k1;obtain rfl:=au k1;exact(k3 rfl).1
 have hne:∀b,mem b≠none→mem' b≠none:=by
  intro b hb;cases hq:mem b with
  | none=>exact absurd hq hb
  | some bx=>rw[hm b bx hq];simp
 refine⟨?_,⟨hx.below,hx.I,hx.kP,hx.cells,fun b bx hb=>⟨bx,hb,dB _,fun _=>⟨oR b bx hb,rfl,rfl⟩⟩⟩⟩;exact
  { bX:=h'.bX
    base:=h'.base
    boxes:=fun b bx hb=>by
     have h1:=h.boxes b bx hb;have h2:=h'.boxes b _ (hm b bx hb);unfold bn at h1 h2⊢;cases aJ:bx.buf with
     | true=>rw[aJ] at h2;exact h2
     | false =>
       rw[aJ] at h1 h2;obtain⟨_,_,_,_,_,_,_,_,_,r0⟩:=h1;obtain⟨blk,cap,cur,tid,fr,k1,k2,k3,cQ,k4⟩:=h2;exact⟨blk,cap,cur,tid,fr,k1,k2,k3,cQ,r0.shrink hm k4⟩
    inj:=fun b c blk k k' hb hc h1 h2=>h'.inj b c blk k k' (hne b hb) (hne c hc) h1 h2
    fresh:=fun b blk k hb h1=>h'.fresh b blk k (hne b hb) h1
    kO:=h'.kO
    sep:=fun b bx blk k off hb h1 hi=>by
     have:=h'.sep b _ blk k off (hm b bx hb) h1 hi;exact this }
theorem Ext.dJ{B:iP}{γ:Gh}{σ:St}{w:World}:Ext B γ σ.mem w γ σ.dJ.mem w where
 below:=jR.refl _ _
 I:=fun _ _ h=>h
 kP:=fun _ _ h=>.inl h
 cells:=fun _ _ _=>rfl
 boxes:=fun b bx hb=>⟨{ bx with lk:=true },by simp[St.dJ,hb],dB _,fun _=>⟨rfl,rfl,rfl⟩⟩
theorem aG.dJ{B:iP}{γ:Gh}{σ:St}{w:World}(h:aG B γ σ.mem w):aG B γ σ.dJ.mem w:=by
 have inv:∀{b bx},σ.dJ.mem b=some bx→∃bF,σ.mem b=some bF∧bx={ bF with lk:=true }:=by
  intro b bx hb;simp only[St.dJ] at hb;split at hb
  ·rename_i bF h0;exact⟨bF,h0,(au hb).symm⟩
  ·cases hb
 have hne:∀{b},σ.dJ.mem b≠none→σ.mem b≠none:=by
  intro b hb hq;apply hb;simp[St.dJ,hq]
 exact
  { bX:=h.bX
    base:=h.base
    boxes:=fun b bx hb=>by
     obtain⟨bF,h0,rfl⟩:=inv hb;have:=(h.boxes b bF h0).keep (Ext.dJ (B:=B) (γ:=γ) (σ:=σ) (w:=w)) rfl (fun _ _ _=>rfl);exact this
    inj:=fun b c blk k k' hb hc h1 h2=>h.inj b c blk k k' (hne hb) (hne hc) h1 h2
    fresh:=fun b blk k hb h1=>h.fresh b blk k (hne hb) h1
    kO:=h.kO
    sep:=fun b bx blk k off hb h1 hi=>by
     obtain⟨bF,h0,rfl⟩:=inv hb;exact h.sep b bF blk k off h0 h1 hi }
theorem bE.dJ{B:iP}{N:Nat}{γ:Gh}{σ:St}{a:Act}{w:World}(h:bE B N γ σ a w):bE B N γ σ.dJ a w where
 slots:=fun t=>(h.slots t).ext (Ext.dJ (B:=B))
 size:=h.size
 defers:=h.defers
 ok:=h.ok.dJ
theorem yZ{σ τ:St}(h:aE σ.dJ τ):∀b bx,σ.mem b=some bx→τ.mem b=some { bx with lk:=true }:=fun b bx hb=>h b _ (by simp[St.dJ,hb]) rfl
end Go.Ge
namespace Go.Ge
open RowKit
inductive iI (all:Array Oper) (G:List (Nat×Bool)):List (Nat×Oper)→List Oper→Prop
 | nil:iI all G [] []
 | cons {i:Nat} {o o':Oper} {r:List (Nat×Oper)} {l:List Oper}:all[i]?=some o→(o'=o∨∃g,o.guard=some g∧g∈G∧o'={ o with guard:=none })→iI all G r l→iI all G ((i,o')::r) (o::l)
theorem iI.mono{all:Array Oper}{G G':List (Nat×Bool)}(hG:∀g∈G,g∈G'){items:List (Nat×Oper)}{l:List Oper}(h:iI all G items l):iI all G' items l:=by
 induction h with
 | nil=>exact .nil
 | cons h1 h2 _ ih=>exact .cons h1 (h2.imp id fun⟨g,k1,k2,k3⟩=>⟨g,k1,hG g k2,k3⟩) ih
theorem AB{all:Array Oper}{G:List (Nat×Bool)}{j:Nat}{want:Bool}:∀{items:List (Nat×Oper)} {l:List Oper} {inner:List Nat},iI all G items l →
  ∃l1 l2,l=l1++l2∧iI all ((j,want)::G) (under j want inner items).1 l1∧iI all G (under j want inner items).2 l2:=by
 intro items l inner h;induction h generalizing inner with
 | nil=>exact⟨[],[],rfl,.nil,.nil⟩
 | @cons i o o' r l h1 h2 h3 ih =>
   unfold under;cases hg:mJ o'.guard j want with
   | true =>
     simp only[bZ];obtain⟨l1,l2,e1,e2,e3⟩:=ih (inner:=i::inner);refine⟨o::l1,l2,by rw[e1];rfl,.cons h1 (.inr ?_) e2,e3⟩;have ho:o'=o:=by
      rcases h2 with h2|⟨g,k1,k2,k3⟩
      ·exact h2
      ·rw[k3] at hg;cases hg
     subst ho;unfold mJ at hg;split at hg
     ·rename_i i' b' hgd;simp only[bY] at hg;have h9:=cB hg.1;have h8:b'=want:=by simpa using hg.2
      subst h9;subst h8;exact⟨(i',b'),hgd,jU ..,rfl⟩
     ·cases hg
   | false =>
     simp only[ez];have both:∀c:Bool,∃l1 l2,o::l=l1++l2 ∧
       iI all ((j,want)::G) (bif c then((i,o')::(under j want (i::inner) r).1,(under j want (i::inner) r).2) else([],(i,o')::r)).1 l1 ∧
       iI all G (bif c then((i,o')::(under j want (i::inner) r).1,(under j want (i::inner) r).2) else([],(i,o')::r)).2 l2:=by
      intro c;cases c with
      | true =>
        obtain⟨l1,l2,e1,e2,e3⟩:=ih (inner:=i::inner);exact⟨o::l1,l2,by rw[e1];rfl,.cons h1 (h2.imp id fun⟨g,k1,k2,k3⟩=>⟨g,k1,jT _ k2,k3⟩) e2,e3⟩
      | false=>exact⟨[],o::l,rfl,.nil,.cons h1 h2 h3⟩
     exact both _
theorem Ce{d:Nat}:∀{items:List (Nat×Oper)},gi d items=false→∀i o,(i,o)∈items→o.dst≠some d:=by
 intro items;induction items with
 | nil=>intro _ i o h;cases h
 | cons p r ih =>
   obtain⟨i0,o0⟩:=p;intro h i o hm;simp only[gi,wF] at h;rcases List.mem_cons.1 hm with hm|hm
   ·obtain⟨rfl,rfl⟩:=bM hm;intro e;rw[e] at h;simp at h
   ·exact ih h.2 i o hm
section
variable {P:Program} {B:iP} {N:Nat} {γ:Gh} {σ σ':St} {a:Act} {w w':World} {cx:Ctx} {nb:Nat} {bf:List Nat} {inl:Nat→List av→St→Tree (av×St)} {all:Array Oper}
def AD(all:Array Oper)(G:List (Nat×Bool))(a:Act)(items:List (Nat×Oper)):Prop :=
 ∀g∈G,∃dj,(all[g.1]?).bind (·.dst)=some dj∧a.tmps[dj]?=some (.bool g.2)∧gi dj items=false
theorem AD.wanted{G:List (Nat×Bool)}{items:List (Nat×Oper)}(h:AD all G a items){o:Oper}{g:Nat×Bool}(ho:o.guard=some g)(hg:g∈G):Region.wanted o (yielded all a.tmps)=true:=by
 obtain⟨dj,h1,h2,_⟩:=h g hg;obtain⟨j,want⟩:=g;unfold Region.wanted;rw[ho];simp only[yielded,h1,zQ,h2];simp
def Fr(items:List (Nat×Oper))(a a':Act):Prop:=∀t,gi t items=false→a'.tmps[t]?=a.tmps[t]?
theorem cK{a:Act}{d:Option Nat}{v:Value}{t:Nat}(h:d≠some t):(a.put d v).tmps[t]?=a.tmps[t]?:=by
 cases d with
 | none=>rfl
 | some k =>
   have:k≠t:=fun e=>h (by rw[e]);simp[Act.put,Array.getElem?_setIfInBounds_ne this]
theorem mg{d i:Nat}{o:Oper}{r:List (Nat×Oper)}(h:gi d ((i,o)::r)=false):o.dst≠some d∧gi d r=false:=by
 simp only[gi,wF] at h;refine⟨fun e=>?_,h.2⟩;rw[e] at h;simp at h
theorem AE(t:Nat):∀(items:List (Nat×Oper)),(σ.undef items).slots t=bif gi t items then .undef else σ.slots t:=by
 intro items;induction items with
 | nil=>rfl
 | cons p r ih =>
   obtain⟨i,o⟩:=p;simp only[St.undef,gi];cases hd:o.dst with
   | none=>simp only[St.aA,DW];exact ih
   | some k =>
     simp only[St.aA,St.put];cases hk:Nat.beq k t with
     | true=>obtain rfl:=cB hk;simp
     | false =>
       have:Nat.beq t k=false:=dO (fun e=>by subst e;simp at hk);rw[this];simp only[ez,DW];exact ih
theorem jS:∀(items:List (Nat×Oper)),(σ.undef items).mem=σ.mem:=by
 intro items;induction items with
 | nil=>rfl
 | cons p r ih =>
   obtain⟨i,o⟩:=p;simp only[St.undef];cases o.dst<;>exact ih
theorem bE.undef(h:bE B N γ σ a w){items:List (Nat×Oper)}{a':Act}(hf:Fr items a a')(hs:a'.tmps.size=N)(hd:a'.defers=[]):bE B N γ (σ.undef items) a' w where
 slots:=fun t=>by
  rw[AE,jS];cases hh:gi t items with
  | true=>exact⟨_,rfl⟩
  | false =>
    have:=hf t hh;have e:a'.tmps.getD t Go.undef=a.tmps.getD t Go.undef:=by simp only[Bx,this]
    rw[e];exact h.slots t
 size:=hs
 defers:=hd
 ok:=by rw[jS];exact h.ok
theorem qO{d:Option Nat}{k:Nat}(h:yielded all a.tmps k=none):yielded all (a.put d Go.undef).tmps k=none:=by
 unfold yielded at h⊢;cases hk:(all[k]?).bind (·.dst) with
 | none=>rfl
 | some dk =>
   rw[hk] at h;simp only[zQ] at h⊢;by_cases e:d=some dk
   ·subst e;simp only[Act.put];rw[JV];simp only[iE];by_cases hs:dk<a.tmps.size
    ·rw[gd hs];rfl
    ·rw[cY hs]
   ·rw[cK e];exact h
theorem qP{i:Nat}{o:Oper}(h:all[i]?=some o):yielded all (a.put o.dst Go.undef).tmps i=none:=by
 unfold yielded;rw[h];simp only[zQ];cases hd:o.dst with
 | none=>rfl
 | some d =>
   simp only[zQ,Act.put];rw[JV];simp only[iE];by_cases hs:d<a.tmps.size
   ·rw[gd hs];rfl
   ·rw[cY hs]
theorem Cf{G:List (Nat×Bool)}{j dj:Nat}{want c:Bool}{Q:Exit→Act→World→Prop}(hj:(all[j]?).bind (·.dst)=some dj)(AF:c≠want) :
  ∀{items:List (Nat×Oper)} {l:List Oper} {inner:List Nat} {a:Act},iI all G items l→a.tmps[dj]?=some (.bool c)→gi dj (under j want inner items).1=false→(∀k∈inner,yielded all a.tmps k=none) →
   ∃l1 l2,l=l1++l2∧l1.length=(under j want inner items).1.length∧∀rest,(∀a',Fr (under j want inner items).1 a a'→a'.tmps.size=a.tmps.size→a'.defers=a.defers→wpList P all Q rest a' w) →
    wpList P all Q (l1++rest) a w:=by
 intro items l inner a h;induction h generalizing inner a with
 | nil=>intro _ _ _;exact⟨[],[],rfl,rfl,fun rest hk=>hk a (fun t _=>rfl) rfl rfl⟩
 | @cons i o o' r l h1 h2 h3 ih =>
   intro hc hh hin;have one:∀(oo:Oper),oo.dst=o.dst→Region.wanted o (yielded all a.tmps)=false→(under j want inner ((i,o')::r)).1=(i,oo)::(under j want (i::inner) r).1 →
     ∃l1 l2,o::l=l1++l2∧l1.length=(under j want inner ((i,o')::r)).1.length∧∀rest,(∀a',Fr (under j want inner ((i,o')::r)).1 a a'→a'.tmps.size=a.tmps.size→a'.defers=a.defers→wpList P all Q rest a' w) →
     wpList P all Q (l1++rest) a w:=by
    intro oo ND hw hu;rw[hu] at hh⊢;obtain⟨hd1,Oz⟩:=mg hh;rw[ND] at hd1;obtain⟨l1,l2,e1,e2,e3⟩:=ih (inner:=i::inner) (a:=a.put o.dst Go.undef) (by rw[cK hd1];exact hc) Oz (fun k hk=>by
     rcases List.mem_cons.1 hk with rfl|hk
     ·exact qP h1
     ·exact qO (hin k hk))
    refine⟨o::l1,l2,by rw[e1];rfl,by simp[e2],fun rest hk=>?_⟩;show wpList P all Q (o::(l1++rest)) a w
    unfold wpList;rw[hw];simp only[BC,rG];refine e3 rest fun a' f1 f2 f3=>hk a' (fun t ht=>?_) (f2.trans (Af _ _ _)) (f3.trans (put_defers _ _ _));obtain⟨NF,OA⟩:=mg ht;rw[ND] at NF;rw[f1 t OA,cK NF]
   cases hg:mJ o'.guard j want with
   | true =>
     have ho:o'=o:=by
      rcases h2 with h2|⟨g,k1,k2,k3⟩
      ·exact h2
      ·rw[k3] at hg;cases hg
     subst ho;have hgd:o'.guard=some (j,want):=by
      unfold mJ at hg;split at hg
      ·rename_i i' b' hgd;simp only[bY] at hg;have h9:=cB hg.1;have h8:b'=want:=by simpa using hg.2
       rw[hgd,h9,h8]
      ·cases hg
     refine one { o' with guard:=none } rfl ?_ (by simp only[under,hg,bZ]);unfold Region.wanted;rw[hgd];simp only[yielded,hj,zQ,hc];cases c<;>cases want<;>first|rfl|exact absurd rfl AF
   | false =>
     cases hgd:o'.guard with
     | none =>
       have hu:(under j want inner ((i,o')::r)).1=[]:=by
        rw[hgd] at hg;simp only[under,hgd,hg,ez]
       rw[hu];exact⟨[],o::l,rfl,rfl,fun rest hk=>hk a (fun t _=>rfl) rfl rfl⟩
     | some g =>
       obtain⟨k,b⟩:=g;rw[hgd] at hg;cases hn:inner.any (Nat.beq k) with
       | true =>
         have ho:o'=o:=by
          rcases h2 with h2|⟨g,k1,k2,k3⟩
          ·exact h2
          ·rw[k3] at hgd;cases hgd
         subst ho;refine one o' rfl ?_ (by simp only[under,hgd,hg,hn,ez,bZ]);obtain⟨k',hk',hkk⟩:=List.any_eq_true.1 hn;obtain rfl:=cB hkk;unfold Region.wanted;rw[hgd];simp only[hin k hk'];rfl
       | false =>
         have hu:(under j want inner ((i,o')::r)).1=[]:=by simp only[under,hgd,hg,hn,ez]
         rw[hu];exact⟨[],o::l,rfl,rfl,fun rest hk=>hk a (fun t _=>rfl) rfl rfl⟩
end
end Go.Ge
namespace Go.Ge
open RowKit
section
variable {P:Program} {B:iP} {N:Nat} {γ:Gh} {σ σ':St} {a:Act} {w w':World} {cx:Ctx} {nb:Nat} {bf:List Nat} {inl:Nat→List av→St→Tree (av×St)} {all:Array Oper}
theorem vA(σ:St)(items:List (Nat×Oper)):aE σ (σ.undef items):=aE.Gn (jS items)
theorem qQ(fE:∀f vals σ v σ',(inl f vals σ).run=some (v,σ')→aE σ σ'):∀(n:Nat) (items:List (Nat×Oper)) (σ:St),af σ (gZ cx nb bf inl all n items σ):=by
 intro n;induction n with
 | zero=>intro items σ;exact af.fail
 | succ n ih =>
   intro items σ;cases items with
   | nil=>exact af.ret (aE.refl _)
   | cons p r =>
     obtain⟨i,o⟩:=p;unfold gZ;split
     ·exact af.bind fun σ1 h1 y hy=>(nP fE σ1 h1).trans (ih _ _ y hy)
     ·rename_i j want hg;dsimp only;split
      ·exact af.fail
      ·rename_i dj MG;split
       ·rename_i c ip pk rest qR sR;cases hh:gi dj (under j want [] ((i,o)::r)).1 with
        | true=>exact af.fail
        | false =>
          simp only[ez];split
          ·exact af.fail
          ·cases hin:uf cx (under j want [] ((i,o)::r)).1 with
           | true =>
             simp only[bZ];intro y hy;obtain⟨σ2,h1,h2⟩:=bind_some hy;refine aE.trans ?_ (ih _ _ y h2);refine(af.node (σ:=σ) ?_ ?_) σ2 h1
             ·refine af.bind fun τ OB=>?_;split
              ·exact af.ret ((ih _ _ τ OB).trans (aE.aA _ _ _))
              ·exact af.fail
             ·split
              ·exact af.ret ((vA _ _).trans (aE.aA _ _ _))
              ·exact af.fail
           | false =>
             simp only[ez];split
             ·intro y hy;rw[Tree.ny] at hy;obtain⟨x,h1,h2⟩:=Option.bind_eq_some_iff.1 hy;exact((vA _ _).trans (aE.put _ _ _)).trans (ih _ _ y h2)
             ·exact af.fail
       ·exact af.fail
theorem Du{mem:Nat→Option aI}{t:Ty}{v:av}{x:t.den}{val:Value}(h:DY t v=some x)(hv:aV γ mem w v .val [val]){mem':Nat→Option aI}:aV γ mem' w (.data t x) .val [val]:=by
 unfold DY at h;split at h
 ·obtain⟨q,hq⟩:=Ty.eY h;subst q;subst hq;exact hv
 ·split at h
  ·obtain rfl:=au h;obtain rfl:val=_:=by simpa [aV] using hv
   exact⟨[.slice none 0 0],.inl ⟨⟨none,rfl⟩,rfl⟩,rfl⟩
  ·cases h
 ·cases h
theorem iI.length{G:List (Nat×Bool)}{items:List (Nat×Oper)}{l:List Oper}(h:iI all G items l):items.length=l.length:=by
 induction h with
 | nil=>rfl
 | cons _ _ _ ih=>simp[ih]
theorem Cg{pk:Oper}{dj:Nat}{b:Bool}{v:av}{K:Act→World→Prop}{Q:Exit→Act→World→Prop}(h:bE B N γ σ a w)(hb:a.tmps[dj]?=some (.bool b)){want:Bool}(hw:b=want)
  (AG:mK σ pk dj want=some v) (hK:∀y,aV γ σ.mem w v .val [y]→K (a.put pk.dst y) w):pk.wp P a w K Q:=by
 unfold mK at AG;split at AG
 ·rename_i c x y hop;cases hc:Nat.beq c dj with
  | false=>rw[hc] at AG;cases AG
  | true =>
    obtain rfl:=cB hc;rw[hc] at AG;obtain rfl:=au AG;subst hw;have he:a.eval (.tmp c)=.bool b:=by simp[Act.eval,hb]
    unfold Oper.wp;have hrun:(execOp a.eval pk).run P w=.ok (.value (a.eval (bif b then x else y))) w:=by
     simp only[execOp,hop,he];cases b<;>rfl
    rw[hrun];exact hK _ (h.aZ _)
 ·cases AG
theorem AD.put{G:List (Nat×Bool)}{i:Nat}{o:Oper}{r:List (Nat×Oper)}(h:AD all G a ((i,o)::r))(v:Value):AD all G (a.put o.dst v) r:=by
 intro g hg;obtain⟨dj,k1,k2,k3⟩:=h g hg;obtain⟨t1,t2⟩:=mg k3;exact⟨dj,k1,by rw[cK t1];exact k2,t2⟩
theorem Ch{d j:Nat}{want:Bool}:∀{items:List (Nat×Oper)} {inner:List Nat},gi d items=(gi d (under j want inner items).1||gi d (under j want inner items).2):=by
 intro items;induction items with
 | nil=>intro inner;rfl
 | cons p r ih =>
   obtain⟨i,o⟩:=p;intro inner;unfold under;cases hg:mJ o.guard j want with
   | true=>simp only[bZ,gi,FF];rw[ih (inner:=i::inner)]
   | false =>
     simp only[ez];have both:∀c:Bool,gi d ((i,o)::r)=(gi d (bif c then((i,o)::(under j want (i::inner) r).1,(under j want (i::inner) r).2) else([],(i,o)::r)).1 ||
       gi d (bif c then((i,o)::(under j want (i::inner) r).1,(under j want (i::inner) r).2) else([],(i,o)::r)).2):=by
      intro c;cases c with
      | true=>simp only[bZ,gi,FF];rw[ih (inner:=i::inner)]
      | false=>simp[gi]
     exact both _
theorem Ci{p:Option Nat→Prop}{j:Nat}{want:Bool}:∀{items:List (Nat×Oper)} {inner:List Nat},(∀i o,(i,o)∈items→p o.dst) →
  (∀i o,(i,o)∈(under j want inner items).1→p o.dst)∧(∀i o,(i,o)∈(under j want inner items).2→p o.dst):=by
 intro items;induction items with
 | nil=>intro inner h;exact⟨h,h⟩
 | cons q r ih =>
   obtain⟨i0,o0⟩:=q;intro inner h;have h0:=h i0 o0 (jU ..);have hr:∀i o,(i,o)∈r→p o.dst:=fun i o hm=>h i o (jT _ hm);unfold under;cases hg:mJ o0.guard j want with
   | true =>
     simp only[bZ];obtain⟨k1,k2⟩:=ih (inner:=i0::inner) hr;refine⟨fun i o hm=>?_,k2⟩;rcases List.mem_cons.1 hm with hm|hm
     ·obtain⟨_,rfl⟩:=bM hm;exact h0
     ·exact k1 i o hm
   | false =>
     simp only[ez];have both:∀c:Bool,(∀i o,(i,o)∈(bif c then((i0,o0)::(under j want (i0::inner) r).1,(under j want (i0::inner) r).2) else([],(i0,o0)::r)).1→p o.dst) ∧
       (∀i o,(i,o)∈(bif c then((i0,o0)::(under j want (i0::inner) r).1,(under j want (i0::inner) r).2) else([],(i0,o0)::r)).2→p o.dst):=by
      intro c;cases c with
      | true =>
        obtain⟨k1,k2⟩:=ih (inner:=i0::inner) hr;refine⟨fun i o hm=>?_,k2⟩;rcases List.mem_cons.1 hm with hm|hm
        ·obtain⟨_,rfl⟩:=bM hm;exact h0
        ·exact k1 i o hm
      | false=>exact⟨fun i o hm=>(by cases hm),h⟩
     exact both _
theorem sV{t:Nat}{b:Bool}(h:bE B N γ σ a w)(hs:σ.slots t=.data .bool b):a.tmps[t]?=some (.bool b):=by
 have:=h.slots t;rw[hs] at this;have e:=mN this;rw[Bx] at e;cases hq:a.tmps[t]? with
 | none=>rw[hq] at e;cases e
 | some y=>rw[hq] at e;exact congrArg some e
theorem AH{α:Type}{c want:Bool}{t e:Tree α}{y:α}(h:(Tree.node (bif want then c else nt c) t e).run=some y):(c=want∧t.run=some y)∨(c≠want∧c=(!want)∧e.run=some y):=by
 have:=cT h;cases c<;>cases want
 ·exact .inl ⟨rfl,this⟩
 ·exact .inr ⟨by simp,rfl,this⟩
 ·exact .inr ⟨by simp,rfl,this⟩
 ·exact .inl ⟨rfl,this⟩
theorem w9(hc:dw P cx)(dy:jD P B.G cx)(fE:mb P B.G inl)(hkeep:∀f vals σ v σ',(inl f vals σ).run=some (v,σ')→aE σ σ'){Q:Exit→Act→World→Prop} :
  ∀(n:Nat) {items:List (Nat×Oper)} {l rest:List Oper} {σ σ':St} {γ:Gh} {a:Act} {w:World} {G:List (Nat×Bool)},iI all G items l→AD all G a items→(∀i o,(i,o)∈items→∀k,o.dst=some k→k<N) →
   (gZ cx nb bf inl all n items σ).run=some σ'→bE B N γ σ a w →
   (∀γ' a' w',bE B N γ' σ' a' w'→Ext B γ σ.mem w γ' σ'.mem w'→Fr items a a'→wpList P all Q rest a' w')→wpList P all Q (l++rest) a w:=by
 intro n;induction n with
 | zero=>intro items l rest σ σ' γ a w G _ _ _ hr;cases hr
 | succ n ih =>
   intro items l rest σ σ' γ a w G hit hG hd hr h hK;cases hit with
   | nil =>
     obtain rfl:=au hr;exact hK γ a w h (Ext.refl _ _ _ _) (fun t _=>rfl)
   | @cons i o o' r l h1 h2 h3 =>
     have Ca:o'.dst=o.dst:=by rcases h2 with rfl|⟨_,_,_,rfl⟩<;>rfl
     unfold gZ at hr;split at hr
     ·rename_i hg;obtain⟨σ1,r1,r2⟩:=bind_some hr;have hw:Region.wanted o (yielded all a.tmps)=true:=by
       rcases h2 with rfl|⟨g,k1,k2,k3⟩
       ·unfold Region.wanted;rw[hg]
       ·exact hG.wanted k1 k2
      have OC:(gY cx nb bf inl o σ).run=some σ1:=by
       rcases h2 with rfl|⟨g,k1,k2,rfl⟩
       ·exact r1
       ·exact r1
      show wpList P all Q (o::(l++rest)) a w
      unfold wpList;rw[hw];simp only[iE];refine .inl (vo hc dy fE h (fun k hk=>hd i o' (jU ..) k (by rw[Ca];exact hk)) OC fun dS v w1 s1 x1=>?_);have NG:=hG.put v;rw[Ca] at NG;refine ih h3 NG (fun i o hm=>hd i o (jT _ hm)) r2 s1 fun oY a2 w2 s2 x2 f2=>hK oY a2 w2 s2 (x1.trans x2) fun t ht=>?_;obtain⟨t1,t2⟩:=mg ht;rw[f2 t t2,cK (by rw[←Ca];exact t1)]
     ·rename_i j want hg;dsimp only at hr;split at hr
      ·exact absurd hr (by intro k;cases k)
      rename_i dj MG;split at hr
      case h_2=>exact absurd hr (by intro k;cases k)
      rename_i c ip pk rest' qR sR;change Bool at c;cases hh:gi dj (under j want [] ((i,o')::r)).1 with
      | true=>rw[hh] at hr;exact absurd hr (by intro k;cases k)
      | false =>
      rw[hh] at hr;simp only[ez] at hr;split at hr
      ·exact absurd hr (by intro k;cases k)
      rename_i OD;have Kh:a.tmps[dj]?=some (.bool c):=sV h qR;obtain⟨l1,l2,e1,I1,I2⟩:=AB (j:=j) (want:=want) (inner:=[]) (iI.cons h1 h2 h3);obtain⟨d1,d2⟩:=Ci (p:=fun d=>∀k,d=some k→k<N) (j:=j) (want:=want) (inner:=[]) hd;have JL:∀d,gi d ((i,o')::r)=(gi d (under j want [] ((i,o')::r)).1||gi d (under j want [] ((i,o')::r)).2):=fun d=>Ch;have Ll:=fun(AF:c≠want)=>Cf (P:=P) (w:=w) (Q:=Q) MG AF (iI.cons h1 h2 h3) Kh hh (fun k hk=>by cases hk);generalize NH:(under j want [] ((i,o')::r)).1=g1 at *;rw[sR] at I2 d2 JL;cases I2 with
      | @cons _ E9 _ _ Lm p1 p2 p3 =>
      have Ki:pk.dst=E9.dst:=by rcases p2 with rfl|⟨_,_,_,rfl⟩<;>rfl
      have MH:pk.op=E9.op:=by rcases p2 with rfl|⟨_,_,_,rfl⟩<;>rfl
      rw[e1,kK];have hsplit:∀{d},gi d ((i,o')::r)=false→gi d g1=false∧E9.dst≠some d∧gi d rest'=false:=by
       intro d hd0;rw[JL] at hd0;simp only[wF] at hd0;obtain⟨q1,q2⟩:=mg hd0.2;exact⟨hd0.1,by rw[←Ki];exact q1,q2⟩
      have tail:∀(dS:Gh) (τ σ2:St) (a1:Act) (w1:World) (v:av) (b:Bool),bE B N dS τ a1 w1→Fr g1 a a1→c=b→mK τ pk dj b=some v →
        (∀y,aV dS τ.mem w1 v .val [y]→∃oY,bE B N oY σ2 (a1.put E9.dst y) w1∧Ext B γ σ.mem w oY σ2.mem w1)→(gZ cx nb bf inl all n rest' σ2).run=some σ' →
        wpList P all Q (E9::Lm++rest) a1 w1:=by
       intro dS τ σ2 a1 w1 v b s1 f1 hcb AG hy hev;have NI:AD all G a1 ((ip,pk)::rest'):=fun g Ln=>by
        obtain⟨L1,k1,k2,k3⟩:=hG g Ln;obtain⟨q1,q2,q3⟩:=hsplit k3;refine⟨L1,k1,by rw[f1 L1 q1];exact k2,?_⟩;simp only[gi,wF];refine⟨?_,q3⟩;cases hpk:pk.dst with
        | none=>rfl
        | some k=>exact dO fun e=>q2 (by rw[←Ki,hpk,e])
       have hwp:Region.wanted E9 (yielded all a1.tmps)=true:=by
        rcases p2 with rfl|⟨g,k1,k2,k3⟩
        ·unfold Region.wanted;rw[OD]
        ·exact NI.wanted k1 k2
       show wpList P all Q (E9::(Lm++rest)) a1 w1
       unfold wpList;rw[hwp];simp only[iE];have MI:mK τ E9 dj b=some v:=by rw[←AG];unfold mK;rw[MH]
       refine .inl (Cg s1 (by rw[f1 dj hh];exact Kh) hcb MI fun y LW=>?_);obtain⟨oY,s2,x2⟩:=hy y LW;have NJ:=NI.put y;rw[Ki] at NJ;refine ih p3 NJ (fun i o hm=>d2 i o (jT _ hm)) hev s2 fun MJ a3 w3 s3 x3 f3=>hK MJ a3 w3 s3 (x2.trans x3) fun t ht=>?_;obtain⟨q1,q2,q3⟩:=hsplit ht;rw[f3 t q3,cK q2,f1 t q1]
      have JM:∀(τ:St) (d:Option Nat) (v:av),(τ.aA d v).mem=τ.mem:=fun τ d v=>by cases d<;>rfl
      have hpk:∀k,E9.dst=some k→k<N:=fun k hk=>d2 ip pk (jU ..) k (by rw[Ki];exact hk);have NK:c=want→AD all ((j,want)::G) a g1:=fun AF g Ln=>by
       rcases List.mem_cons.1 Ln with rfl|Ln
       ·exact⟨dj,MG,by rw[←AF];exact Kh,hh⟩
       ·obtain⟨L1,k1,k2,k3⟩:=hG g Ln;exact⟨L1,k1,k2,(hsplit k3).1⟩
      have dn:c≠want→(∀a1,Fr g1 a a1→a1.tmps.size=a.tmps.size→a1.defers=a.defers→wpList P all Q (E9::Lm++rest) a1 w)→wpList P all Q (l1++(E9::Lm++rest)) a w:=by
       intro AF hk;obtain⟨m1,m2,q1,q2,q3⟩:=Ll AF;rw[e1] at q1;obtain⟨rfl,rfl⟩:=List.append_inj q1 (by rw[q2,I1.length]);exact q3 _ hk
      cases hin:uf cx g1 with
      | true =>
        rw[hin] at hr;simp only[bZ] at hr;obtain⟨σ2,hn,hev⟩:=bind_some hr;rcases AH (c:=c) (want:=want) hn with ⟨AF,hn⟩|⟨AF,Lk,hn⟩
        ·obtain⟨τ,t1,t2⟩:=bind_some hn;split at t2
         ·rename_i v AG;obtain rfl:=au t2;refine ih I1 (NK AF) d1 t1 h fun dS a1 w1 s1 x1 f1=>tail dS τ _ a1 w1 v want s1 f1 AF AG (fun y hy=>⟨dS,?_,?_⟩) hev
          ·rw[Ki];exact s1.nG hpk hy
          ·rw[JM];exact x1
         ·exact absurd t2 (by intro k;cases k)
        ·split at hn
         ·rename_i v AG;obtain rfl:=au hn;refine dn AF fun a1 f1 f2 f3=>tail γ (σ.undef g1) _ a1 w v (!want) (h.undef f1 (f2.trans h.size) (f3.trans h.defers)) f1 Lk AG (fun y hy=>⟨γ,?_,?_⟩) hev
          ·rw[Ki];exact(h.undef f1 (f2.trans h.size) (f3.trans h.defers)).nG hpk hy
          ·rw[JM,jS];exact Ext.refl _ _ _ _
         ·exact absurd hn (by intro k;cases k)
      | false =>
        rw[hin] at hr;simp only[ez] at hr;split at hr
        case h_2=>exact absurd hr (by intro k;cases k)
        rename_i t dp hT OE;rw[Tree.ny] at hr;obtain⟨x,hn,hev⟩:=Option.bind_eq_some_iff.1 hr;have Iq:E9.dst=some dp:=by rw[←Ki];exact OE
        rcases AH (c:=c) (want:=want) hn with ⟨AF,hn⟩|⟨AF,Lk,hn⟩
        ·obtain⟨τ,t1,t2⟩:=bind_some hn;split at t2
         ·rename_i x' AG;obtain rfl:=au t2;obtain⟨v,hv1,E6⟩:=Option.bind_eq_some_iff.1 AG;refine ih I1 (NK AF) d1 t1 h.dJ fun dS a1 w1 s1 x1 f1=>tail dS τ _ a1 w1 v want s1 f1 AF hv1 (fun y hy=>?_) hev;obtain⟨m1,m2⟩:=h.ok.unlock (yZ (qQ hkeep n g1 _ τ t1)) s1.ok x1;have hS:bE B N dS σ a w1:=h.go m2 m1;have OG:=hS.undef f1 s1.size s1.defers;refine⟨dS,?_,?_⟩
          ·rw[Iq];exact OG.nG (d:=some dp) (fun k hk=>hpk k (by rw[Iq];exact hk)) (Du E6 hy)
          ·show Ext B γ σ.mem w dS (σ.undef g1).mem w1
           rw[jS];exact m2
         ·exact absurd t2 (by intro k;cases k)
        ·split at hn
         ·rename_i x' AG;obtain rfl:=au hn;obtain⟨v,hv1,E6⟩:=Option.bind_eq_some_iff.1 AG;refine dn AF fun a1 f1 f2 f3=>tail γ (σ.undef g1) _ a1 w v (!want) (h.undef f1 (f2.trans h.size) (f3.trans h.defers)) f1 Lk hv1 (fun y hy=>⟨γ,?_,?_⟩) hev
          ·rw[Iq];exact(h.undef f1 (f2.trans h.size) (f3.trans h.defers)).nG (d:=some dp) (fun k hk=>hpk k (by rw[Iq];exact hk)) (Du E6 hy)
          ·show Ext B γ σ.mem w γ (σ.undef g1).mem w
           rw[jS];exact Ext.refl _ _ _ _
         ·exact absurd hn (by intro k;cases k)
end
end Go.Ge
namespace Go.Ge
open RowKit
section
variable {P:Program} {B:iP} {N:Nat} {γ:Gh} {σ σ':St} {a:Act} {w w':World} {cx:Ctx} {nb:Nat} {bf:List Nat} {inl:Nat→List av→St→Tree (av×St)} {ops:Array Oper}
theorem za:∀{l:List Oper} {k:Nat},(∀j,l[j]?=ops[k+j]?)→iI ops [] (number k l) l:=by
 intro l;induction l with
 | nil=>intro k _;exact .nil
 | cons o l ih =>
   intro k h;refine .cons ?_ (.inl rfl) (ih fun j=>by have:=h (j+1);simpa [rE,Di 1 j] using this);have:=h 0;simpa using this.symm
theorem Cj:∀{l:List Oper} {k i:Nat} {o:Oper},(i,o)∈number k l→o∈l:=by
 intro l;induction l with
 | nil=>intro k i o h;cases h
 | cons p l ih =>
   intro k i o h;rcases List.mem_cons.1 h with h|h
   ·obtain⟨_,rfl⟩:=bM h;exact jU ..
   ·exact jT _ (ih h)
theorem zb(hc:dw P cx)(dy:jD P B.G cx)(fE:mb P B.G inl)(hkeep:∀f vals σ v σ',(inl f vals σ).run=some (v,σ')→aE σ σ'){Q:Exit→Act→World→Prop}{id:Nat}
  (hd:∀o∈ops.toList,∀k,o.dst=some k→k<N) (hr:(uH cx nb bf inl ops σ).run=some σ') (h:bE B N γ σ a w)
  (hK:∀γ' a' w',bE B N γ' σ' a' w'→Ext B γ σ.mem w γ' σ'.mem w'→Fr (number 0 ops.toList) a a'→Q .normal a' w'):(Code.region id ops false).wp P Q a w:=by
 refine wp_region_list ?_;have:=w9 (all:=ops) (Q:=Q) (rest:=[]) hc dy fE hkeep _ (za (l:=ops.toList) (k:=0) (fun j=>by simp)) (fun g hg=>by cases hg) (fun i o hm=>hd o (Cj hm)) hr h
  (fun γ' a' w' s x f=>wpList_nil (hK γ' a' w' s x f))
 simpa using this
end
end Go.Ge
namespace Go.Ge
open RowKit
def dM(p:Nat→Prop)(σ τ:St):Prop:=∀b,τ.mem b=σ.mem b∨(τ.mem b≠none∧p b)
section
variable {p:Nat→Prop} {σ τ ρ:St}
theorem dM.refl(σ:St):dM p σ σ:=fun _=>.inl rfl
theorem dM.Gn(h:τ.mem=σ.mem):dM p σ τ:=fun b=>.inl (by rw[h])
theorem dM.trans(h:dM p σ τ)(k:dM p τ ρ):dM p σ ρ:=fun b=>by
 rcases k b with k1|k1
 ·rcases h b with h1|⟨h1,h2⟩
  ·exact .inl (k1.trans h1)
  ·exact .inr ⟨by rw[k1];exact h1,h2⟩
 ·exact .inr k1
theorem dM.aA(σ:St)(d:Option Nat)(v:av):dM p σ (σ.aA d v):=by cases d<;>exact fun _=>.inl rfl
theorem dM.put(σ:St)(d:Nat)(v:av):dM p σ (σ.put d v):=fun _=>.inl rfl
theorem dM.aW{b:Nat}{bx:aI}(h:p b):dM p σ (σ.aW b bx):=fun c=>by
 by_cases e:c=b
 ·subst e;exact .inr ⟨by simp[St.aW],h⟩
 ·exact .inl (by rw[ke,az _ e])
end
def ak(p:Nat→Prop)(σ:St)(T:Tree St):Prop:=∀y,T.run=some y→dM p σ y
section
variable {p:Nat→Prop} {σ:St}
theorem ak.fail:ak p σ .fail:=fun y h=>by cases h
theorem ak.ret{σ':St}(h:dM p σ σ'):ak p σ (.ret σ'):=fun y hy=>by obtain rfl:=au hy;exact h
theorem ak.bif{c:Bool}{t:Tree St}(h:ak p σ t):ak p σ (bif c then t else .fail):=fun y hy=>h y (ai hy).2
theorem ak.need{c:Bool}{t:Tree St}(h:ak p σ t):ak p σ (.need c t):=fun y hy=>h y (aX hy).2
theorem ak.look{T:Type}{o:Option T}{k:T→Tree St}(h:∀x,ak p σ (k x)):ak p σ (.look o k):=fun y hy=>by obtain⟨x,_,h2⟩:=aR hy;exact h x y h2
theorem ak.node{c:Bool}{t e:Tree St}(h:ak p σ t)(k:ak p σ e):ak p σ (.node c t e):=fun y hy=>by
 have:=cT hy;cases c with
 | true=>exact h y this
 | false=>exact k y this
theorem ak.bind{α:Type}{t:Tree α}{f:α→Tree St}(h:∀x,t.run=some x→ak p σ (f x)):ak p σ (t.bind f):=fun y hy=>by obtain⟨x,h1,h2⟩:=bind_some hy;exact h x h1 y h2
theorem ak.ay{b:Nat}{val:av}{tid:TypeId}{buf:Bool}{d:Nat}{v:Nat→av}(h:p b):ak p σ (σ.ay b val tid buf fun ag σ=>.ret (σ.put d (v ag))):=fun y hy=>by
 obtain⟨ag,k1,k2⟩:=fS hy;obtain rfl:=au k2;exact(dM.aW h).trans (dM.put _ _ _)
theorem vB{σ σ':St}{b:Nat}(hp:∀b,σ.mem b≠none→p b)(h:freeze σ b=some σ'):dM p σ σ':=by
 unfold freeze at h;split at h
 ·rename_i bx hb;cases hro:bx.ro with
  | true=>simp only[hro,bZ,jx] at h;rw[←h];exact dM.refl _
  | false =>
    cases hlk:bx.lk with
    | true=>simp[hro,hlk] at h
    | false =>
      simp only[hro,hlk,ez,jx] at h;rw[←h];exact dM.aW (hp b (by rw[hb];simp))
 ·cases h
def Dom(p:Nat→Prop)(σ σ':St):Prop:=(∀b,σ.mem b≠none→p b)→dM p σ σ'∧∀b,σ'.mem b≠none→p b
theorem Dom.refl(σ:St):Dom p σ σ:=fun h=>⟨dM.refl _,h⟩
theorem Dom.trans{σ τ ρ:St}(h:Dom p σ τ)(k:Dom p τ ρ):Dom p σ ρ:=fun hp=>by
 obtain⟨h1,h2⟩:=h hp;obtain⟨k1,k2⟩:=k h2;exact⟨h1.trans k1,k2⟩
theorem Dom.of{σ σ':St}(h:(∀b,σ.mem b≠none→p b)→dM p σ σ'):Dom p σ σ':=fun hp=>by
 refine⟨h hp,fun b hb=>?_⟩;rcases h hp b with k|k
 ·exact hp b (by rw[←k];exact hb)
 ·exact k.2
theorem AJ:∀{v:av} {σ σ':St},dm σ v=some σ'→Dom p σ σ':=by
 intro v;induction v with
 | mix p q l8 lG =>
   intro σ σ' h;obtain⟨σ1,h1,h2⟩:=kU h;exact(l8 h1).trans (lG h2)
 | whole b ag=>intro σ σ' h;exact Dom.of fun hp=>vB hp h
 | part b ag lo n=>intro σ σ' h;exact Dom.of fun hp=>vB hp h
 | _=>intro σ σ' h;obtain rfl:=au h;exact Dom.refl _
theorem mh{t:Ty}{x:t.den}{v:av}{σ σ':St}(h:lR σ t v=some (x,σ')):Dom p σ σ':=by
 unfold lR at h;split at h
 ·split at h
  ·obtain⟨_,rfl⟩:=bM (au h);exact Dom.refl _
  ·cases h
 ·split at h
  ·rename_i y σ1 hl hf;obtain⟨_,rfl⟩:=bM (au h);exact AJ hf
  ·cases h
theorem nQ:∀{A:Ty} {x:A.den} {vs:List av} {σ σ':St},eZ σ A vs=some (x,σ')→Dom p σ σ':=by
 intro A;induction A with
 | pair t r BH ihr =>
   intro x vs σ σ' hl;cases vs with
   | nil=>cases hl
   | cons v vs =>
     simp only[eZ] at hl;split at hl
     ·rename_i p σ1 hp;split at hl
      ·rename_i q σ2 hq;obtain⟨_,rfl⟩:=bM (au hl);exact(mh hp).trans (ihr hq)
      ·cases hl
     ·cases hl
 | unit =>
   intro x vs σ σ' hl;cases vs with
   | nil=>obtain⟨_,rfl⟩:=bM (au hl);exact Dom.refl _
   | cons v vs=>cases hl
 | _=>intro x vs σ σ' hl;cases vs<;>cases hl
theorem vC{t:Ty}:∀{parts:List (Nat×Operand)} {x x':t.den} {σ σ':St},cW σ t x parts=some (x',σ')→Dom p σ σ':=by
 intro parts;induction parts with
 | nil=>intro x x' σ σ' h;obtain⟨_,rfl⟩:=bM (au h);exact Dom.refl _
 | cons p r ih =>
   obtain⟨k,o⟩:=p;intro x x' σ σ' h;simp only[cW] at h;split at h
   ·split at h
    ·rename_i hg;split at h
     ·exact(mh hg).trans (ih h)
     ·cases h
    ·cases h
   ·cases h
theorem o7{e:Ty}:∀{parts:List (Nat×Operand)} {l l':List e.den} {σ σ':St},cR σ e l parts=some (l',σ')→Dom p σ σ':=by
 intro parts;induction parts with
 | nil=>intro x x' σ σ' h;obtain⟨_,rfl⟩:=bM (au h);exact Dom.refl _
 | cons p r ih =>
   obtain⟨k,o⟩:=p;intro l l' σ σ' h;simp only[cR] at h;split at h
   ·rename_i hg;cases hlt:Nat.blt k l.length with
    | false=>rw[hlt] at h;cases h
    | true=>rw[hlt] at h;exact(mh hg).trans (ih h)
   ·cases h
theorem sW{b ag:Nat}{p':List pI}{fit:av→Bool}{u:av}{σ σ':St}(hr:(storeAt b ag p' fit u σ).run=some σ'):Dom p σ σ':=Dom.of fun hp=>by
 unfold storeAt at hr;split at hr
 case h_2=>exact absurd hr (by intro k;cases k)
 rename_i bx hb;obtain⟨hc,hr2⟩:=ai hr;obtain⟨old,hn,dV⟩:=bind_some hr2;obtain⟨hfit,fZ⟩:=ai dV;obtain⟨c,hs,wM⟩:=bind_some fZ;obtain rfl:=au wM;exact dM.aW (hp b (by rw[hb];simp))
theorem AK{b ag:Nat}{p':List pI}{n:Nat}{u:av}{σ σ':St}(hr:(iV b ag p' n u σ).run=some σ'):Dom p σ σ':=Dom.of fun hp=>by
 unfold iV at hr;split at hr
 case h_2=>exact absurd hr (by intro k;cases k)
 rename_i bx hb;obtain⟨hc,hr2⟩:=ai hr;obtain⟨old,hn,dV⟩:=bind_some hr2;obtain⟨hfit,fZ⟩:=ai dV;obtain⟨c,hs,wM⟩:=bind_some fZ;obtain⟨Mq,K7⟩:=ai wM;obtain rfl:=au K7;exact dM.aW (hp b (by rw[hb];simp))
theorem xb{cx:Ctx}{bf:List Nat}{ty:TypeId}{x y:av}{σ σ':St}(hr:(fq cx bf ty x y σ).run=some σ'):Dom p σ σ':=by
 unfold fq at hr;split at hr
 case h_2=>exact absurd hr (by intro k;cases k)
 split at hr
 case h_2=>exact absurd hr (by intro k;cases k)
 obtain⟨aC,hr2⟩:=ai hr;obtain⟨old,hn,dV⟩:=bind_some hr2;split at dV
 ·rename_i u _;obtain⟨hT,fZ⟩:=ai dV;cases hq:bC bf 8000000&&FO u y with
  | true=>rw[hq] at fZ;exact AK fZ
  | false =>
  rw[hq] at fZ;replace fZ:(match lR σ u y with|some (y,σ)=>storeAt _ _ _ (D2 u) (.data u y) σ|none=>.fail).run=some σ':=fZ;split at fZ
  ·rename_i hg;exact(mh hg).trans (sW fZ)
  ·exact absurd fZ (by intro k;cases k)
 ·obtain⟨hT,fZ⟩:=ai dV;exact sW fZ
theorem nR{cx:Ctx}{nb:Nat}{d:Option Nat}{ty:TypeId}{s x:av}{σ σ':St}(hn:∀k,d=some k→p (nb+k))(hp:∀b,σ.mem b≠none→p b)(hr:(dG cx nb d ty s x σ).run=some σ'):dM p σ σ':=by
 unfold dG at hr;split at hr
 case h_2=>exact absurd hr (by intro k;cases k)
 split at hr
 case h_2=>exact absurd hr (by intro k;cases k)
 split at hr
 ·obtain⟨hf,hr2⟩:=aX hr;exact ak.ay (hn _ rfl) _ hr2
 ·split at hr
  case h_2=>exact absurd hr (by intro k;cases k)
  rename_i bx l hb hl;obtain⟨hlk,eP⟩:=mQ hr;obtain⟨hf,hr2⟩:=aX eP;obtain rfl:=au hr2;exact(dM.aW (hp _ (by rw[hb];simp))).trans (dM.put _ _ _)
 ·exact absurd hr (by intro k;cases k)
theorem Ck{b:Nat}{val:av}{tid:TypeId}{buf:Bool}{d:Nat}{v:Nat→av}{σ σ':St}(h:p b)(hr:(σ.ay b val tid buf fun ag σ=>.ret (σ.put d (v ag))).run=some σ'):dM p σ σ':=ak.ay h _ hr
theorem xd{nb:Nat}{e:Ty}{d:Option Nat}{args:List av}{σ σ':St}(hn:∀k,d=some k→p (nb+k))(hp:∀b,σ.mem b≠none→p b)(hr:(fB nb e d args σ).run=some σ'):dM p σ σ':=by
 unfold fB at hr;split at hr
 case h_2=>cases hr
 split at hr
 case h_2=>cases hr
 rename_i hg;obtain⟨_,hr⟩:=ai hr;obtain⟨_,hr⟩:=aX hr;exact((mh hg) hp).1.trans (Ck (hn _ rfl) hr)
theorem AL{e A:Ty}{res:Bool}{spec:List e.den→A.den→Option (List e.den)}{d:Option Nat}{args:List av}{σ σ':St}(hp:∀b,σ.mem b≠none→p b)(hr:(iW e A res spec d args σ).run=some σ'):dM p σ σ':=by
 unfold iW at hr;split at hr
 case h_2=>cases hr
 split at hr
 case h_2=>cases hr
 rename_i x σ1 hg;split at hr
 case h_2=>cases hr
 rename_i b ag bx l JJ;obtain⟨l',_,hr⟩:=aR hr;obtain⟨hb,_⟩:=kV JJ;obtain⟨g1,g2⟩:=(nQ hg) hp;have key:∀dQ,dM p σ1 (σ1.aW b dQ):=fun dQ=>dM.aW (g2 b (by rw[hb];simp));cases res with
 | true =>
   cases d with
   | none=>cases hr
   | some k=>obtain rfl:=au hr;exact(g1.trans (key _)).trans (dM.put _ _ _)
 | false =>
   cases d with
   | none=>obtain⟨_,hr⟩:=ai hr;obtain rfl:=au hr;exact(g1.trans (key _)).trans (dM.aA _ none _)
   | some k=>obtain⟨_,hr⟩:=ai hr;obtain rfl:=au hr;exact(g1.trans (key _)).trans (dM.aA _ (some _) _)
end
section
variable {cx:Ctx} {nb:Nat} {bf:List Nat} {d:Option Nat} {σ:St} {p:Nat→Prop}
theorem zd{c a b:av}:ak p σ (gB d c a b σ):=by unfold gB;(repeat' (first|exact ak.fail|exact ak.ret (dM.aA _ _ _)|exact ak.ret (dM.put _ _ _)|exact ak.ay (by assumption)|refine ak.bif ?_|refine ak.need ?_|refine ak.look fun _=>?_|refine ak.node ?_ ?_|refine ak.bind fun _ _=>?_|split))
theorem zf{ty:TypeId}{a:av}:ak p σ (fh cx d ty a σ):=by unfold fh;(repeat' (first|exact ak.fail|exact ak.ret (dM.aA _ _ _)|exact ak.ret (dM.put _ _ _)|exact ak.ay (by assumption)|refine ak.bif ?_|refine ak.need ?_|refine ak.look fun _=>?_|refine ak.node ?_ ?_|refine ak.bind fun _ _=>?_|split))
theorem xe{ty:TypeId}{x:av}{lo hi:Option Operand}:ak p σ (fu cx d ty x lo hi σ):=by unfold fu;(repeat' (first|exact ak.fail|exact ak.ret (dM.aA _ _ _)|exact ak.ret (dM.put _ _ _)|exact ak.ay (by assumption)|refine ak.bif ?_|refine ak.need ?_|refine ak.look fun _=>?_|refine ak.node ?_ ?_|refine ak.bind fun _ _=>?_|split))
theorem Ej{b ag:Nat}{i:Int}:∀{m k:Nat},ak p σ (uE d b ag σ i m k):=by
 intro m;induction m with
 | zero=>intro k;exact ak.fail
 | succ m ih=>intro k;exact ak.node (ak.ret (dM.aA _ _ _)) ih
theorem kX{ty:TypeId}{x:av}{i:Int}:ak p σ (bW cx d ty x i σ):=by
 unfold bW;split
 case h_6=>split
           ·exact ak.bif Ej
           ·exact ak.fail
 all_goals (repeat' (first|exact ak.fail|exact ak.ret (dM.aA _ _ _)|exact ak.ret (dM.put _ _ _)|exact ak.ay (by assumption)|refine ak.bif ?_|refine ak.need ?_|refine ak.look fun _=>?_|refine ak.node ?_ ?_|refine ak.bind fun _ _=>?_|split))
theorem xg{ty:TypeId}{x:av}{i:Int}:ak p σ (fy cx d ty x i σ):=by
 unfold fy;split
 ·refine ak.bif ?_;split
  ·exact ak.bif (ak.ret (dM.aA _ _ _))
  ·exact ak.fail
 ·exact kX
theorem xh{ty:TypeId}{x:av}{i:Int}:ak p σ (fA cx d ty x i σ):=by unfold fA;(repeat' (first|exact ak.fail|exact ak.ret (dM.aA _ _ _)|exact ak.ret (dM.put _ _ _)|exact ak.ay (by assumption)|refine ak.bif ?_|refine ak.need ?_|refine ak.look fun _=>?_|refine ak.node ?_ ?_|refine ak.bind fun _ _=>?_|split))
theorem qS{s:TypeId}{x:av}{k:Nat}:ak p σ (b9 cx d s x k σ):=by unfold b9;(repeat' (first|exact ak.fail|exact ak.ret (dM.aA _ _ _)|exact ak.ret (dM.put _ _ _)|exact ak.ay (by assumption)|refine ak.bif ?_|refine ak.need ?_|refine ak.look fun _=>?_|refine ak.node ?_ ?_|refine ak.bind fun _ _=>?_|split))
theorem nS{ty:TypeId}{v:av}(hn:∀k,d=some k→p (nb+k)):ak p σ (eB cx nb bf d ty v σ):=by
 unfold eB;split
 ·(repeat' (first|exact ak.fail|exact ak.ret (dM.aA _ _ _)|exact ak.ret (dM.put _ _ _)|exact ak.ay (by assumption)|refine ak.bif ?_|refine ak.need ?_|refine ak.look fun _=>?_|refine ak.node ?_ ?_|refine ak.bind fun _ _=>?_|split))
 ·split
  ·rename_i k e _;cases bC bf k with
   | true=>exact ak.ay (hn _ rfl)
   | false=>exact ak.ret (dM.put _ _ _)
  ·exact ak.ret (dM.aA _ _ _)
 ·exact ak.ret (dM.aA _ _ _)
theorem tU{s t:TypeId}{x:av}(hn:∀k,d=some k→p (nb+k)):ak p σ (dz cx nb d s t x σ):=by
 unfold dz;split
 ·(repeat' (first|exact ak.fail|exact ak.ret (dM.aA _ _ _)|exact ak.ret (dM.put _ _ _)|exact ak.ay (by assumption)|refine ak.bif ?_|refine ak.need ?_|refine ak.look fun _=>?_|refine ak.node ?_ ?_|refine ak.bind fun _ _=>?_|split))
 ·(repeat' (first|exact ak.fail|exact ak.ret (dM.aA _ _ _)|exact ak.ret (dM.put _ _ _)|exact ak.ay (by assumption)|refine ak.bif ?_|refine ak.need ?_|refine ak.look fun _=>?_|refine ak.node ?_ ?_|refine ak.bind fun _ _=>?_|split))
 ·split
  ·exact ak.need (ak.ay (hn _ rfl))
  ·exact ak.fail
 ·(repeat' (first|exact ak.fail|exact ak.ret (dM.aA _ _ _)|exact ak.ret (dM.put _ _ _)|exact ak.ay (by assumption)|refine ak.bif ?_|refine ak.need ?_|refine ak.look fun _=>?_|refine ak.node ?_ ?_|refine ak.bind fun _ _=>?_|split))
 ·(repeat' (first|exact ak.fail|exact ak.ret (dM.aA _ _ _)|exact ak.ret (dM.put _ _ _)|exact ak.ay (by assumption)|refine ak.bif ?_|refine ak.need ?_|refine ak.look fun _=>?_|refine ak.node ?_ ?_|refine ak.bind fun _ _=>?_|split))
theorem xY{mem:Nat→Option aI}:∀{o:OT} {v:av} {u:o.den} {N M:List (Nat×Nat)},bJ mem o v=some (u,N,M)→∀b∈aF N M,mem b≠none:=by
 intro o;induction o with
 | dat t =>
   intro v u N M h;unfold bJ at h;split at h
   ·cases h;intro b hb;cases hb
   ·cases h
 | buf e bN =>
   intro v u N M h;unfold bJ at h;split at h
   case h_2=>cases h
   rename_i b ag;split at h
   case h_2=>cases h
   rename_i bx hb;cases hcd:(Nat.beq bx.ag ag&&bx.buf&&!bx.lk&&!bx.ro&&Nat.beq bx.tid bN&&Nat.blt 0 e.size) with
   | false=>rw[hcd] at h;cases h
   | true =>
     rw[hcd] at h;simp only[bZ] at h;split at h
     case h_2=>cases h
     split at h
     case h_2=>cases h
     cases h;intro c hc;have:c=b:=by simpa [aF] using hc
     subst this;rw[hb];simp
 | ref tid o ih =>
   intro v u N M h;unfold bJ at h;split at h
   case h_2=>cases h
   rename_i b ag;split at h
   case h_2=>cases h
   rename_i bx hb;cases hcd:(Nat.beq bx.ag ag&&!bx.buf&&!bx.lk&&!bx.ro&&Nat.beq bx.tid tid) with
   | false=>rw[hcd] at h;cases h
   | true =>
     rw[hcd] at h;simp only[bZ] at h;split at h
     case h_2=>cases h
     rename_i u1 N1 M1 hr;cases h;intro c hc;unfold aF at hc;simp only[jH,zP,zU] at hc;rcases hc with rfl|hc
     ·rw[hb];simp
     ·exact ih hr c hc
 | pair p q l8 lG =>
   intro v u N M h;unfold bJ at h;split at h
   case h_2=>cases h
   split at h
   case h_2=>cases h
   rename_i x N1 M1 y N2 M2 h1 h2;cases h;intro c hc;unfold aF at hc;simp only[qg,zS] at hc;rcases hc with (hc|hc)|(hc|hc)
   ·exact l8 h1 c (rB _ hc)
   ·exact lG h2 c (rB _ hc)
   ·exact l8 h1 c (qc _ hc)
   ·exact lG h2 c (qc _ hc)
 | unit =>
   intro v u N M h;unfold bJ at h;split at h
   case h_2=>cases h
   cases h;intro b hb;cases hb
theorem AM{σ:St}:∀{ps:List Bool} {A:Ty} {U:OT} {vs:List av} {x:A.den} {u:U.den} {N M:List (Nat×Nat)},cS σ ps A U vs=some (x,u,N,M)→∀b∈aF N M,σ.mem b≠none:=by
 intro ps;induction ps with
 | nil =>
   intro A U vs x u N M h;cases A<;>first|(cases h;done)|skip
   cases U<;>first|(cases h;done)|skip
   cases vs with
   | cons v r=>cases h
   | nil=>cases h;intro b hb;cases hb
 | cons q ps ih =>
   intro A U vs x u N M h;cases q with
   | false =>
     cases A<;>first|(cases h;done)|skip
     cases vs with
     | nil=>cases h
     | cons v r =>
       simp only[cS] at h;split at h
       ·rename_i h2;cases h;exact ih h2
       ·cases h
   | true =>
     cases U<;>first|(cases h;done)|skip
     rename_i o U;cases o<;>first|(cases h;done)|skip
     cases vs with
     | nil=>cases h
     | cons v r =>
       simp only[cS] at h;split at h
       ·rename_i x1 N1 M1 y1 u1 N2 M2 h1 h2;cases h;intro c hc;unfold aF at hc;simp only[qg,zS] at hc;rcases hc with (hc|hc)|(hc|hc)
        ·exact xY h1 c (rB _ hc)
        ·exact ih h2 c (rB _ hc)
        ·exact xY h1 c (qc _ hc)
        ·exact ih h2 c (qc _ hc)
       ·cases h
theorem AN{ps:List Bool}{A:Ty}{U:OT}{vs:List av}{x:A.den}{u y:U.den}{N M:List (Nat×Nat)}(h:cS σ ps A U vs=some (x,u,N,M))(hp:∀b,σ.mem b≠none→p b):dM p σ (fc U y N M σ):=fun b=>by
 rw[dA];cases hv:dN U y N (M.map fun p=>(p.1,p.2+1)) b with
 | none=>exact .inl rfl
 | some v=>exact .inr ⟨by simp,hp b (AM h b (by have:=gN hv;rwa [kj] at this))⟩
theorem Cl{o:Oper}{ge:Option Nat}(hge:gC o σ=ge)(h3:cls cx ge o≠3)(hn:cls cx ge o≠0→∀k,o.dst=some k→p (nb+k))(hp:cls cx ge o≠0→cls cx ge o≠1→∀b,σ.mem b≠none→p b):ak p σ (gY cx nb bf Aa o σ):=by
 unfold gY;split
 case h_1 x ho=>exact nS (hn (by simp[cls,ho]))
 case h_2 x ho=>exact nS (hn (by simp[cls,ho]))
 case h_3=>exact zd
 case h_4 e ho =>
  split
  ·rename_i k t hk hT;have h0:cls cx ge o≠0:=by
    cases t<;>simp[cls,ho,hT]
   unfold jP;split
   ·exact absurd (by simp[cls,ho,hT]) h3
   ·exact ak.ay (hn h0 _ (by assumption))
  ·rename_i hT;split
   ·rename_i hO;exact absurd (by simp[cls,ho,hT,hO]) h3
   ·rename_i hO;exact ak.bif (ak.ay (hn (by simp[cls,ho,hT,hO]) _ (by assumption)))
  ·exact ak.fail
 case h_5 e x ho =>
  unfold qj;split
  ·exact ak.fail
  ·exact ak.fail
  ·split
   ·rename_i hO;exact absurd (by simp[cls,ho,hO]) h3
   ·rename_i hO;exact ak.ay (hn (by simp[cls,ho,hO]) _ (by assumption))
  ·exact ak.fail
 case h_6 t ps ho =>
  have hp':=hp (by simp[cls,ho]) (by simp[cls,ho]);split
  ·split
   ·rename_i hb;exact ak.ret ((vC hb hp').1.trans (dM.aA _ _ _))
   ·exact ak.fail
  ·split
   ·rename_i hb;exact ak.ret ((o7 hb hp').1.trans (dM.aA _ _ _))
   ·exact ak.fail
  ·(repeat' (first|exact ak.fail|exact ak.ret (dM.aA _ _ _)|exact ak.ret (dM.put _ _ _)|exact ak.ay (by assumption)|refine ak.bif ?_|refine ak.need ?_|refine ak.look fun _=>?_|refine ak.node ?_ ?_|refine ak.bind fun _ _=>?_|split))
  ·exact ak.fail
 case h_7 t n ps ho =>
  have hp':=hp (by simp[cls,ho]) (by simp[cls,ho]);split
  ·split
   ·rename_i k aJ hparts;exact ak.ay (hn (by simp[cls,ho]) k (pV aJ).1)
   ·refine ak.bif ?_;split
    ·rename_i hb;exact ak.ret ((o7 hb hp').1.trans (dM.aA _ _ _))
    ·exact ak.fail
  ·unfold oq;split
   ·exact ak.bif (ak.ay (hn (by simp[cls,ho]) _ (by assumption)))
   ·exact ak.fail
  ·exact ak.fail
 case h_8=>exact zf
 case h_9 t a x ho =>
  have hp':=hp (by simp[cls,ho]) (by simp[cls,ho]);split
  ·exact fun y hy=>(xb hy hp').1
  ·exact ak.fail
 case h_10=>(repeat' (first|exact ak.fail|exact ak.ret (dM.aA _ _ _)|exact ak.ret (dM.put _ _ _)|exact ak.ay (by assumption)|refine ak.bif ?_|refine ak.need ?_|refine ak.look fun _=>?_|refine ak.node ?_ ?_|refine ak.bind fun _ _=>?_|split))
 case h_11=>(repeat' (first|exact ak.fail|exact ak.ret (dM.aA _ _ _)|exact ak.ret (dM.put _ _ _)|exact ak.ay (by assumption)|refine ak.bif ?_|refine ak.need ?_|refine ak.look fun _=>?_|refine ak.node ?_ ?_|refine ak.bind fun _ _=>?_|split))
 case h_12=>(repeat' (first|exact ak.fail|exact ak.ret (dM.aA _ _ _)|exact ak.ret (dM.put _ _ _)|exact ak.ay (by assumption)|refine ak.bif ?_|refine ak.need ?_|refine ak.look fun _=>?_|refine ak.node ?_ ?_|refine ak.bind fun _ _=>?_|split))
 case h_13 s t x ho=>exact tU (hn (by simp[cls,ho]))
 case h_14=>(repeat' (first|exact ak.fail|exact ak.ret (dM.aA _ _ _)|exact ak.ret (dM.put _ _ _)|exact ak.ay (by assumption)|refine ak.bif ?_|refine ak.need ?_|refine ak.look fun _=>?_|refine ak.node ?_ ?_|refine ak.bind fun _ _=>?_|split))
 case h_15=>exact xe
 case h_16=>exact qS
 case h_17=>(repeat' (first|exact ak.fail|exact ak.ret (dM.aA _ _ _)|exact ak.ret (dM.put _ _ _)|exact ak.ay (by assumption)|refine ak.bif ?_|refine ak.need ?_|refine ak.look fun _=>?_|refine ak.node ?_ ?_|refine ak.bind fun _ _=>?_|split))
 case h_18=>split
            ·cases bC bf 5000000 with
             | true=>exact xg
             | false=>exact kX
            ·exact ak.fail
 case h_19=>split
            ·exact xh
            ·exact ak.fail
 case h_20 t l c ho =>
  split
  ·exact ak.need (ak.need (ak.ay (hn (by simp[cls,ho]) _ (by assumption))))
  ·exact ak.fail
 case h_21=>(repeat' (first|exact ak.fail|exact ak.ret (dM.aA _ _ _)|exact ak.ret (dM.put _ _ _)|exact ak.ay (by assumption)|refine ak.bif ?_|refine ak.need ?_|refine ak.look fun _=>?_|refine ak.node ?_ ?_|refine ak.bind fun _ _=>?_|split))
 case h_22 c ho =>
  unfold jZ;split
  ·rename_i b hb;split
   ·(repeat' (first|exact ak.fail|exact ak.ret (dM.aA _ _ _)|exact ak.ret (dM.put _ _ _)|exact ak.ay (by assumption)|refine ak.bif ?_|refine ak.need ?_|refine ak.look fun _=>?_|refine ak.node ?_ ?_|refine ak.bind fun _ _=>?_|split))
   ·have h1:cls cx ge o≠0:=by simp[cls,ho,hb]
    have h2:cls cx ge o≠1:=by simp[cls,ho,hb]
    split
    ·exact fun y hy=>nR (hn h1) (hp h1 h2) hy
    ·exact fun y hy=>nR (hn h1) (hp h1 h2) hy
    ·exact ak.fail
   ·exact absurd (by simp[cls,ho,hb]) h3
   ·exact absurd (by simp[cls,ho,hb]) h3
   ·(repeat' (first|exact ak.fail|exact ak.ret (dM.aA _ _ _)|exact ak.ret (dM.put _ _ _)|exact ak.ay (by assumption)|refine ak.bif ?_|refine ak.need ?_|refine ak.look fun _=>?_|refine ak.node ?_ ?_|refine ak.bind fun _ _=>?_|split))
   ·(repeat' (first|exact ak.fail|exact ak.ret (dM.aA _ _ _)|exact ak.ret (dM.put _ _ _)|exact ak.ay (by assumption)|refine ak.bif ?_|refine ak.need ?_|refine ak.look fun _=>?_|refine ak.node ?_ ?_|refine ak.bind fun _ _=>?_|split))
   ·exact ak.fail
  ·rename_i f hf;split
   ·rename_i g caps hop;refine ak.bif ?_;have heq:ge=some g:=by rw[←hge];simp[gC,ho,hf,hop]
    unfold jI;split
    ·rename_i e he;have key:cls cx ge o=2:=by simp[cls,ho,hf,heq,kW he]
     have h1:cls cx ge o≠0:=by rw[key];simp
     have h2:cls cx ge o≠1:=by rw[key];simp
     exact fun y hy=>xd (hn h1) (hp h1 h2) hy
    ·rename_i e A r s he;have key:cls cx ge o=2:=by simp[cls,ho,hf,heq,kW he]
     have h1:cls cx ge o≠0:=by rw[key];simp
     have h2:cls cx ge o≠1:=by rw[key];simp
     exact fun y hy=>AL (hp h1 h2) hy
    rename_i OH OI;unfold lC;split
    ·rename_i gX dy;split
     ·split
      ·exact ak.look fun _=>ak.ret (dM.aA _ _ _)
      ·exact ak.fail
     ·rename_i hfl;have key:cls cx ge o=2:=by
       unfold cls;simp only[ho,hf,heq];split
       ·rfl
       ·rfl
       ·simp[dy,hfl]
      have h1:cls cx ge o≠0:=by rw[key];simp
      have h2:cls cx ge o≠1:=by rw[key];simp
      split
      ·rename_i hx;exact ak.look fun _=>ak.ret ((nQ hx (hp h1 h2)).1.trans (dM.aA _ _ _))
      ·exact ak.fail
    ·rename_i dy;split
     ·rename_i s AO;unfold om;split
      ·exact absurd (by simp[cls,ho,hf,heq,dy,AO]) h3
      ·exact absurd (by simp[cls,ho,hf,heq,dy,AO]) h3
      ·exact ak.fail
     ·rename_i AO;split
      ·rename_i k hk;have key:cls cx ge o=2:=by simp[cls,ho,hf,heq,dy,AO,hk]
       have h1:cls cx ge o≠0:=by rw[key];simp
       have h2:cls cx ge o≠1:=by rw[key];simp
       split
       ·rename_i x u N M hx;exact ak.bif (ak.look fun y=>ak.ret ((AN hx (hp h1 h2)).trans (dM.aA _ _ _)))
       ·exact fun y hy=>by cases hy
      ·rename_i hk;exact absurd (by simp[cls,ho,hf,heq,dy,AO,hk]) h3
   ·exact ak.fail
  ·rename_i r name hf;have key:cls cx ge o=2:=by simp[cls,ho,hf]
   have h1:cls cx ge o≠0:=by rw[key];simp
   have h2:cls cx ge o≠1:=by rw[key];simp
   unfold iN;split
   ·split
    ·rename_i hx;exact ak.look fun _=>ak.ret ((nQ hx (hp h1 h2)).1.trans (dM.aA _ _ _))
    ·exact ak.fail
   ·exact ak.fail
 case h_23 u x ho =>
  have key:cls cx ge o=2:=by simp[cls,ho]
  have h1:cls cx ge o≠0:=by rw[key];simp
  have h2:cls cx ge o≠1:=by rw[key];simp
  unfold iM;split
  ·split
   ·split
    ·rename_i hx;exact ak.ret ((mh hx (hp h1 h2)).1.trans (dM.aA _ _ _))
    ·exact ak.fail
   ·exact ak.fail
  ·exact ak.fail
 case h_24=>exact ak.fail
end
end Go.Ge
namespace Go.Ge
open RowKit
def Le(σ1 σ2:St):Prop:=∀b bx,σ1.mem b=some bx→σ2.mem b=some bx
structure Rel (σ1 σ2 gD gy:St):Prop where
 s1:gD.slots=σ1.slots
 s2:gy.slots=σ2.slots
 m:∀b,gy.mem b=match gD.mem b with|some x=>some x|none=>σ2.mem b
 nv:∀b,gD.mem b=none→σ1.mem b=none
section
variable {σ1 σ2 gD gy JN KN:St}
theorem Rel.refl(h:Le σ1 σ2):Rel σ1 σ2 σ1 σ2 where
 s1:=rfl
 s2:=rfl
 m:=fun b=>by
  cases hb:σ1.mem b with
  | none=>rfl
  | some x=>exact h b x hb
 nv:=fun _ h=>h
theorem Rel.le(h:Rel σ1 σ2 gD gy):Le gD gy:=fun b bx hb=>by rw[h.m,hb]
theorem Rel.trans(h:Rel σ1 σ2 gD gy)(k:Rel gD gy JN KN):Rel σ1 σ2 JN KN where
 s1:=k.s1.trans h.s1
 s2:=k.s2.trans h.s2
 m:=fun b=>by
  rw[k.m b];cases hb:JN.mem b with
  | some x=>rfl
  | none=>simp only;rw[h.m b,k.nv b hb]
 nv:=fun b hb=>h.nv b (k.nv b hb)
theorem Rel.aW(hle:Le σ1 σ2){b:Nat}{bx:aI}:Rel σ1 σ2 (σ1.aW b bx) (σ2.aW b bx) where
 s1:=rfl
 s2:=rfl
 m:=fun c=>by
  by_cases e:c=b
  ·subst e;simp[St.aW]
  ·rw[ke,ke,az _ e,az _ e];exact(Rel.refl hle).m c
 nv:=fun c hc=>by
  by_cases e:c=b
  ·subst e;simp[St.aW] at hc
  ·rw[ke,az _ e] at hc;exact hc
theorem oB{σ τ:St}(h:τ.slots=σ.slots)(x:Operand):aZ τ x=aZ σ x:=by
 cases x<;>simp[aZ,h]
theorem oC(h:Le σ1 σ2){e:Ty}{v:av}{l:List e.den}(hl:cV e σ1 v=some l):cV e σ2 v=some l:=by
 unfold cV at hl⊢;cases v with
 | whole b ag =>
   simp only at hl⊢;cases hb:σ1.mem b with
   | none=>rw[hb] at hl;cases hl
   | some bx=>rw[hb] at hl;rw[h b bx hb];exact hl
 | part b ag lo n =>
   simp only at hl⊢;cases hb:σ1.mem b with
   | none=>rw[hb] at hl;cases hl
   | some bx=>rw[hb] at hl;rw[h b bx hb];exact hl
 | data u y=>cases u<;>exact hl
 | _=>exact hl
theorem Dv(h:Le σ1 σ2):∀{t:Ty} {v:av} {x:t.den},iF σ1 t v=some x→iF σ2 t v=some x:=by
 intro t;induction t with
 | slice e ih=>intro v x hl;exact oC h hl
 | pair a b eH fF =>
   intro v x hl;cases v with
   | mix p q =>
     obtain⟨y,z,h1,h2,rfl⟩:=qC hl;exact xP (eH h1) (fF h2)
   | data u y=>exact hl
   | _=>cases hl
 | alt u a r eH ihr =>
   intro v x hl;cases v with
   | jg=>exact(gS hl).2.1 _
   | _=>exact hl
 | _=>intro v x hl;cases v<;>exact hl
theorem iq(h:Le σ1 σ2){b ag:Nat}(hl:live σ1 b ag=true):live σ2 b ag=true:=by
 unfold live at hl⊢;cases hb:σ1.mem b with
 | none=>rw[hb] at hl;cases hl
 | some bx=>rw[hb] at hl;rw[h b bx hb];exact hl
theorem Gp(h:Le σ1 σ2){v:av}{n:Int}(hl:lenOf σ1 v=some n):lenOf σ2 v=some n:=by
 unfold lenOf at hl⊢;cases v with
 | whole b ag =>
   simp only at hl⊢;cases hb:σ1.mem b with
   | none=>rw[hb] at hl;cases hl
   | some bx=>rw[hb] at hl;rw[h b bx hb];exact hl
 | part b ag lo n' =>
   simp only at hl⊢;cases hv:live σ1 b ag with
   | false=>rw[hv] at hl;cases hl
   | true=>rw[hv] at hl;rw[iq h hv];exact hl
 | data u y=>cases u<;>exact hl
 | _=>exact hl
theorem Ek(h:Le σ1 σ2){e:Ty}{v:av}{l:List e.den}(hl:jY e σ1 v=some l):jY e σ2 v=some l:=by
 unfold jY at hl⊢;split at hl
 ·exact hl
 ·exact oC h hl
theorem vD(h:Le σ1 σ2){b ag:Nat}{r:Ty×Int}(hl:mH σ1 b ag=some r):mH σ2 b ag=some r:=by
 unfold mH at hl⊢;cases hb:σ1.mem b with
 | none=>rw[hb] at hl;cases hl
 | some bx=>rw[hb] at hl;rw[h b bx hb];exact hl
theorem xZ(h:Le σ1 σ2){b:Nat}(hf:freeze σ1 b=some gD):∃gy,freeze σ2 b=some gy∧Rel σ1 σ2 gD gy:=by
 unfold freeze at hf⊢;cases hb:σ1.mem b with
 | none=>rw[hb] at hf;cases hf
 | some bx =>
   rw[hb] at hf;rw[h b bx hb];simp only at hf⊢;cases hro:bx.ro with
   | true =>
     simp only[hro,bZ,jx] at hf⊢;subst hf;exact⟨_,rfl,Rel.refl h⟩
   | false =>
     cases hlk:bx.lk with
     | true=>simp[hro,hlk] at hf
     | false =>
       simp only[hro,hlk,ez,jx] at hf⊢;subst hf;exact⟨_,rfl,Rel.aW h⟩
theorem Cm:∀{v:av} {σ1 σ2 gD:St},Le σ1 σ2→dm σ1 v=some gD→∃gy,dm σ2 v=some gy∧Rel σ1 σ2 gD gy:=by
 intro v;induction v with
 | mix p q l8 lG =>
   intro σ1 σ2 gD h hf;obtain⟨JN,h1,h2⟩:=kU hf;obtain⟨KN,k1,k2⟩:=l8 h h1;obtain⟨gy,k3,k4⟩:=lG k2.le h2;exact⟨gy,by simp only[dm,k1,k3],k2.trans k4⟩
 | whole b ag=>intro σ1 σ2 gD h hf;exact xZ h hf
 | part b ag lo n=>intro σ1 σ2 gD h hf;exact xZ h hf
 | _=>intro σ1 σ2 gD h hf;obtain rfl:=au hf;exact⟨_,rfl,Rel.refl h⟩
theorem oD(h:Le σ1 σ2){t:Ty}{x:t.den}{v:av}(hg:lR σ1 t v=some (x,gD)):∃gy,lR σ2 t v=some (x,gy)∧Rel σ1 σ2 gD gy:=by
 unfold lR at hg⊢;cases v with
 | data u y =>
   simp only at hg⊢;split at hg
   ·rename_i z hz;obtain⟨rfl,rfl⟩:=bM (au hg);exact⟨_,rfl,Rel.refl h⟩
   ·cases hg
 | _ =>
   simp only at hg⊢;split at hg
   ·rename_i y JN hl hf;obtain⟨rfl,rfl⟩:=bM (au hg);obtain⟨gy,k1,k2⟩:=Cm h hf;rw[Dv h hl,k1];exact⟨gy,rfl,k2⟩
   ·cases hg
theorem pX:∀{A:Ty} {x:A.den} {vs:List av} {σ1 σ2 gD:St},Le σ1 σ2→eZ σ1 A vs=some (x,gD)→∃gy,eZ σ2 A vs=some (x,gy)∧Rel σ1 σ2 gD gy:=by
 intro A;induction A with
 | pair t r BH ihr =>
   intro x vs σ1 σ2 gD h hl;cases vs with
   | nil=>cases hl
   | cons v vs =>
     simp only[eZ] at hl⊢;split at hl
     ·rename_i p JN hp;obtain⟨KN,k1,k2⟩:=oD h hp;split at hl
      ·rename_i q OJ hq;obtain⟨rfl,rfl⟩:=bM (au hl);obtain⟨gy,k3,k4⟩:=ihr k2.le hq;exact⟨gy,by simp only[k1,k3],k2.trans k4⟩
      ·cases hl
     ·cases hl
 | unit =>
   intro x vs σ1 σ2 gD h hl;cases vs with
   | nil=>obtain⟨rfl,rfl⟩:=bM (au hl);exact⟨_,rfl,Rel.refl h⟩
   | cons v vs=>cases hl
 | _=>intro x vs σ1 σ2 gD h hl;cases vs<;>cases hl
theorem xj{t:Ty}:∀{parts:List (Nat×Operand)} {x x':t.den} {σ1 σ2 gD:St},Le σ1 σ2→(∀o∈parts.map (·.2),aZ σ1 o=aZ σ2 o)→cW σ1 t x parts=some (x',gD) →
  ∃gy,cW σ2 t x parts=some (x',gy)∧Rel σ1 σ2 gD gy:=by
 intro parts;induction parts with
 | nil=>intro x x' σ1 σ2 gD h ho hl;obtain⟨rfl,rfl⟩:=bM (au hl);exact⟨_,rfl,Rel.refl h⟩
 | cons p r ih =>
   obtain⟨k,o⟩:=p;intro x x' σ1 σ2 gD h ho hl;have h0:aZ σ1 o=aZ σ2 o:=ho o (by simp);simp only[cW] at hl⊢;split at hl
   ·rename_i u hu;split at hl
    ·rename_i y JN hg;rw[h0] at hg;obtain⟨KN,k1,k2⟩:=oD h hg;split at hl
     ·rename_i z hz;obtain⟨gy,k3,k4⟩:=ih k2.le (fun o' ho'=>by rw[oB k2.s1,oB k2.s2];exact ho o' (by simp at ho'⊢;exact .inr ho')) hl;exact⟨gy,by simp only[k1,hz,k3],k2.trans k4⟩
     ·cases hl
    ·cases hl
   ·cases hl
theorem qT{e:Ty}:∀{parts:List (Nat×Operand)} {l l':List e.den} {σ1 σ2 gD:St},Le σ1 σ2→(∀o∈parts.map (·.2),aZ σ1 o=aZ σ2 o)→cR σ1 e l parts=some (l',gD) →
  ∃gy,cR σ2 e l parts=some (l',gy)∧Rel σ1 σ2 gD gy:=by
 intro parts;induction parts with
 | nil=>intro x x' σ1 σ2 gD h ho hl;obtain⟨rfl,rfl⟩:=bM (au hl);exact⟨_,rfl,Rel.refl h⟩
 | cons p r ih =>
   obtain⟨k,o⟩:=p;intro l l' σ1 σ2 gD h ho hl;have h0:aZ σ1 o=aZ σ2 o:=ho o (by simp);simp only[cR] at hl⊢;split at hl
   ·rename_i y JN hg;rw[h0] at hg;obtain⟨KN,k1,k2⟩:=oD h hg;cases hlt:Nat.blt k l.length with
    | false=>rw[hlt] at hl;cases hl
    | true =>
      rw[hlt] at hl;obtain⟨gy,k3,k4⟩:=ih k2.le (fun o' ho'=>by rw[oB k2.s1,oB k2.s2];exact ho o' (by simp at ho'⊢;exact .inr ho')) hl;exact⟨gy,by simp only[k1,bZ,k3],k2.trans k4⟩
   ·cases hl
def lift(σ2:St)(d:Option Nat)(y:St):St :=
 { slots:=match d with|some d=>fun t=>bif Nat.beq t d then y.slots d else σ2.slots t|none=>σ2.slots
   mem:=fun b=>match y.mem b with|some x=>some x|none=>σ2.mem b }
theorem El(R:Rel σ1 σ2 gD gy)(d:Option Nat)(v:av):lift σ2 d (gD.aA d v)=gy.aA d v:=by
 have hm:(fun b=>match gD.mem b with|some x=>some x|none=>σ2.mem b)=gy.mem:=funext fun b=>(R.m b).symm;cases d with
 | none=>simp only[lift,St.aA,hm,←R.s2]
 | some d =>
   simp only[lift,St.aA,St.put,hm,←R.s2]
   congr 1
   funext t;cases hb:Nat.beq t d with
   | true=>simp
   | false=>simp
def LT(σ2:St)(d:Option Nat)(T1 T2:Tree St):Prop:=∀y,T1.run=some y→T2.run=some (lift σ2 d y)
variable {d:Option Nat}
theorem LT.fail{T:Tree St}:LT σ2 d .fail T:=fun y h=>by cases h
theorem LT.ret(R:Rel σ1 σ2 gD gy){v:av}:LT σ2 d (.ret (gD.aA d v)) (.ret (gy.aA d v)):=fun y h=>by
 obtain rfl:=au h;rw[El R];rfl
theorem LT.Cn(R:Rel σ1 σ2 gD gy){k:Nat}{v:av}:LT σ2 (some k) (.ret (gD.put k v)) (.ret (gy.put k v)):=LT.ret (d:=some k) R
theorem LT.store(R:Rel σ1 σ2 gD gy):LT σ2 none (.ret gD) (.ret gy):=LT.ret (d:=none) (v:=.undef) R
theorem LT.bif{c:Bool}{t u:Tree St}(h:LT σ2 d t u):LT σ2 d (bif c then t else .fail) (bif c then u else .fail):=by cases c<;>first|exact LT.fail|exact h
theorem LT.AP{c c':Bool}{t u:Tree St}(hc:c=true→c'=true)(h:LT σ2 d t u):LT σ2 d (bif c then t else .fail) (bif c' then u else .fail):=by
 cases c with
 | false=>exact LT.fail
 | true=>rw[hc rfl];exact h
theorem LT.need{c:Bool}{t u:Tree St}(h:LT σ2 d t u):LT σ2 d (.need c t) (.need c u):=fun y hy=>by
 obtain⟨rfl,h2⟩:=aX hy;exact h y h2
theorem LT.look{T:Type}{o:Option T}{k k':T→Tree St}(h:∀x,LT σ2 d (k x) (k' x)):LT σ2 d (.look o k) (.look o k'):=fun y hy=>by
 obtain⟨x,rfl,h2⟩:=aR hy;exact h x y h2
theorem LT.node{c:Bool}{t e t' e':Tree St}(h:LT σ2 d t t')(k:LT σ2 d e e'):LT σ2 d (.node c t e) (.node c t' e'):=fun y hy=>by
 have:=cT hy;cases c with
 | true=>exact h y this
 | false=>exact k y this
theorem LT.bind{α:Type}{t:Tree α}{f g:α→Tree St}(h:∀x,t.run=some x→LT σ2 d (f x) (g x)):LT σ2 d (t.bind f) (t.bind g):=fun y hy=>by
 obtain⟨x,h1,h2⟩:=bind_some hy;rw[Tree.run_bind,h1];exact h x h1 y h2
theorem LT.ay(hle:Le σ1 σ2){k:Nat}{b:Nat}(hb:σ1.mem b=σ2.mem b){val:av}{tid:TypeId}{buf:Bool}{v:Nat→av} :
  LT σ2 (some k) (σ1.ay b val tid buf fun ag σ=>.ret (σ.put k (v ag))) (σ2.ay b val tid buf fun ag σ=>.ret (σ.put k (v ag))):=by
 unfold St.ay;rw[←hb];cases hq:σ1.mem b with
 | none=>exact LT.Cn (Rel.aW hle)
 | some bx =>
   simp only;cases bx.lk with
   | true=>exact LT.fail
   | false=>exact LT.Cn (Rel.aW hle)
theorem LT.mem(hle:Le σ1 σ2){b:Nat}{f g:Option aI→Tree St}(h0:f none=.fail)(h:∀bx,σ1.mem b=some bx→LT σ2 d (f (some bx)) (g (some bx))):LT σ2 d (f (σ1.mem b)) (g (σ2.mem b)):=by
 cases hb:σ1.mem b with
 | none=>rw[h0];exact LT.fail
 | some bx=>rw[hle b bx hb];exact h bx hb
end
end Go.Ge
