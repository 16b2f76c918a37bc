/- A ghost interpreter of the model's code, and that it tells the truth: part 7. It says of a function of plain data what a call of it comes to. -/
import Derived.Test.YtkgjcocemmnpjaaDoorGeF
import Derived.Tactics
set_option linter.unusedVariables false
set_option linter.unusedSimpArgs false
set_option linter.unusedSectionVars false
namespace Go.Ge
open RowKit
def aa(σ:St)(T:Tree St):Prop:=∀y,T.run=some y→aH σ y
theorem aa.fail{σ:St}:aa σ .fail:=fun y h=>by cases h
theorem aa.ret{σ σ':St}(h:aH σ σ'):aa σ (.ret σ'):=fun y hy=>by obtain rfl:=aq hy;exact h
theorem aa.bif{σ:St}{c:Bool}{t:Tree St}(h:aa σ t):aa σ (bif c then t else .fail):=fun y hy=>h y (ah hy).2
theorem aa.need{σ:St}{c:Bool}{t:Tree St}(h:aa σ t):aa σ (.need c t):=fun y hy=>h y (bu hy).2
theorem aa.look{σ:St}{T:Type}{o:Option T}{k:T→Tree St}(h:∀x,aa σ (k x)):aa σ (.look o k):=fun y hy=>by obtain⟨x,_,h2⟩:=bg hy;exact h x y h2
theorem aa.node{σ:St}{c:Bool}{t e:Tree St}(h:aa σ t)(k:aa σ e):aa σ (.node c t e):=fun y hy=>by
 have:=dn hy;cases c with
 | true=>exact h y this
 | false=>exact k y this
theorem aa.bind{σ:St}{α:Type}{t:Tree α}{f:α→Tree St}(h:∀x,t.run=some x→aa σ (f x)):aa σ (t.bind f):=fun y hy=>by obtain⟨x,h1,h2⟩:=bind_some hy;exact h x h1 y h2
theorem aa.ay{σ:St}{b:Nat}{val:au}{tid:TypeId}{buf:Bool}{d:Nat}{v:Nat→au}:aa σ (σ.ay b val tid buf fun ag σ=>.ret (σ.put d (v ag))):=fun y hy=>by
 obtain⟨ag,k1,k2⟩:=fP hy;obtain rfl:=aq k2;exact k1.trans (aH.put _ _ _)
section
variable {cx:Ctx} {nb:Nat} {bf:List Nat} {inl:Nat→List au→St→Tree (au×St)} {d:Option Nat} {σ:St}
theorem mq{ty:TypeId}{v:au}:aa σ (eF cx nb bf d ty v σ):=by
 unfold eF;split
 ·(repeat' (first|exact aa.fail|exact aa.ret (aH.aD _ _ _)|exact aa.ret (aH.put _ _ _)|exact aa.ay|refine aa.bif ?_|refine aa.need ?_|refine aa.look fun _=>?_|refine aa.node ?_ ?_|refine aa.bind fun _ _=>?_|split))
 ·split
  ·rename_i k e _;cases bN bf k with
   | true=>exact aa.ay
   | false=>exact aa.ret (aH.put _ _ _)
  ·exact aa.ret (aH.aD _ _ _)
 ·exact aa.ret (aH.aD _ _ _)
theorem vn{c a b:au}:aa σ (gm d c a b σ):=by unfold gm;(repeat' (first|exact aa.fail|exact aa.ret (aH.aD _ _ _)|exact aa.ret (aH.put _ _ _)|exact aa.ay|refine aa.bif ?_|refine aa.need ?_|refine aa.look fun _=>?_|refine aa.node ?_ ?_|refine aa.bind fun _ _=>?_|split))
theorem vo{ty:TypeId}{a:au}:aa σ (fc cx d ty a σ):=by unfold fc;(repeat' (first|exact aa.fail|exact aa.ret (aH.aD _ _ _)|exact aa.ret (aH.put _ _ _)|exact aa.ay|refine aa.bif ?_|refine aa.need ?_|refine aa.look fun _=>?_|refine aa.node ?_ ?_|refine aa.bind fun _ _=>?_|split))
theorem ua{ty:TypeId}{x:au}{lo hi:Option Operand}:aa σ (fo cx d ty x lo hi σ):=by unfold fo;(repeat' (first|exact aa.fail|exact aa.ret (aH.aD _ _ _)|exact aa.ret (aH.put _ _ _)|exact aa.ay|refine aa.bif ?_|refine aa.need ?_|refine aa.look fun _=>?_|refine aa.node ?_ ?_|refine aa.bind fun _ _=>?_|split))
theorem At{b ag:Nat}{i:Int}:∀{m k:Nat},aa σ (sX d b ag σ i m k):=by
 intro m;induction m with
 | zero=>intro k;exact aa.fail
 | succ m ih=>intro k;exact aa.node (aa.ret (aH.aD _ _ _)) ih
theorem jP{ty:TypeId}{x:au}{i:Int}:aa σ (cu cx d ty x i σ):=by
 unfold cu;split
 case h_6=>split
           ·exact aa.bif At
           ·exact aa.fail
 all_goals (repeat' (first|exact aa.fail|exact aa.ret (aH.aD _ _ _)|exact aa.ret (aH.put _ _ _)|exact aa.ay|refine aa.bif ?_|refine aa.need ?_|refine aa.look fun _=>?_|refine aa.node ?_ ?_|refine aa.bind fun _ _=>?_|split))
theorem uc{ty:TypeId}{x:au}{i:Int}:aa σ (fq cx d ty x i σ):=by
 unfold fq;split
 ·refine aa.bif ?_;split
  ·exact aa.bif (aa.ret (aH.aD _ _ _))
  ·exact aa.fail
 ·exact jP
theorem ud{ty:TypeId}{x:au}{i:Int}:aa σ (fu cx d ty x i σ):=by unfold fu;(repeat' (first|exact aa.fail|exact aa.ret (aH.aD _ _ _)|exact aa.ret (aH.put _ _ _)|exact aa.ay|refine aa.bif ?_|refine aa.need ?_|refine aa.look fun _=>?_|refine aa.node ?_ ?_|refine aa.bind fun _ _=>?_|split))
theorem oJ{s:TypeId}{x:au}{k:Nat}:aa σ (cF cx d s x k σ):=by unfold cF;(repeat' (first|exact aa.fail|exact aa.ret (aH.aD _ _ _)|exact aa.ret (aH.put _ _ _)|exact aa.ay|refine aa.bif ?_|refine aa.need ?_|refine aa.look fun _=>?_|refine aa.node ?_ ?_|refine aa.bind fun _ _=>?_|split))
theorem qI{s t:TypeId}{x:au}:aa σ (dI cx nb d s t x σ):=by unfold dI;(repeat' (first|exact aa.fail|exact aa.ret (aH.aD _ _ _)|exact aa.ret (aH.put _ _ _)|exact aa.ay|refine aa.bif ?_|refine aa.need ?_|refine aa.look fun _=>?_|refine aa.node ?_ ?_|refine aa.bind fun _ _=>?_|split))
theorem n7{ty:TypeId}{t x:au}:aa σ (kV cx d ty t x σ):=by
 unfold kV;split
 ·split
  ·exact aa.fail
  ·exact aa.bind fun r hr=>aa.ret ((rA hr).trans (aH.aD _ _ _))
 ·exact aa.fail
theorem ue{ty:TypeId}{t:au}:aa σ (kW cx ty t σ):=by
 unfold kW;split
 ·exact aa.bind fun r hr=>aa.ret (rA hr)
 ·exact aa.fail
theorem sr{name:String}{args:List au}:aa σ (ir cx d name args σ):=by
 intro σ' hr;unfold ir at hr;split at hr
 ·split at hr
  ·rename_i hx;obtain⟨y,hy,hr2⟩:=bg hr;obtain rfl:=aq hr2;exact(gX hx).trans (aH.aD _ _ _)
  ·exact absurd hr (by intro k;cases k)
 ·exact absurd hr (by intro k;cases k)
theorem uf{ty u:TypeId}{x:au}:aa σ (iq cx d ty u x σ):=by
 intro σ' hr;unfold iq at hr;split at hr
 ·split at hr
  ·split at hr
   ·rename_i hx;obtain rfl:=aq hr;exact(gI hx).trans (aH.aD _ _ _)
   ·exact absurd hr (by intro k;cases k)
  ·exact absurd hr (by intro k;cases k)
 ·exact absurd hr (by intro k;cases k)
theorem vp(fD:∀f vals σ v σ',(inl f vals σ).run=some (v,σ')→aH σ σ'){ty:TypeId}{c:Call}:aa σ (jD cx nb bf inl d ty c σ):=by
 unfold jD;split
 ·split
  ·(repeat' (first|exact aa.fail|exact aa.ret (aH.aD _ _ _)|exact aa.ret (aH.put _ _ _)|exact aa.ay|refine aa.bif ?_|refine aa.need ?_|refine aa.look fun _=>?_|refine aa.node ?_ ?_|refine aa.bind fun _ _=>?_|split))
  ·split
   ·exact fun y hy=>mo hy
   ·exact fun y hy=>mo hy
   ·exact aa.fail
  ·split
   ·exact n7
   ·exact n7
   ·exact aa.fail
  ·split
   ·exact ue
   ·exact aa.fail
  ·(repeat' (first|exact aa.fail|exact aa.ret (aH.aD _ _ _)|exact aa.ret (aH.put _ _ _)|exact aa.ay|refine aa.bif ?_|refine aa.need ?_|refine aa.look fun _=>?_|refine aa.node ?_ ?_|refine aa.bind fun _ _=>?_|split))
  ·(repeat' (first|exact aa.fail|exact aa.ret (aH.aD _ _ _)|exact aa.ret (aH.put _ _ _)|exact aa.ay|refine aa.bif ?_|refine aa.need ?_|refine aa.look fun _=>?_|refine aa.node ?_ ?_|refine aa.bind fun _ _=>?_|split))
  ·exact aa.fail
 ·split
  ·exact aa.bif fun y hy=>xo fD hy
  ·exact aa.fail
 ·exact sr
theorem mV(fD:∀f vals σ v σ',(inl f vals σ).run=some (v,σ')→aH σ σ'){o:Oper}:aa σ (gP cx nb bf inl o σ):=by
 unfold gP;split
 case h_1=>exact mq
 case h_2=>exact mq
 case h_3=>exact vn
 case h_4 =>
  split
  ·unfold ju;split
   ·refine aa.bif fun y hy=>?_;obtain⟨ag,k1,k2⟩:=fP hy;exact k1.trans (aa.ay y k2)
   ·exact aa.ay
  ·split
   ·refine aa.bind fun r hr=>?_;exact fun y hy=>(As hr).trans (aa.ay y hy)
   ·exact aa.bif aa.ay
  ·exact aa.fail
 case h_5 =>
  unfold oU;split
  ·exact aa.fail
  ·exact aa.fail
  ·split
   ·refine aa.bind fun r hr=>?_;exact fun y hy=>(xj hr).trans (aa.ay y hy)
   ·exact aa.ay
  ·exact aa.fail
 case h_6 =>
  split
  ·split
   ·rename_i hb;exact aa.ret ((so hb).trans (aH.aD _ _ _))
   ·exact aa.fail
  ·split
   ·rename_i hb;exact aa.ret ((mU hb).trans (aH.aD _ _ _))
   ·exact aa.fail
  ·(repeat' (first|exact aa.fail|exact aa.ret (aH.aD _ _ _)|exact aa.ret (aH.put _ _ _)|exact aa.ay|refine aa.bif ?_|refine aa.need ?_|refine aa.look fun _=>?_|refine aa.node ?_ ?_|refine aa.bind fun _ _=>?_|split))
  ·exact aa.fail
 case h_7 =>
  split
  ·split
   ·exact aa.ay
   ·refine aa.bif ?_;split
    ·rename_i hb;exact aa.ret ((mU hb).trans (aH.aD _ _ _))
    ·exact aa.fail
  ·unfold nB;(repeat' (first|exact aa.fail|exact aa.ret (aH.aD _ _ _)|exact aa.ret (aH.put _ _ _)|exact aa.ay|refine aa.bif ?_|refine aa.need ?_|refine aa.look fun _=>?_|refine aa.node ?_ ?_|refine aa.bind fun _ _=>?_|split))
  ·exact aa.fail
 case h_8=>exact vo
 case h_9=>split
           ·exact fun y hy=>tY hy
           ·exact aa.fail
 case h_10=>(repeat' (first|exact aa.fail|exact aa.ret (aH.aD _ _ _)|exact aa.ret (aH.put _ _ _)|exact aa.ay|refine aa.bif ?_|refine aa.need ?_|refine aa.look fun _=>?_|refine aa.node ?_ ?_|refine aa.bind fun _ _=>?_|split))
 case h_11=>(repeat' (first|exact aa.fail|exact aa.ret (aH.aD _ _ _)|exact aa.ret (aH.put _ _ _)|exact aa.ay|refine aa.bif ?_|refine aa.need ?_|refine aa.look fun _=>?_|refine aa.node ?_ ?_|refine aa.bind fun _ _=>?_|split))
 case h_12=>(repeat' (first|exact aa.fail|exact aa.ret (aH.aD _ _ _)|exact aa.ret (aH.put _ _ _)|exact aa.ay|refine aa.bif ?_|refine aa.need ?_|refine aa.look fun _=>?_|refine aa.node ?_ ?_|refine aa.bind fun _ _=>?_|split))
 case h_13=>exact qI
 case h_14=>(repeat' (first|exact aa.fail|exact aa.ret (aH.aD _ _ _)|exact aa.ret (aH.put _ _ _)|exact aa.ay|refine aa.bif ?_|refine aa.need ?_|refine aa.look fun _=>?_|refine aa.node ?_ ?_|refine aa.bind fun _ _=>?_|split))
 case h_15=>exact ua
 case h_16=>exact oJ
 case h_17=>(repeat' (first|exact aa.fail|exact aa.ret (aH.aD _ _ _)|exact aa.ret (aH.put _ _ _)|exact aa.ay|refine aa.bif ?_|refine aa.need ?_|refine aa.look fun _=>?_|refine aa.node ?_ ?_|refine aa.bind fun _ _=>?_|split))
 case h_18=>split
            ·cases bN bf 5000000 with
             | true=>exact uc
             | false=>exact jP
            ·exact aa.fail
 case h_19=>split
            ·exact ud
            ·exact aa.fail
 case h_20=>(repeat' (first|exact aa.fail|exact aa.ret (aH.aD _ _ _)|exact aa.ret (aH.put _ _ _)|exact aa.ay|refine aa.bif ?_|refine aa.need ?_|refine aa.look fun _=>?_|refine aa.node ?_ ?_|refine aa.bind fun _ _=>?_|split))
 case h_21=>(repeat' (first|exact aa.fail|exact aa.ret (aH.aD _ _ _)|exact aa.ret (aH.put _ _ _)|exact aa.ay|refine aa.bif ?_|refine aa.need ?_|refine aa.look fun _=>?_|refine aa.node ?_ ?_|refine aa.bind fun _ _=>?_|split))
 case h_22=>exact vp fD
 case h_23=>exact uf
 case h_24=>exact aa.fail
end
end Go.Ge
namespace Go.Ge
open RowKit
theorem fI.shrink{mem mem':Nat→Option aR}(hm:∀b bx,mem b=some bx→mem' b=some { bx with lk:=true }){b ag:Nat}{K0 K:aR→Prop}(h0:fI mem b ag K0)(h:fI mem' b ag K)
  (hK:∀bx,K { bx with lk:=true }→K bx):fI mem b ag K:=by
 obtain⟨bx,h1,h2,_⟩:=h0;obtain⟨eg,k1,k2,k3⟩:=h;rw[hm b bx h1] at k1;obtain rfl:=aq k1;exact⟨bx,h1,h2,fun e=>hK bx (k3 e)⟩
theorem br.shrink{γ γ':Gh}{mem mem':Nat→Option aR}{w w':World}(hm:∀b bx,mem b=some bx→mem' b=some { bx with lk:=true }):∀{v:au} {m:Mode} {us vs:List Value},
  br γ mem w v m us→br γ' mem' w' v m vs→br γ' mem w' v m vs:=by
 intro v;induction v with
 | undef=>intro m us vs _ r;cases m<;>exact r
 | data t x=>intro m us vs _ r;cases m<;>exact r
 | gk=>intro m us vs _ r;cases m<;>exact r
 | ij=>intro m us vs _ r;cases m<;>exact r
 | cell t x=>intro m us vs _ r;cases m<;>exact r
 | nl=>intro m us vs _ r;cases m<;>exact r
 | iQ=>intro m us vs _ r;cases m<;>exact r
 | jV b ag =>
   intro m us vs r0 r;cases m with
   | many=>exact r
   | cells=>exact⟨r.1,r0.2.shrink hm r.2 fun _ k=>k⟩
   | val=>exact⟨r.1,r0.2.shrink hm r.2 fun _ k=>k⟩
 | ptr b ag p =>
   intro m us vs r0 r;cases m with
   | many=>exact r
   | cells=>exact⟨r.1,r0.2.shrink hm r.2 fun _ k=>k⟩
   | val=>exact⟨r.1,r0.2.shrink hm r.2 fun _ k=>k⟩
 | whole b ag =>
   intro m us vs r0 r;cases m with
   | many=>exact r
   | cells=>exact⟨r.1,r0.2.shrink hm r.2 fun _ k=>k⟩
   | val=>exact⟨r.1,r0.2.shrink hm r.2 fun _ k=>k⟩
 | part b ag lo n =>
   intro m us vs r0 r;cases m with
   | many=>exact r
   | cells=>exact⟨r.1,r0.2.shrink hm r.2 fun _ k=>k⟩
   | val=>exact⟨r.1,r0.2.shrink hm r.2 fun _ k=>k⟩
 | win b ag q e k lo n =>
   intro m us vs r0 r;cases m with
   | many=>exact r
   | cells=>exact⟨r.1,r0.2.shrink hm r.2 fun _ k=>k⟩
   | val=>exact⟨r.1,r0.2.shrink hm r.2 fun _ k=>k⟩
 | fn f caps =>
   intro m us vs r0 r;cases m with
   | many=>exact r
   | cells=>obtain⟨_,_,_,s⟩:=r0;obtain⟨arr,r1,r2,r3⟩:=r;exact⟨arr,r1,r2,fun i b ag hc=>(s i b ag hc).shrink hm (r3 i b ag hc) fun _ k=>k⟩
   | val=>obtain⟨_,_,_,s⟩:=r0;obtain⟨arr,r1,r2,r3⟩:=r;exact⟨arr,r1,r2,fun i b ag hc=>(s i b ag hc).shrink hm (r3 i b ag hc) fun _ k=>k⟩
 | mix a b eN fE =>
   intro m us vs r0 r;cases m with
   | cells=>obtain⟨_,_,_,s1,s2⟩:=r0;obtain⟨c1,c2,r0,r1,r2⟩:=r;exact⟨c1,c2,r0,eN s1 r1,fE s2 r2⟩
   | val=>obtain⟨_,_,_,s1,s2⟩:=r0;obtain⟨c1,c2,r0,r1,r2⟩:=r;exact⟨c1,c2,r0,eN s1 r1,fE s2 r2⟩
   | many=>obtain⟨_,_,_,s1,s2⟩:=r0;obtain⟨c1,c2,r0,r1,r2⟩:=r;exact⟨c1,c2,r0,eN s1 r1,fE s2 r2⟩
 | jT u ih =>
   intro m us vs r0 r;cases m with
   | val=>obtain⟨_,_,s⟩:=r0;obtain⟨arr,r1,r2⟩:=r;exact⟨arr,r1,ih s r2⟩
   | cells=>exact r
   | many=>exact r
theorem aN.unlock{B:iy}{γ γ':Gh}{mem mem':Nat→Option aR}{w w':World}(h:aN B γ mem w)(hm:∀b bx,mem b=some bx→mem' b=some { bx with lk:=true })
  (h':aN B γ' mem' w') (hx:Ext B γ (fun i=>match mem i with|some b=>some { b with lk:=true }|none=>none) w γ' mem' w'):aN B γ' mem w'∧Ext B γ mem w γ' mem w':=by
 have nT:∀b bx,mem b=some bx→γ'.loc b=γ.loc b:=by
  intro b bx hb;obtain⟨eg,k1,k2,k3⟩:=hx.boxes b { bx with lk:=true } (by simp[hb]);rw[hm b bx hb] at k1;obtain rfl:=aq k1;exact(k3 rfl).1
 have hne:∀b,mem b≠none→mem' b≠none:=by
  intro b hb;cases hq:mem b with
  | none=>exact absurd hq hb
  | some bx=>rw[hm b bx hq];simp
 refine⟨?_,⟨hx.below,hx.I,hx.jK,hx.cells,fun b bx hb=>⟨bx,hb,en _,fun _=>⟨nT b bx hb,rfl,rfl⟩⟩⟩⟩;exact
  { b6:=h'.b6
    base:=h'.base
    boxes:=fun b bx hb=>by
     have h1:=h.boxes b bx hb;have h2:=h'.boxes b _ (hm b bx hb);unfold bB at h1 h2⊢;cases aQ:bx.buf with
     | true=>rw[aQ] at h2;exact h2
     | false =>
       rw[aQ] at h1 h2;obtain⟨_,_,_,_,_,_,_,_,_,r0⟩:=h1;obtain⟨blk,cap,cur,tid,fr,k1,k2,k3,de,k4⟩:=h2;exact⟨blk,cap,cur,tid,fr,k1,k2,k3,de,r0.shrink hm k4⟩
    inj:=fun b c blk k k' hb hc h1 h2=>h'.inj b c blk k k' (hne b hb) (hne c hc) h1 h2
    fresh:=fun b blk k hb h1=>h'.fresh b blk k (hne b hb) h1
    jJ:=h'.jJ
    sep:=fun b bx blk k off hb h1 hi=>by
     have:=h'.sep b _ blk k off (hm b bx hb) h1 hi;exact this }
theorem Ext.dS{B:iy}{γ:Gh}{σ:St}{w:World}:Ext B γ σ.mem w γ σ.dS.mem w where
 below:=jI.refl _ _
 I:=fun _ _ h=>h
 jK:=fun _ _ h=>.inl h
 cells:=fun _ _ _=>rfl
 boxes:=fun b bx hb=>⟨{ bx with lk:=true },by simp[St.dS,hb],en _,fun _=>⟨rfl,rfl,rfl⟩⟩
theorem aN.dS{B:iy}{γ:Gh}{σ:St}{w:World}(h:aN B γ σ.mem w):aN B γ σ.dS.mem w:=by
 have inv:∀{b bx},σ.dS.mem b=some bx→∃bT,σ.mem b=some bT∧bx={ bT with lk:=true }:=by
  intro b bx hb;simp only[St.dS] at hb;split at hb
  ·rename_i bT h0;exact⟨bT,h0,(aq hb).symm⟩
  ·cases hb
 have hne:∀{b},σ.dS.mem b≠none→σ.mem b≠none:=by
  intro b hb hq;apply hb;simp[St.dS,hq]
 exact
  { b6:=h.b6
    base:=h.base
    boxes:=fun b bx hb=>by
     obtain⟨bT,h0,rfl⟩:=inv hb;have:=(h.boxes b bT h0).keep (Ext.dS (B:=B) (γ:=γ) (σ:=σ) (w:=w)) rfl (fun _ _ _=>rfl);exact this
    inj:=fun b c blk k k' hb hc h1 h2=>h.inj b c blk k k' (hne hb) (hne hc) h1 h2
    fresh:=fun b blk k hb h1=>h.fresh b blk k (hne hb) h1
    jJ:=h.jJ
    sep:=fun b bx blk k off hb h1 hi=>by
     obtain⟨bT,h0,rfl⟩:=inv hb;exact h.sep b bT blk k off h0 h1 hi }
theorem bP.dS{B:iy}{N:Nat}{γ:Gh}{σ:St}{a:Act}{w:World}(h:bP B N γ σ a w):bP B N γ σ.dS a w where
 slots:=fun t=>(h.slots t).ext (Ext.dS (B:=B))
 size:=h.size
 defers:=h.defers
 ok:=h.ok.dS
theorem xp{σ τ:St}(h:aH σ.dS τ):∀b bx,σ.mem b=some bx→τ.mem b=some { bx with lk:=true }:=fun b bx hb=>h b _ (by simp[St.dS,hb]) rfl
end Go.Ge
namespace Go.Ge
open RowKit
inductive ic (all:Array Oper) (G:List (Nat×Bool)):List (Nat×Oper)→List Oper→Prop
 | nil:ic all G [] []
 | cons {i:Nat} {o o':Oper} {r:List (Nat×Oper)} {l:List Oper}:all[i]?=some o→(o'=o∨∃g,o.guard=some g∧g∈G∧o'={ o with guard:=none })→ic all G r l→ic all G ((i,o')::r) (o::l)
theorem ic.mono{all:Array Oper}{G G':List (Nat×Bool)}(hG:∀g∈G,g∈G'){items:List (Nat×Oper)}{l:List Oper}(h:ic all G items l):ic all G' items l:=by
 induction h with
 | nil=>exact .nil
 | cons h1 h2 _ ih=>exact .cons h1 (h2.imp id fun⟨g,k1,k2,k3⟩=>⟨g,k1,hG g k2,k3⟩) ih
theorem yJ{all:Array Oper}{G:List (Nat×Bool)}{j:Nat}{want:Bool}:∀{items:List (Nat×Oper)} {l:List Oper} {inner:List Nat},ic all G items l →
  ∃l1 l2,l=l1++l2∧ic all ((j,want)::G) (under j want inner items).1 l1∧ic all G (under j want inner items).2 l2:=by
 intro items l inner h;induction h generalizing inner with
 | nil=>exact⟨[],[],rfl,.nil,.nil⟩
 | @cons i o o' r l h1 h2 h3 ih =>
   unfold under;cases hg:lN o'.guard j want with
   | true =>
     simp only[gD];obtain⟨l1,l2,e1,e2,e3⟩:=ih (inner:=i::inner);refine⟨o::l1,l2,by rw[e1];rfl,.cons h1 (.inr ?_) e2,e3⟩;have ho:o'=o:=by
      rcases h2 with h2|⟨g,k1,k2,k3⟩
      ·exact h2
      ·rw[k3] at hg;cases hg
     subst ho;unfold lN at hg;split at hg
     ·rename_i i' b' hgd;simp only[cA] at hg;have h9:=cK hg.1;have h8:b'=want:=by simpa using hg.2
      subst h9;subst h8;exact⟨(i',b'),hgd,jy ..,rfl⟩
     ·cases hg
   | false =>
     simp only[eD];have both:∀c:Bool,∃l1 l2,o::l=l1++l2 ∧
       ic all ((j,want)::G) (bif c then((i,o')::(under j want (i::inner) r).1,(under j want (i::inner) r).2) else([],(i,o')::r)).1 l1 ∧
       ic all G (bif c then((i,o')::(under j want (i::inner) r).1,(under j want (i::inner) r).2) else([],(i,o')::r)).2 l2:=by
      intro c;cases c with
      | true =>
        obtain⟨l1,l2,e1,e2,e3⟩:=ih (inner:=i::inner);exact⟨o::l1,l2,by rw[e1];rfl,.cons h1 (h2.imp id fun⟨g,k1,k2,k3⟩=>⟨g,k1,jx _ k2,k3⟩) e2,e3⟩
      | false=>exact⟨[],o::l,rfl,.nil,.cons h1 h2 h3⟩
     exact both _
theorem Au{d:Nat}:∀{items:List (Nat×Oper)},fV d items=false→∀i o,(i,o)∈items→o.dst≠some d:=by
 intro items;induction items with
 | nil=>intro _ i o h;cases h
 | cons p r ih =>
   obtain⟨i0,o0⟩:=p;intro h i o hm;simp only[fV,uZ] at h;rcases List.mem_cons.1 hm with hm|hm
   ·obtain⟨rfl,rfl⟩:=bY hm;intro e;rw[e] at h;simp at h
   ·exact ih h.2 i o hm
section
variable {P:Program} {B:iy} {N:Nat} {γ:Gh} {σ σ':St} {a:Act} {w w':World} {cx:Ctx} {nb:Nat} {bf:List Nat} {inl:Nat→List au→St→Tree (au×St)} {all:Array Oper}
def yK(all:Array Oper)(G:List (Nat×Bool))(a:Act)(items:List (Nat×Oper)):Prop :=
 ∀g∈G,∃dj,(all[g.1]?).bind (·.dst)=some dj∧a.tmps[dj]?=some (.bool g.2)∧fV dj items=false
theorem yK.wanted{G:List (Nat×Bool)}{items:List (Nat×Oper)}(h:yK all G a items){o:Oper}{g:Nat×Bool}(ho:o.guard=some g)(hg:g∈G):Region.wanted o (yielded all a.tmps)=true:=by
 obtain⟨dj,h1,h2,_⟩:=h g hg;obtain⟨j,want⟩:=g;unfold Region.wanted;rw[ho];simp only[yielded,h1,wE,h2];simp
def Fr(items:List (Nat×Oper))(a a':Act):Prop:=∀t,fV t items=false→a'.tmps[t]?=a.tmps[t]?
theorem cV{a:Act}{d:Option Nat}{v:Value}{t:Nat}(h:d≠some t):(a.put d v).tmps[t]?=a.tmps[t]?:=by
 cases d with
 | none=>rfl
 | some k =>
   have:k≠t:=fun e=>h (by rw[e]);simp[Act.put,Array.getElem?_setIfInBounds_ne this]
theorem lA{d i:Nat}{o:Oper}{r:List (Nat×Oper)}(h:fV d ((i,o)::r)=false):o.dst≠some d∧fV d r=false:=by
 simp only[fV,uZ] at h;refine⟨fun e=>?_,h.2⟩;rw[e] at h;simp at h
theorem yL(t:Nat):∀(items:List (Nat×Oper)),(σ.undef items).slots t=bif fV t items then .undef else σ.slots t:=by
 intro items;induction items with
 | nil=>rfl
 | cons p r ih =>
   obtain⟨i,o⟩:=p;simp only[St.undef,fV];cases hd:o.dst with
   | none=>simp only[St.aD,BN];exact ih
   | some k =>
     simp only[St.aD,St.put];cases hk:Nat.beq k t with
     | true=>obtain rfl:=cK hk;simp
     | false =>
       have:Nat.beq t k=false:=ec (fun e=>by subst e;simp at hk);rw[this];simp only[eD,BN];exact ih
theorem jw:∀(items:List (Nat×Oper)),(σ.undef items).mem=σ.mem:=by
 intro items;induction items with
 | nil=>rfl
 | cons p r ih =>
   obtain⟨i,o⟩:=p;simp only[St.undef];cases o.dst<;>exact ih
theorem bP.undef(h:bP B N γ σ a w){items:List (Nat×Oper)}{a':Act}(hf:Fr items a a')(hs:a'.tmps.size=N)(hd:a'.defers=[]):bP B N γ (σ.undef items) a' w where
 slots:=fun t=>by
  rw[yL,jw];cases hh:fV t items with
  | true=>exact⟨_,rfl⟩
  | false =>
    have:=hf t hh;have e:a'.tmps.getD t Go.undef=a.tmps.getD t Go.undef:=by simp only[zJ,this]
    rw[e];exact h.slots t
 size:=hs
 defers:=hd
 ok:=by rw[jw];exact h.ok
theorem pT{d:Option Nat}{k:Nat}(h:yielded all a.tmps k=none):yielded all (a.put d Go.undef).tmps k=none:=by
 unfold yielded at h⊢;cases hk:(all[k]?).bind (·.dst) with
 | none=>rfl
 | some dk =>
   rw[hk] at h;simp only[wE] at h⊢;by_cases e:d=some dk
   ·subst e;simp only[Act.put];rw[GK];simp only[iP];by_cases hs:dk<a.tmps.size
    ·rw[fF hs];rfl
    ·rw[dW hs]
   ·rw[cV e];exact h
theorem pU{i:Nat}{o:Oper}(h:all[i]?=some o):yielded all (a.put o.dst Go.undef).tmps i=none:=by
 unfold yielded;rw[h];simp only[wE];cases hd:o.dst with
 | none=>rfl
 | some d =>
   simp only[wE,Act.put];rw[GK];simp only[iP];by_cases hs:d<a.tmps.size
   ·rw[fF hs];rfl
   ·rw[dW hs]
theorem Av{G:List (Nat×Bool)}{j dj:Nat}{want c:Bool}{Q:Exit→Act→World→Prop}(hj:(all[j]?).bind (·.dst)=some dj)(yM:c≠want) :
  ∀{items:List (Nat×Oper)} {l:List Oper} {inner:List Nat} {a:Act},ic all G items l→a.tmps[dj]?=some (.bool c)→fV dj (under j want inner items).1=false→(∀k∈inner,yielded all a.tmps k=none) →
   ∃l1 l2,l=l1++l2∧l1.length=(under j want inner items).1.length∧∀rest,(∀a',Fr (under j want inner items).1 a a'→a'.tmps.size=a.tmps.size→a'.defers=a.defers→wpList P all Q rest a' w) →
    wpList P all Q (l1++rest) a w:=by
 intro items l inner a h;induction h generalizing inner a with
 | nil=>intro _ _ _;exact⟨[],[],rfl,rfl,fun rest hk=>hk a (fun t _=>rfl) rfl rfl⟩
 | @cons i o o' r l h1 h2 h3 ih =>
   intro hc hh hin;have one:∀(oo:Oper),oo.dst=o.dst→Region.wanted o (yielded all a.tmps)=false→(under j want inner ((i,o')::r)).1=(i,oo)::(under j want (i::inner) r).1 →
     ∃l1 l2,o::l=l1++l2∧l1.length=(under j want inner ((i,o')::r)).1.length∧∀rest,(∀a',Fr (under j want inner ((i,o')::r)).1 a a'→a'.tmps.size=a.tmps.size→a'.defers=a.defers→wpList P all Q rest a' w) →
     wpList P all Q (l1++rest) a w:=by
    intro oo Kt hw hu;rw[hu] at hh⊢;obtain⟨hd1,Lm⟩:=lA hh;rw[Kt] at hd1;obtain⟨l1,l2,e1,e2,e3⟩:=ih (inner:=i::inner) (a:=a.put o.dst Go.undef) (by rw[cV hd1];exact hc) Lm (fun k hk=>by
     rcases List.mem_cons.1 hk with rfl|hk
     ·exact pU h1
     ·exact pT (hin k hk))
    refine⟨o::l1,l2,by rw[e1];rfl,by simp[e2],fun rest hk=>?_⟩;show wpList P all Q (o::(l1++rest)) a w
    unfold wpList;rw[hw];simp only[zM,sS];refine e3 rest fun a' f1 f2 f3=>hk a' (fun t ht=>?_) (f2.trans (yf _ _ _)) (f3.trans (put_defers _ _ _));obtain⟨ht1,Ln⟩:=lA ht;rw[Kt] at ht1;rw[f1 t Ln,cV ht1]
   cases hg:lN o'.guard j want with
   | true =>
     have ho:o'=o:=by
      rcases h2 with h2|⟨g,k1,k2,k3⟩
      ·exact h2
      ·rw[k3] at hg;cases hg
     subst ho;have hgd:o'.guard=some (j,want):=by
      unfold lN at hg;split at hg
      ·rename_i i' b' hgd;simp only[cA] at hg;have h9:=cK hg.1;have h8:b'=want:=by simpa using hg.2
       rw[hgd,h9,h8]
      ·cases hg
     refine one { o' with guard:=none } rfl ?_ (by simp only[under,hg,gD]);unfold Region.wanted;rw[hgd];simp only[yielded,hj,wE,hc];cases c<;>cases want<;>first|rfl|exact absurd rfl yM
   | false =>
     cases hgd:o'.guard with
     | none =>
       have hu:(under j want inner ((i,o')::r)).1=[]:=by
        rw[hgd] at hg;simp only[under,hgd,hg,eD]
       rw[hu];exact⟨[],o::l,rfl,rfl,fun rest hk=>hk a (fun t _=>rfl) rfl rfl⟩
     | some g =>
       obtain⟨k,b⟩:=g;rw[hgd] at hg;cases hn:inner.any (Nat.beq k) with
       | true =>
         have ho:o'=o:=by
          rcases h2 with h2|⟨g,k1,k2,k3⟩
          ·exact h2
          ·rw[k3] at hgd;cases hgd
         subst ho;refine one o' rfl ?_ (by simp only[under,hgd,hg,hn,eD,gD]);obtain⟨k',hk',hkk⟩:=List.any_eq_true.1 hn;obtain rfl:=cK hkk;unfold Region.wanted;rw[hgd];simp only[hin k hk'];rfl
       | false =>
         have hu:(under j want inner ((i,o')::r)).1=[]:=by simp only[under,hgd,hg,hn,eD]
         rw[hu];exact⟨[],o::l,rfl,rfl,fun rest hk=>hk a (fun t _=>rfl) rfl rfl⟩
end
end Go.Ge
namespace Go.Ge
open RowKit
section
variable {P:Program} {B:iy} {N:Nat} {γ:Gh} {σ σ':St} {a:Act} {w w':World} {cx:Ctx} {nb:Nat} {bf:List Nat} {inl:Nat→List au→St→Tree (au×St)} {all:Array Oper}
theorem ug(σ:St)(items:List (Nat×Oper)):aH σ (σ.undef items):=aH.DI (jw items)
theorem pV(fD:∀f vals σ v σ',(inl f vals σ).run=some (v,σ')→aH σ σ'):∀(n:Nat) (items:List (Nat×Oper)) (σ:St),aa σ (gQ cx nb bf inl all n items σ):=by
 intro n;induction n with
 | zero=>intro items σ;exact aa.fail
 | succ n ih =>
   intro items σ;cases items with
   | nil=>exact aa.ret (aH.refl _)
   | cons p r =>
     obtain⟨i,o⟩:=p;unfold gQ;split
     ·exact aa.bind fun σ1 h1 y hy=>(mV fD σ1 h1).trans (ih _ _ y hy)
     ·rename_i j want hg;dsimp only;split
      ·exact aa.fail
      ·rename_i dj JN;split
       ·rename_i c ip pk rest pW mj;cases hh:fV dj (under j want [] ((i,o)::r)).1 with
        | true=>exact aa.fail
        | false =>
          simp only[eD];split
          ·exact aa.fail
          ·cases hin:sF cx (under j want [] ((i,o)::r)).1 with
           | true =>
             simp only[gD];intro y hy;obtain⟨σ2,h1,h2⟩:=bind_some hy;refine aH.trans ?_ (ih _ _ y h2);refine(aa.node (σ:=σ) ?_ ?_) σ2 h1
             ·refine aa.bind fun τ Lo=>?_;split
              ·exact aa.ret ((ih _ _ τ Lo).trans (aH.aD _ _ _))
              ·exact aa.fail
             ·split
              ·exact aa.ret ((ug _ _).trans (aH.aD _ _ _))
              ·exact aa.fail
           | false =>
             simp only[eD];split
             ·intro y hy;rw[Tree.mF] at hy;obtain⟨x,h1,h2⟩:=Option.bind_eq_some_iff.1 hy;exact((ug _ _).trans (aH.put _ _ _)).trans (ih _ _ y h2)
             ·exact aa.fail
       ·exact aa.fail
theorem Br{mem:Nat→Option aR}{t:Ty}{v:au}{x:t.den}{val:Value}(h:BS t v=some x)(hv:br γ mem w v .val [val]){mem':Nat→Option aR}:br γ mem' w (.data t x) .val [val]:=by
 unfold BS at h;split at h
 ·obtain⟨q,hq⟩:=Ty.eW h;subst q;subst hq;exact hv
 ·split at h
  ·obtain rfl:=aq h;obtain rfl:val=_:=by simpa [br] using hv
   exact⟨[.slice none 0 0],.inl ⟨⟨none,rfl⟩,rfl⟩,rfl⟩
  ·cases h
 ·cases h
theorem ic.length{G:List (Nat×Bool)}{items:List (Nat×Oper)}{l:List Oper}(h:ic all G items l):items.length=l.length:=by
 induction h with
 | nil=>rfl
 | cons _ _ _ ih=>simp[ih]
theorem Aw{pk:Oper}{dj:Nat}{b:Bool}{v:au}{K:Act→World→Prop}{Q:Exit→Act→World→Prop}(h:bP B N γ σ a w)(hb:a.tmps[dj]?=some (.bool b)){want:Bool}(hw:b=want)
  (vY:lO σ pk dj want=some v) (hK:∀y,br γ σ.mem w v .val [y]→K (a.put pk.dst y) w):pk.wp P a w K Q:=by
 unfold lO at vY;split at vY
 ·rename_i c x y hop;cases hc:Nat.beq c dj with
  | false=>rw[hc] at vY;cases vY
  | true =>
    obtain rfl:=cK hc;rw[hc] at vY;obtain rfl:=aq vY;subst hw;have he:a.eval (.tmp c)=.bool b:=by simp[Act.eval,hb]
    unfold Oper.wp;have hrun:(execOp a.eval pk).run P w=.ok (.value (a.eval (bif b then x else y))) w:=by
     simp only[execOp,hop,he];cases b<;>rfl
    rw[hrun];exact hK _ (h.bz _)
 ·cases vY
theorem yK.put{G:List (Nat×Bool)}{i:Nat}{o:Oper}{r:List (Nat×Oper)}(h:yK all G a ((i,o)::r))(v:Value):yK all G (a.put o.dst v) r:=by
 intro g hg;obtain⟨dj,k1,k2,k3⟩:=h g hg;obtain⟨t1,t2⟩:=lA k3;exact⟨dj,k1,by rw[cV t1];exact k2,t2⟩
theorem Ax{d j:Nat}{want:Bool}:∀{items:List (Nat×Oper)} {inner:List Nat},fV d items=(fV d (under j want inner items).1||fV d (under j want inner items).2):=by
 intro items;induction items with
 | nil=>intro inner;rfl
 | cons p r ih =>
   obtain⟨i,o⟩:=p;intro inner;unfold under;cases hg:lN o.guard j want with
   | true=>simp only[gD,fV,C8];rw[ih (inner:=i::inner)]
   | false =>
     simp only[eD];have both:∀c:Bool,fV d ((i,o)::r)=(fV d (bif c then((i,o)::(under j want (i::inner) r).1,(under j want (i::inner) r).2) else([],(i,o)::r)).1 ||
       fV d (bif c then((i,o)::(under j want (i::inner) r).1,(under j want (i::inner) r).2) else([],(i,o)::r)).2):=by
      intro c;cases c with
      | true=>simp only[gD,fV,C8];rw[ih (inner:=i::inner)]
      | false=>simp[fV]
     exact both _
theorem Ay{p:Option Nat→Prop}{j:Nat}{want:Bool}:∀{items:List (Nat×Oper)} {inner:List Nat},(∀i o,(i,o)∈items→p o.dst) →
  (∀i o,(i,o)∈(under j want inner items).1→p o.dst)∧(∀i o,(i,o)∈(under j want inner items).2→p o.dst):=by
 intro items;induction items with
 | nil=>intro inner h;exact⟨h,h⟩
 | cons q r ih =>
   obtain⟨i0,o0⟩:=q;intro inner h;have h0:=h i0 o0 (jy ..);have hr:∀i o,(i,o)∈r→p o.dst:=fun i o hm=>h i o (jx _ hm);unfold under;cases hg:lN o0.guard j want with
   | true =>
     simp only[gD];obtain⟨k1,k2⟩:=ih (inner:=i0::inner) hr;refine⟨fun i o hm=>?_,k2⟩;rcases List.mem_cons.1 hm with hm|hm
     ·obtain⟨_,rfl⟩:=bY hm;exact h0
     ·exact k1 i o hm
   | false =>
     simp only[eD];have both:∀c:Bool,(∀i o,(i,o)∈(bif c then((i0,o0)::(under j want (i0::inner) r).1,(under j want (i0::inner) r).2) else([],(i0,o0)::r)).1→p o.dst) ∧
       (∀i o,(i,o)∈(bif c then((i0,o0)::(under j want (i0::inner) r).1,(under j want (i0::inner) r).2) else([],(i0,o0)::r)).2→p o.dst):=by
      intro c;cases c with
      | true =>
        obtain⟨k1,k2⟩:=ih (inner:=i0::inner) hr;refine⟨fun i o hm=>?_,k2⟩;rcases List.mem_cons.1 hm with hm|hm
        ·obtain⟨_,rfl⟩:=bY hm;exact h0
        ·exact k1 i o hm
      | false=>exact⟨fun i o hm=>(by cases hm),h⟩
     exact both _
theorem rB{t:Nat}{b:Bool}(h:bP B N γ σ a w)(hs:σ.slots t=.data .bool b):a.tmps[t]?=some (.bool b):=by
 have:=h.slots t;rw[hs] at this;have e:=lR this;rw[zJ] at e;cases hq:a.tmps[t]? with
 | none=>rw[hq] at e;cases e
 | some y=>rw[hq] at e;exact congrArg some e
theorem yN{α:Type}{c want:Bool}{t e:Tree α}{y:α}(h:(Tree.node (bif want then c else nt c) t e).run=some y):(c=want∧t.run=some y)∨(c≠want∧c=(!want)∧e.run=some y):=by
 have:=dn h;cases c<;>cases want
 ·exact .inl ⟨rfl,this⟩
 ·exact .inr ⟨by simp,rfl,this⟩
 ·exact .inr ⟨by simp,rfl,this⟩
 ·exact .inl ⟨rfl,this⟩
theorem vq(hc:dy P cx)(cQ:ia P B.G cx)(fD:jY P B.G inl)(hkeep:∀f vals σ v σ',(inl f vals σ).run=some (v,σ')→aH σ σ'){Q:Exit→Act→World→Prop} :
  ∀(n:Nat) {items:List (Nat×Oper)} {l rest:List Oper} {σ σ':St} {γ:Gh} {a:Act} {w:World} {G:List (Nat×Bool)},ic all G items l→yK all G a items→(∀i o,(i,o)∈items→∀k,o.dst=some k→k<N) →
   (gQ cx nb bf inl all n items σ).run=some σ'→bP B N γ σ a w →
   (∀γ' a' w',bP B N γ' σ' a' w'→Ext B γ σ.mem w γ' σ'.mem w'→Fr items a a'→wpList P all Q rest a' w')→wpList P all Q (l++rest) a w:=by
 intro n;induction n with
 | zero=>intro items l rest σ σ' γ a w G _ _ _ hr;cases hr
 | succ n ih =>
   intro items l rest σ σ' γ a w G hit hG hd hr h hK;cases hit with
   | nil =>
     obtain rfl:=aq hr;exact hK γ a w h (Ext.refl _ _ _ _) (fun t _=>rfl)
   | @cons i o o' r l h1 h2 h3 =>
     have Aq:o'.dst=o.dst:=by rcases h2 with rfl|⟨_,_,_,rfl⟩<;>rfl
     unfold gQ at hr;split at hr
     ·rename_i hg;obtain⟨σ1,r1,r2⟩:=bind_some hr;have hw:Region.wanted o (yielded all a.tmps)=true:=by
       rcases h2 with rfl|⟨g,k1,k2,k3⟩
       ·unfold Region.wanted;rw[hg]
       ·exact hG.wanted k1 k2
      have Lq:(gP cx nb bf inl o σ).run=some σ1:=by
       rcases h2 with rfl|⟨g,k1,k2,rfl⟩
       ·exact r1
       ·exact r1
      show wpList P all Q (o::(l++rest)) a w
      unfold wpList;rw[hw];simp only[iP];refine .inl (tX hc cQ fD h (fun k hk=>hd i o' (jy ..) k (by rw[Aq];exact hk)) Lq fun dX v w1 s1 x1=>?_);have Ku:=hG.put v;rw[Aq] at Ku;refine ih h3 Ku (fun i o hm=>hd i o (jx _ hm)) r2 s1 fun nY a2 w2 s2 x2 f2=>hK nY a2 w2 s2 (x1.trans x2) fun t ht=>?_;obtain⟨t1,t2⟩:=lA ht;rw[f2 t t2,cV (by rw[←Aq];exact t1)]
     ·rename_i j want hg;dsimp only at hr;split at hr
      ·exact absurd hr (by intro k;cases k)
      rename_i dj JN;split at hr
      case h_2=>exact absurd hr (by intro k;cases k)
      rename_i c ip pk rest' pW mj;change Bool at c;cases hh:fV dj (under j want [] ((i,o')::r)).1 with
      | true=>rw[hh] at hr;exact absurd hr (by intro k;cases k)
      | false =>
      rw[hh] at hr;simp only[eD] at hr;split at hr
      ·exact absurd hr (by intro k;cases k)
      rename_i Lr;have Hh:a.tmps[dj]?=some (.bool c):=rB h pW;obtain⟨l1,l2,e1,I1,I2⟩:=yJ (j:=j) (want:=want) (inner:=[]) (ic.cons h1 h2 h3);obtain⟨d1,d2⟩:=Ay (p:=fun d=>∀k,d=some k→k<N) (j:=j) (want:=want) (inner:=[]) hd;have Gy:∀d,fV d ((i,o')::r)=(fV d (under j want [] ((i,o')::r)).1||fV d (under j want [] ((i,o')::r)).2):=fun d=>Ax;have IB:=fun(yM:c≠want)=>Av (P:=P) (w:=w) (Q:=Q) JN yM (ic.cons h1 h2 h3) Hh hh (fun k hk=>by cases hk);generalize hg1:(under j want [] ((i,o')::r)).1=g1 at *;rw[mj] at I2 d2 Gy;cases I2 with
      | @cons _ CQ _ _ Jd p1 p2 p3 =>
      have Hi:pk.dst=CQ.dst:=by rcases p2 with rfl|⟨_,_,_,rfl⟩<;>rfl
      have JO:pk.op=CQ.op:=by rcases p2 with rfl|⟨_,_,_,rfl⟩<;>rfl
      rw[e1,mC];have hsplit:∀{d},fV d ((i,o')::r)=false→fV d g1=false∧CQ.dst≠some d∧fV d rest'=false:=by
       intro d hd0;rw[Gy] at hd0;simp only[uZ] at hd0;obtain⟨q1,q2⟩:=lA hd0.2;exact⟨hd0.1,by rw[←Hi];exact q1,q2⟩
      have tail:∀(dX:Gh) (τ σ2:St) (a1:Act) (w1:World) (v:au) (b:Bool),bP B N dX τ a1 w1→Fr g1 a a1→c=b→lO τ pk dj b=some v →
        (∀y,br dX τ.mem w1 v .val [y]→∃nY,bP B N nY σ2 (a1.put CQ.dst y) w1∧Ext B γ σ.mem w nY σ2.mem w1)→(gQ cx nb bf inl all n rest' σ2).run=some σ' →
        wpList P all Q (CQ::Jd++rest) a1 w1:=by
       intro dX τ σ2 a1 w1 v b s1 f1 hcb vY hy hev;have Kv:yK all G a1 ((ip,pk)::rest'):=fun g IC=>by
        obtain⟨Je,k1,k2,k3⟩:=hG g IC;obtain⟨q1,q2,q3⟩:=hsplit k3;refine⟨Je,k1,by rw[f1 Je q1];exact k2,?_⟩;simp only[fV,uZ];refine⟨?_,q3⟩;cases hpk:pk.dst with
        | none=>rfl
        | some k=>exact ec fun e=>q2 (by rw[←Hi,hpk,e])
       have hwp:Region.wanted CQ (yielded all a1.tmps)=true:=by
        rcases p2 with rfl|⟨g,k1,k2,k3⟩
        ·unfold Region.wanted;rw[Lr]
        ·exact Kv.wanted k1 k2
       show wpList P all Q (CQ::(Jd++rest)) a1 w1
       unfold wpList;rw[hwp];simp only[iP];have JP:lO τ CQ dj b=some v:=by rw[←vY];unfold lO;rw[JO]
       refine .inl (Aw s1 (by rw[f1 dj hh];exact Hh) hcb JP fun y I6=>?_);obtain⟨nY,s2,x2⟩:=hy y I6;have Kw:=Kv.put y;rw[Hi] at Kw;refine ih p3 Kw (fun i o hm=>d2 i o (jx _ hm)) hev s2 fun JQ a3 w3 s3 x3 f3=>hK JQ a3 w3 s3 (x2.trans x3) fun t ht=>?_;obtain⟨q1,q2,q3⟩:=hsplit ht;rw[f3 t q3,cV q2,f1 t q1]
      have Gz:∀(τ:St) (d:Option Nat) (v:au),(τ.aD d v).mem=τ.mem:=fun τ d v=>by cases d<;>rfl
      have hpk:∀k,CQ.dst=some k→k<N:=fun k hk=>d2 ip pk (jy ..) k (by rw[Hi];exact hk);have Kx:c=want→yK all ((j,want)::G) a g1:=fun yM g IC=>by
       rcases List.mem_cons.1 IC with rfl|IC
       ·exact⟨dj,JN,by rw[←yM];exact Hh,hh⟩
       ·obtain⟨Je,k1,k2,k3⟩:=hG g IC;exact⟨Je,k1,k2,(hsplit k3).1⟩
      have dB:c≠want→(∀a1,Fr g1 a a1→a1.tmps.size=a.tmps.size→a1.defers=a.defers→wpList P all Q (CQ::Jd++rest) a1 w)→wpList P all Q (l1++(CQ::Jd++rest)) a w:=by
       intro yM hk;obtain⟨m1,m2,q1,q2,q3⟩:=IB yM;rw[e1] at q1;obtain⟨rfl,rfl⟩:=List.append_inj q1 (by rw[q2,I1.length]);exact q3 _ hk
      cases hin:sF cx g1 with
      | true =>
        rw[hin] at hr;simp only[gD] at hr;obtain⟨σ2,hn,hev⟩:=bind_some hr;rcases yN (c:=c) (want:=want) hn with ⟨yM,hn⟩|⟨yM,IA,hn⟩
        ·obtain⟨τ,t1,t2⟩:=bind_some hn;split at t2
         ·rename_i v vY;obtain rfl:=aq t2;refine ih I1 (Kx yM) d1 t1 h fun dX a1 w1 s1 x1 f1=>tail dX τ _ a1 w1 v want s1 f1 yM vY (fun y hy=>⟨dX,?_,?_⟩) hev
          ·rw[Hi];exact s1.lf hpk hy
          ·rw[Gz];exact x1
         ·exact absurd t2 (by intro k;cases k)
        ·split at hn
         ·rename_i v vY;obtain rfl:=aq hn;refine dB yM fun a1 f1 f2 f3=>tail γ (σ.undef g1) _ a1 w v (!want) (h.undef f1 (f2.trans h.size) (f3.trans h.defers)) f1 IA vY (fun y hy=>⟨γ,?_,?_⟩) hev
          ·rw[Hi];exact(h.undef f1 (f2.trans h.size) (f3.trans h.defers)).lf hpk hy
          ·rw[Gz,jw];exact Ext.refl _ _ _ _
         ·exact absurd hn (by intro k;cases k)
      | false =>
        rw[hin] at hr;simp only[eD] at hr;split at hr
        case h_2=>exact absurd hr (by intro k;cases k)
        rename_i t dp hT Ls;rw[Tree.mF] at hr;obtain⟨x,hn,hev⟩:=Option.bind_eq_some_iff.1 hr;have Fq:CQ.dst=some dp:=by rw[←Hi];exact Ls
        rcases yN (c:=c) (want:=want) hn with ⟨yM,hn⟩|⟨yM,IA,hn⟩
        ·obtain⟨τ,t1,t2⟩:=bind_some hn;split at t2
         ·rename_i x' vY;obtain rfl:=aq t2;obtain⟨v,hv1,CN⟩:=Option.bind_eq_some_iff.1 vY;refine ih I1 (Kx yM) d1 t1 h.dS fun dX a1 w1 s1 x1 f1=>tail dX τ _ a1 w1 v want s1 f1 yM hv1 (fun y hy=>?_) hev;obtain⟨m1,m2⟩:=h.ok.unlock (xp (pV hkeep n g1 _ τ t1)) s1.ok x1;have hS:bP B N dX σ a w1:=h.go m2 m1;have Lt:=hS.undef f1 s1.size s1.defers;refine⟨dX,?_,?_⟩
          ·rw[Fq];exact Lt.lf (d:=some dp) (fun k hk=>hpk k (by rw[Fq];exact hk)) (Br CN hy)
          ·show Ext B γ σ.mem w dX (σ.undef g1).mem w1
           rw[jw];exact m2
         ·exact absurd t2 (by intro k;cases k)
        ·split at hn
         ·rename_i x' vY;obtain rfl:=aq hn;obtain⟨v,hv1,CN⟩:=Option.bind_eq_some_iff.1 vY;refine dB yM fun a1 f1 f2 f3=>tail γ (σ.undef g1) _ a1 w v (!want) (h.undef f1 (f2.trans h.size) (f3.trans h.defers)) f1 IA hv1 (fun y hy=>⟨γ,?_,?_⟩) hev
          ·rw[Fq];exact(h.undef f1 (f2.trans h.size) (f3.trans h.defers)).lf (d:=some dp) (fun k hk=>hpk k (by rw[Fq];exact hk)) (Br CN hy)
          ·show Ext B γ σ.mem w γ (σ.undef g1).mem w
           rw[jw];exact Ext.refl _ _ _ _
         ·exact absurd hn (by intro k;cases k)
end
end Go.Ge
namespace Go.Ge
open RowKit
section
variable {P:Program} {B:iy} {N:Nat} {γ:Gh} {σ σ':St} {a:Act} {w w':World} {cx:Ctx} {nb:Nat} {bf:List Nat} {inl:Nat→List au→St→Tree (au×St)} {ops:Array Oper}
theorem xq:∀{l:List Oper} {k:Nat},(∀j,l[j]?=ops[k+j]?)→ic ops [] (number k l) l:=by
 intro l;induction l with
 | nil=>intro k _;exact .nil
 | cons o l ih =>
   intro k h;refine .cons ?_ (.inl rfl) (ih fun j=>by have:=h (j+1);simpa [qj,Bi 1 j] using this);have:=h 0;simpa using this.symm
theorem Az:∀{l:List Oper} {k i:Nat} {o:Oper},(i,o)∈number k l→o∈l:=by
 intro l;induction l with
 | nil=>intro k i o h;cases h
 | cons p l ih =>
   intro k i o h;rcases List.mem_cons.1 h with h|h
   ·obtain⟨_,rfl⟩:=bY h;exact jy ..
   ·exact jx _ (ih h)
theorem xu(hc:dy P cx)(cQ:ia P B.G cx)(fD:jY P B.G inl)(hkeep:∀f vals σ v σ',(inl f vals σ).run=some (v,σ')→aH σ σ'){Q:Exit→Act→World→Prop}{id:Nat}
  (hd:∀o∈ops.toList,∀k,o.dst=some k→k<N) (hr:(s5 cx nb bf inl ops σ).run=some σ') (h:bP B N γ σ a w)
  (hK:∀γ' a' w',bP B N γ' σ' a' w'→Ext B γ σ.mem w γ' σ'.mem w'→Fr (number 0 ops.toList) a a'→Q .normal a' w'):(Code.region id ops false).wp P Q a w:=by
 refine wp_region_list ?_;have:=vq (all:=ops) (Q:=Q) (rest:=[]) hc cQ fD hkeep _ (xq (l:=ops.toList) (k:=0) (fun j=>by simp)) (fun g hg=>by cases hg) (fun i o hm=>hd o (Az hm)) hr h
  (fun γ' a' w' s x f=>wpList_nil (hK γ' a' w' s x f))
 simpa using this
end
end Go.Ge
namespace Go.Ge
open RowKit
def dY(p:Nat→Prop)(σ τ:St):Prop:=∀b,τ.mem b=σ.mem b∨(τ.mem b≠none∧p b)
section
variable {p:Nat→Prop} {σ τ ρ:St}
theorem dY.refl(σ:St):dY p σ σ:=fun _=>.inl rfl
theorem dY.DI(h:τ.mem=σ.mem):dY p σ τ:=fun b=>.inl (by rw[h])
theorem dY.trans(h:dY p σ τ)(k:dY p τ ρ):dY p σ ρ:=fun b=>by
 rcases k b with k1|k1
 ·rcases h b with h1|⟨h1,h2⟩
  ·exact .inl (k1.trans h1)
  ·exact .inr ⟨by rw[k1];exact h1,h2⟩
 ·exact .inr k1
theorem dY.aD(σ:St)(d:Option Nat)(v:au):dY p σ (σ.aD d v):=by cases d<;>exact fun _=>.inl rfl
theorem dY.put(σ:St)(d:Nat)(v:au):dY p σ (σ.put d v):=fun _=>.inl rfl
theorem dY.bt{b:Nat}{bx:aR}(h:p b):dY p σ (σ.bt b bx):=fun c=>by
 by_cases e:c=b
 ·subst e;exact .inr ⟨by simp[St.bt],h⟩
 ·exact .inl (by rw[jL,az _ e])
end
def ak(p:Nat→Prop)(σ:St)(T:Tree St):Prop:=∀y,T.run=some y→dY p σ y
section
variable {p:Nat→Prop} {σ:St}
theorem ak.fail:ak p σ .fail:=fun y h=>by cases h
theorem ak.ret{σ':St}(h:dY p σ σ'):ak p σ (.ret σ'):=fun y hy=>by obtain rfl:=aq hy;exact h
theorem ak.bif{c:Bool}{t:Tree St}(h:ak p σ t):ak p σ (bif c then t else .fail):=fun y hy=>h y (ah hy).2
theorem ak.need{c:Bool}{t:Tree St}(h:ak p σ t):ak p σ (.need c t):=fun y hy=>h y (bu hy).2
theorem ak.look{T:Type}{o:Option T}{k:T→Tree St}(h:∀x,ak p σ (k x)):ak p σ (.look o k):=fun y hy=>by obtain⟨x,_,h2⟩:=bg hy;exact h x y h2
theorem ak.node{c:Bool}{t e:Tree St}(h:ak p σ t)(k:ak p σ e):ak p σ (.node c t e):=fun y hy=>by
 have:=dn hy;cases c with
 | true=>exact h y this
 | false=>exact k y this
theorem ak.bind{α:Type}{t:Tree α}{f:α→Tree St}(h:∀x,t.run=some x→ak p σ (f x)):ak p σ (t.bind f):=fun y hy=>by obtain⟨x,h1,h2⟩:=bind_some hy;exact h x h1 y h2
theorem ak.ay{b:Nat}{val:au}{tid:TypeId}{buf:Bool}{d:Nat}{v:Nat→au}(h:p b):ak p σ (σ.ay b val tid buf fun ag σ=>.ret (σ.put d (v ag))):=fun y hy=>by
 obtain⟨ag,k1,k2⟩:=fP hy;obtain rfl:=aq k2;exact(dY.bt h).trans (dY.put _ _ _)
theorem uh{σ σ':St}{b:Nat}(hp:∀b,σ.mem b≠none→p b)(h:freeze σ b=some σ'):dY p σ σ':=by
 unfold freeze at h;split at h
 ·rename_i bx hb;cases hro:bx.ro with
  | true=>simp only[hro,gD,iX] at h;rw[←h];exact dY.refl _
  | false =>
    cases hlk:bx.lk with
    | true=>simp[hro,hlk] at h
    | false =>
      simp only[hro,hlk,eD,iX] at h;rw[←h];exact dY.bt (hp b (by rw[hb];simp))
 ·cases h
def Dom(p:Nat→Prop)(σ σ':St):Prop:=(∀b,σ.mem b≠none→p b)→dY p σ σ'∧∀b,σ'.mem b≠none→p b
theorem Dom.refl(σ:St):Dom p σ σ:=fun h=>⟨dY.refl _,h⟩
theorem Dom.trans{σ τ ρ:St}(h:Dom p σ τ)(k:Dom p τ ρ):Dom p σ ρ:=fun hp=>by
 obtain⟨h1,h2⟩:=h hp;obtain⟨k1,k2⟩:=k h2;exact⟨h1.trans k1,k2⟩
theorem Dom.of{σ σ':St}(h:(∀b,σ.mem b≠none→p b)→dY p σ σ'):Dom p σ σ':=fun hp=>by
 refine⟨h hp,fun b hb=>?_⟩;rcases h hp b with k|k
 ·exact hp b (by rw[←k];exact hb)
 ·exact k.2
theorem yO:∀{v:au} {σ σ':St},dA σ v=some σ'→Dom p σ σ':=by
 intro v;induction v with
 | mix p q lq kO =>
   intro σ σ' h;obtain⟨σ1,h1,h2⟩:=jX h;exact(lq h1).trans (kO h2)
 | whole b ag=>intro σ σ' h;exact Dom.of fun hp=>uh hp h
 | part b ag lo n=>intro σ σ' h;exact Dom.of fun hp=>uh hp h
 | _=>intro σ σ' h;obtain rfl:=aq h;exact Dom.refl _
theorem lB{t:Ty}{x:t.den}{v:au}{σ σ':St}(h:kU σ t v=some (x,σ')):Dom p σ σ':=by
 unfold kU at h;split at h
 ·split at h
  ·obtain⟨_,rfl⟩:=bY (aq h);exact Dom.refl _
  ·cases h
 ·split at h
  ·rename_i y σ1 hl hf;obtain⟨_,rfl⟩:=bY (aq h);exact yO hf
  ·cases h
theorem mW:∀{A:Ty} {x:A.den} {vs:List au} {σ σ':St},eX σ A vs=some (x,σ')→Dom p σ σ':=by
 intro A;induction A with
 | pair t r zS ihr =>
   intro x vs σ σ' hl;cases vs with
   | nil=>cases hl
   | cons v vs =>
     simp only[eX] at hl;split at hl
     ·rename_i p σ1 hp;split at hl
      ·rename_i q σ2 hq;obtain⟨_,rfl⟩:=bY (aq hl);exact(lB hp).trans (ihr hq)
      ·cases hl
     ·cases hl
 | unit =>
   intro x vs σ σ' hl;cases vs with
   | nil=>obtain⟨_,rfl⟩:=bY (aq hl);exact Dom.refl _
   | cons v vs=>cases hl
 | _=>intro x vs σ σ' hl;cases vs<;>cases hl
theorem uj{t:Ty}:∀{parts:List (Nat×Operand)} {x x':t.den} {σ σ':St},dx σ t x parts=some (x',σ')→Dom p σ σ':=by
 intro parts;induction parts with
 | nil=>intro x x' σ σ' h;obtain⟨_,rfl⟩:=bY (aq h);exact Dom.refl _
 | cons p r ih =>
   obtain⟨k,o⟩:=p;intro x x' σ σ' h;simp only[dx] at h;split at h
   ·split at h
    ·rename_i hg;split at h
     ·exact(lB hg).trans (ih h)
     ·cases h
    ·cases h
   ·cases h
theorem n8{e:Ty}:∀{parts:List (Nat×Operand)} {l l':List e.den} {σ σ':St},dh σ e l parts=some (l',σ')→Dom p σ σ':=by
 intro parts;induction parts with
 | nil=>intro x x' σ σ' h;obtain⟨_,rfl⟩:=bY (aq h);exact Dom.refl _
 | cons p r ih =>
   obtain⟨k,o⟩:=p;intro l l' σ σ' h;simp only[dh] at h;split at h
   ·rename_i hg;cases hlt:Nat.blt k l.length with
    | false=>rw[hlt] at h;cases h
    | true=>rw[hlt] at h;exact(lB hg).trans (ih h)
   ·cases h
theorem rC{b ag:Nat}{p':List oz}{fit:au→Bool}{u:au}{σ σ':St}(hr:(storeAt b ag p' fit u σ).run=some σ'):Dom p σ σ':=Dom.of fun hp=>by
 unfold storeAt at hr;split at hr
 case h_2=>exact absurd hr (by intro k;cases k)
 rename_i bx hb;obtain⟨hc,hr2⟩:=ah hr;obtain⟨old,hn,eu⟩:=bind_some hr2;obtain⟨hfit,fS⟩:=ah eu;obtain⟨c,hs,u7⟩:=bind_some fS;obtain rfl:=aq u7;exact dY.bt (hp b (by rw[hb];simp))
theorem yP{b ag:Nat}{p':List oz}{n:Nat}{u:au}{σ σ':St}(hr:(iE b ag p' n u σ).run=some σ'):Dom p σ σ':=Dom.of fun hp=>by
 unfold iE at hr;split at hr
 case h_2=>exact absurd hr (by intro k;cases k)
 rename_i bx hb;obtain⟨hc,hr2⟩:=ah hr;obtain⟨old,hn,eu⟩:=bind_some hr2;obtain⟨hfit,fS⟩:=ah eu;obtain⟨c,hs,u7⟩:=bind_some fS;obtain⟨JA,Ip⟩:=ah u7;obtain rfl:=aq Ip;exact dY.bt (hp b (by rw[hb];simp))
theorem vt{cx:Ctx}{bf:List Nat}{ty:TypeId}{x y:au}{σ σ':St}(hr:(fh cx bf ty x y σ).run=some σ'):Dom p σ σ':=by
 unfold fh at hr;split at hr
 case h_2=>exact absurd hr (by intro k;cases k)
 split at hr
 case h_2=>exact absurd hr (by intro k;cases k)
 obtain⟨aE,hr2⟩:=ah hr;obtain⟨old,hn,eu⟩:=bind_some hr2;split at eu
 ·rename_i u _;obtain⟨hT,fS⟩:=ah eu;cases hq:bN bf 8000000&&Dg u y with
  | true=>rw[hq] at fS;exact yP fS
  | false =>
  rw[hq] at fS;replace fS:(match kU σ u y with|some (y,σ)=>storeAt _ _ _ (BW u) (.data u y) σ|none=>.fail).run=some σ':=fS;split at fS
  ·rename_i hg;exact(lB hg).trans (rC fS)
  ·exact absurd fS (by intro k;cases k)
 ·obtain⟨hT,fS⟩:=ah eu;exact rC fS
theorem mX{cx:Ctx}{nb:Nat}{d:Option Nat}{ty:TypeId}{s x:au}{σ σ':St}(hn:∀k,d=some k→p (nb+k))(hp:∀b,σ.mem b≠none→p b)(hr:(dM cx nb d ty s x σ).run=some σ'):dY p σ σ':=by
 unfold dM at hr;split at hr
 case h_2=>exact absurd hr (by intro k;cases k)
 split at hr
 case h_2=>exact absurd hr (by intro k;cases k)
 split at hr
 ·obtain⟨hf,hr2⟩:=bu hr;exact ak.ay (hn _ rfl) _ hr2
 ·split at hr
  case h_2=>exact absurd hr (by intro k;cases k)
  rename_i bx l hb hl;obtain⟨hlk,eT⟩:=lU hr;obtain⟨hf,hr2⟩:=bu eT;obtain rfl:=aq hr2;exact(dY.bt (hp _ (by rw[hb];simp))).trans (dY.put _ _ _)
 ·exact absurd hr (by intro k;cases k)
theorem AA{b:Nat}{val:au}{tid:TypeId}{buf:Bool}{d:Nat}{v:Nat→au}{σ σ':St}(h:p b)(hr:(σ.ay b val tid buf fun ag σ=>.ret (σ.put d (v ag))).run=some σ'):dY p σ σ':=ak.ay h _ hr
theorem vu{nb:Nat}{e:Ty}{d:Option Nat}{args:List au}{σ σ':St}(hn:∀k,d=some k→p (nb+k))(hp:∀b,σ.mem b≠none→p b)(hr:(fy nb e d args σ).run=some σ'):dY p σ σ':=by
 unfold fy at hr;split at hr
 case h_2=>cases hr
 split at hr
 case h_2=>cases hr
 rename_i hg;obtain⟨_,hr⟩:=ah hr;obtain⟨_,hr⟩:=bu hr;exact((lB hg) hp).1.trans (AA (hn _ rfl) hr)
theorem yQ{e A:Ty}{res:Bool}{spec:List e.den→A.den→Option (List e.den)}{d:Option Nat}{args:List au}{σ σ':St}(hp:∀b,σ.mem b≠none→p b)(hr:(iF e A res spec d args σ).run=some σ'):dY p σ σ':=by
 unfold iF at hr;split at hr
 case h_2=>cases hr
 split at hr
 case h_2=>cases hr
 rename_i x σ1 hg;split at hr
 case h_2=>cases hr
 rename_i b ag bx l Gw;obtain⟨l',_,hr⟩:=bg hr;obtain⟨hb,_⟩:=jZ Gw;obtain⟨g1,g2⟩:=(mW hg) hp;have key:∀eg,dY p σ1 (σ1.bt b eg):=fun eg=>dY.bt (g2 b (by rw[hb];simp));cases res with
 | true =>
   cases d with
   | none=>cases hr
   | some k=>obtain rfl:=aq hr;exact(g1.trans (key _)).trans (dY.put _ _ _)
 | false =>
   cases d with
   | none=>obtain⟨_,hr⟩:=ah hr;obtain rfl:=aq hr;exact(g1.trans (key _)).trans (dY.aD _ none _)
   | some k=>obtain⟨_,hr⟩:=ah hr;obtain rfl:=aq hr;exact(g1.trans (key _)).trans (dY.aD _ (some _) _)
end
section
variable {cx:Ctx} {nb:Nat} {bf:List Nat} {d:Option Nat} {σ:St} {p:Nat→Prop}
theorem xw{c a b:au}:ak p σ (gm d c a b σ):=by unfold gm;(repeat' (first|exact ak.fail|exact ak.ret (dY.aD _ _ _)|exact ak.ret (dY.put _ _ _)|exact ak.ay (by assumption)|refine ak.bif ?_|refine ak.need ?_|refine ak.look fun _=>?_|refine ak.node ?_ ?_|refine ak.bind fun _ _=>?_|split))
theorem xy{ty:TypeId}{a:au}:ak p σ (fc cx d ty a σ):=by unfold fc;(repeat' (first|exact ak.fail|exact ak.ret (dY.aD _ _ _)|exact ak.ret (dY.put _ _ _)|exact ak.ay (by assumption)|refine ak.bif ?_|refine ak.need ?_|refine ak.look fun _=>?_|refine ak.node ?_ ?_|refine ak.bind fun _ _=>?_|split))
theorem vv{ty:TypeId}{x:au}{lo hi:Option Operand}:ak p σ (fo cx d ty x lo hi σ):=by unfold fo;(repeat' (first|exact ak.fail|exact ak.ret (dY.aD _ _ _)|exact ak.ret (dY.put _ _ _)|exact ak.ay (by assumption)|refine ak.bif ?_|refine ak.need ?_|refine ak.look fun _=>?_|refine ak.node ?_ ?_|refine ak.bind fun _ _=>?_|split))
theorem Cd{b ag:Nat}{i:Int}:∀{m k:Nat},ak p σ (sX d b ag σ i m k):=by
 intro m;induction m with
 | zero=>intro k;exact ak.fail
 | succ m ih=>intro k;exact ak.node (ak.ret (dY.aD _ _ _)) ih
theorem j8{ty:TypeId}{x:au}{i:Int}:ak p σ (cu cx d ty x i σ):=by
 unfold cu;split
 case h_6=>split
           ·exact ak.bif Cd
           ·exact ak.fail
 all_goals (repeat' (first|exact ak.fail|exact ak.ret (dY.aD _ _ _)|exact ak.ret (dY.put _ _ _)|exact ak.ay (by assumption)|refine ak.bif ?_|refine ak.need ?_|refine ak.look fun _=>?_|refine ak.node ?_ ?_|refine ak.bind fun _ _=>?_|split))
theorem vw{ty:TypeId}{x:au}{i:Int}:ak p σ (fq cx d ty x i σ):=by
 unfold fq;split
 ·refine ak.bif ?_;split
  ·exact ak.bif (ak.ret (dY.aD _ _ _))
  ·exact ak.fail
 ·exact j8
theorem vz{ty:TypeId}{x:au}{i:Int}:ak p σ (fu cx d ty x i σ):=by unfold fu;(repeat' (first|exact ak.fail|exact ak.ret (dY.aD _ _ _)|exact ak.ret (dY.put _ _ _)|exact ak.ay (by assumption)|refine ak.bif ?_|refine ak.need ?_|refine ak.look fun _=>?_|refine ak.node ?_ ?_|refine ak.bind fun _ _=>?_|split))
theorem pX{s:TypeId}{x:au}{k:Nat}:ak p σ (cF cx d s x k σ):=by unfold cF;(repeat' (first|exact ak.fail|exact ak.ret (dY.aD _ _ _)|exact ak.ret (dY.put _ _ _)|exact ak.ay (by assumption)|refine ak.bif ?_|refine ak.need ?_|refine ak.look fun _=>?_|refine ak.node ?_ ?_|refine ak.bind fun _ _=>?_|split))
theorem mY{ty:TypeId}{v:au}(hn:∀k,d=some k→p (nb+k)):ak p σ (eF cx nb bf d ty v σ):=by
 unfold eF;split
 ·(repeat' (first|exact ak.fail|exact ak.ret (dY.aD _ _ _)|exact ak.ret (dY.put _ _ _)|exact ak.ay (by assumption)|refine ak.bif ?_|refine ak.need ?_|refine ak.look fun _=>?_|refine ak.node ?_ ?_|refine ak.bind fun _ _=>?_|split))
 ·split
  ·rename_i k e _;cases bN bf k with
   | true=>exact ak.ay (hn _ rfl)
   | false=>exact ak.ret (dY.put _ _ _)
  ·exact ak.ret (dY.aD _ _ _)
 ·exact ak.ret (dY.aD _ _ _)
theorem su{s t:TypeId}{x:au}(hn:∀k,d=some k→p (nb+k)):ak p σ (dI cx nb d s t x σ):=by
 unfold dI;split
 ·(repeat' (first|exact ak.fail|exact ak.ret (dY.aD _ _ _)|exact ak.ret (dY.put _ _ _)|exact ak.ay (by assumption)|refine ak.bif ?_|refine ak.need ?_|refine ak.look fun _=>?_|refine ak.node ?_ ?_|refine ak.bind fun _ _=>?_|split))
 ·(repeat' (first|exact ak.fail|exact ak.ret (dY.aD _ _ _)|exact ak.ret (dY.put _ _ _)|exact ak.ay (by assumption)|refine ak.bif ?_|refine ak.need ?_|refine ak.look fun _=>?_|refine ak.node ?_ ?_|refine ak.bind fun _ _=>?_|split))
 ·split
  ·exact ak.need (ak.ay (hn _ rfl))
  ·exact ak.fail
 ·(repeat' (first|exact ak.fail|exact ak.ret (dY.aD _ _ _)|exact ak.ret (dY.put _ _ _)|exact ak.ay (by assumption)|refine ak.bif ?_|refine ak.need ?_|refine ak.look fun _=>?_|refine ak.node ?_ ?_|refine ak.bind fun _ _=>?_|split))
 ·(repeat' (first|exact ak.fail|exact ak.ret (dY.aD _ _ _)|exact ak.ret (dY.put _ _ _)|exact ak.ay (by assumption)|refine ak.bif ?_|refine ak.need ?_|refine ak.look fun _=>?_|refine ak.node ?_ ?_|refine ak.bind fun _ _=>?_|split))
theorem vZ{mem:Nat→Option aR}:∀{o:OT} {v:au} {u:o.den} {N M:List (Nat×Nat)},bV mem o v=some (u,N,M)→∀b∈aK N M,mem b≠none:=by
 intro o;induction o with
 | dat t =>
   intro v u N M h;unfold bV at h;split at h
   ·cases h;intro b hb;cases hb
   ·cases h
 | buf e bX =>
   intro v u N M h;unfold bV at h;split at h
   case h_2=>cases h
   rename_i b ag;split at h
   case h_2=>cases h
   rename_i bx hb;cases hcd:(Nat.beq bx.ag ag&&bx.buf&&!bx.lk&&!bx.ro&&Nat.beq bx.tid bX&&Nat.blt 0 e.size) with
   | false=>rw[hcd] at h;cases h
   | true =>
     rw[hcd] at h;simp only[gD] at h;split at h
     case h_2=>cases h
     split at h
     case h_2=>cases h
     cases h;intro c hc;have:c=b:=by simpa [aK] using hc
     subst this;rw[hb];simp
 | ref tid o ih =>
   intro v u N M h;unfold bV at h;split at h
   case h_2=>cases h
   rename_i b ag;split at h
   case h_2=>cases h
   rename_i bx hb;cases hcd:(Nat.beq bx.ag ag&&!bx.buf&&!bx.lk&&!bx.ro&&Nat.beq bx.tid tid) with
   | false=>rw[hcd] at h;cases h
   | true =>
     rw[hcd] at h;simp only[gD] at h;split at h
     case h_2=>cases h
     rename_i u1 N1 M1 hr;cases h;intro c hc;unfold aK at hc;simp only[jj,zO,wG] at hc;rcases hc with rfl|hc
     ·rw[hb];simp
     ·exact ih hr c hc
 | pair p q lq kO =>
   intro v u N M h;unfold bV at h;split at h
   case h_2=>cases h
   split at h
   case h_2=>cases h
   rename_i x N1 M1 y N2 M2 h1 h2;cases h;intro c hc;unfold aK at hc;simp only[nN,xY] at hc;rcases hc with (hc|hc)|(hc|hc)
   ·exact lq h1 c (oQ _ hc)
   ·exact kO h2 c (oQ _ hc)
   ·exact lq h1 c (nU _ hc)
   ·exact kO h2 c (nU _ hc)
 | unit =>
   intro v u N M h;unfold bV at h;split at h
   case h_2=>cases h
   cases h;intro b hb;cases hb
theorem yR{σ:St}:∀{ps:List Bool} {A:Ty} {U:OT} {vs:List au} {x:A.den} {u:U.den} {N M:List (Nat×Nat)},dm σ ps A U vs=some (x,u,N,M)→∀b∈aK N M,σ.mem b≠none:=by
 intro ps;induction ps with
 | nil =>
   intro A U vs x u N M h;cases A<;>first|(cases h;done)|skip
   cases U<;>first|(cases h;done)|skip
   cases vs with
   | cons v r=>cases h
   | nil=>cases h;intro b hb;cases hb
 | cons q ps ih =>
   intro A U vs x u N M h;cases q with
   | false =>
     cases A<;>first|(cases h;done)|skip
     cases vs with
     | nil=>cases h
     | cons v r =>
       simp only[dm] at h;split at h
       ·rename_i h2;cases h;exact ih h2
       ·cases h
   | true =>
     cases U<;>first|(cases h;done)|skip
     rename_i o U;cases o<;>first|(cases h;done)|skip
     cases vs with
     | nil=>cases h
     | cons v r =>
       simp only[dm] at h;split at h
       ·rename_i x1 N1 M1 y1 u1 N2 M2 h1 h2;cases h;intro c hc;unfold aK at hc;simp only[nN,xY] at hc;rcases hc with (hc|hc)|(hc|hc)
        ·exact vZ h1 c (oQ _ hc)
        ·exact ih h2 c (oQ _ hc)
        ·exact vZ h1 c (nU _ hc)
        ·exact ih h2 c (nU _ hc)
       ·cases h
theorem yS{ps:List Bool}{A:Ty}{U:OT}{vs:List au}{x:A.den}{u y:U.den}{N M:List (Nat×Nat)}(h:dm σ ps A U vs=some (x,u,N,M))(hp:∀b,σ.mem b≠none→p b):dY p σ (eY U y N M σ):=fun b=>by
 rw[dJ];cases hv:dZ U y N (M.map fun p=>(p.1,p.2+1)) b with
 | none=>exact .inl rfl
 | some v=>exact .inr ⟨by simp,hp b (yR h b (by have:=gB hv;rwa [jN] at this))⟩
theorem AB{o:Oper}{ge:Option Nat}(hge:gp o σ=ge)(h3:cls cx ge o≠3)(hn:cls cx ge o≠0→∀k,o.dst=some k→p (nb+k))(hp:cls cx ge o≠0→cls cx ge o≠1→∀b,σ.mem b≠none→p b):ak p σ (gP cx nb bf oV o σ):=by
 unfold gP;split
 case h_1 x ho=>exact mY (hn (by simp[cls,ho]))
 case h_2 x ho=>exact mY (hn (by simp[cls,ho]))
 case h_3=>exact xw
 case h_4 e ho =>
  split
  ·rename_i k t hk hT;have h0:cls cx ge o≠0:=by
    cases t<;>simp[cls,ho,hT]
   unfold ju;split
   ·exact absurd (by simp[cls,ho,hT]) h3
   ·exact ak.ay (hn h0 _ (by assumption))
  ·rename_i hT;split
   ·rename_i hO;exact absurd (by simp[cls,ho,hT,hO]) h3
   ·rename_i hO;exact ak.bif (ak.ay (hn (by simp[cls,ho,hT,hO]) _ (by assumption)))
  ·exact ak.fail
 case h_5 e x ho =>
  unfold oU;split
  ·exact ak.fail
  ·exact ak.fail
  ·split
   ·rename_i hO;exact absurd (by simp[cls,ho,hO]) h3
   ·rename_i hO;exact ak.ay (hn (by simp[cls,ho,hO]) _ (by assumption))
  ·exact ak.fail
 case h_6 t ps ho =>
  have hp':=hp (by simp[cls,ho]) (by simp[cls,ho]);split
  ·split
   ·rename_i hb;exact ak.ret ((uj hb hp').1.trans (dY.aD _ _ _))
   ·exact ak.fail
  ·split
   ·rename_i hb;exact ak.ret ((n8 hb hp').1.trans (dY.aD _ _ _))
   ·exact ak.fail
  ·(repeat' (first|exact ak.fail|exact ak.ret (dY.aD _ _ _)|exact ak.ret (dY.put _ _ _)|exact ak.ay (by assumption)|refine ak.bif ?_|refine ak.need ?_|refine ak.look fun _=>?_|refine ak.node ?_ ?_|refine ak.bind fun _ _=>?_|split))
  ·exact ak.fail
 case h_7 t n ps ho =>
  have hp':=hp (by simp[cls,ho]) (by simp[cls,ho]);split
  ·split
   ·rename_i k aQ hparts;exact ak.ay (hn (by simp[cls,ho]) k (oI aQ).1)
   ·refine ak.bif ?_;split
    ·rename_i hb;exact ak.ret ((n8 hb hp').1.trans (dY.aD _ _ _))
    ·exact ak.fail
  ·unfold nB;split
   ·exact ak.bif (ak.ay (hn (by simp[cls,ho]) _ (by assumption)))
   ·exact ak.fail
  ·exact ak.fail
 case h_8=>exact xy
 case h_9 t a x ho =>
  have hp':=hp (by simp[cls,ho]) (by simp[cls,ho]);split
  ·exact fun y hy=>(vt hy hp').1
  ·exact ak.fail
 case h_10=>(repeat' (first|exact ak.fail|exact ak.ret (dY.aD _ _ _)|exact ak.ret (dY.put _ _ _)|exact ak.ay (by assumption)|refine ak.bif ?_|refine ak.need ?_|refine ak.look fun _=>?_|refine ak.node ?_ ?_|refine ak.bind fun _ _=>?_|split))
 case h_11=>(repeat' (first|exact ak.fail|exact ak.ret (dY.aD _ _ _)|exact ak.ret (dY.put _ _ _)|exact ak.ay (by assumption)|refine ak.bif ?_|refine ak.need ?_|refine ak.look fun _=>?_|refine ak.node ?_ ?_|refine ak.bind fun _ _=>?_|split))
 case h_12=>(repeat' (first|exact ak.fail|exact ak.ret (dY.aD _ _ _)|exact ak.ret (dY.put _ _ _)|exact ak.ay (by assumption)|refine ak.bif ?_|refine ak.need ?_|refine ak.look fun _=>?_|refine ak.node ?_ ?_|refine ak.bind fun _ _=>?_|split))
 case h_13 s t x ho=>exact su (hn (by simp[cls,ho]))
 case h_14=>(repeat' (first|exact ak.fail|exact ak.ret (dY.aD _ _ _)|exact ak.ret (dY.put _ _ _)|exact ak.ay (by assumption)|refine ak.bif ?_|refine ak.need ?_|refine ak.look fun _=>?_|refine ak.node ?_ ?_|refine ak.bind fun _ _=>?_|split))
 case h_15=>exact vv
 case h_16=>exact pX
 case h_17=>(repeat' (first|exact ak.fail|exact ak.ret (dY.aD _ _ _)|exact ak.ret (dY.put _ _ _)|exact ak.ay (by assumption)|refine ak.bif ?_|refine ak.need ?_|refine ak.look fun _=>?_|refine ak.node ?_ ?_|refine ak.bind fun _ _=>?_|split))
 case h_18=>split
            ·cases bN bf 5000000 with
             | true=>exact vw
             | false=>exact j8
            ·exact ak.fail
 case h_19=>split
            ·exact vz
            ·exact ak.fail
 case h_20 t l c ho =>
  split
  ·exact ak.need (ak.need (ak.ay (hn (by simp[cls,ho]) _ (by assumption))))
  ·exact ak.fail
 case h_21=>(repeat' (first|exact ak.fail|exact ak.ret (dY.aD _ _ _)|exact ak.ret (dY.put _ _ _)|exact ak.ay (by assumption)|refine ak.bif ?_|refine ak.need ?_|refine ak.look fun _=>?_|refine ak.node ?_ ?_|refine ak.bind fun _ _=>?_|split))
 case h_22 c ho =>
  unfold jD;split
  ·rename_i b hb;split
   ·(repeat' (first|exact ak.fail|exact ak.ret (dY.aD _ _ _)|exact ak.ret (dY.put _ _ _)|exact ak.ay (by assumption)|refine ak.bif ?_|refine ak.need ?_|refine ak.look fun _=>?_|refine ak.node ?_ ?_|refine ak.bind fun _ _=>?_|split))
   ·have h1:cls cx ge o≠0:=by simp[cls,ho,hb]
    have h2:cls cx ge o≠1:=by simp[cls,ho,hb]
    split
    ·exact fun y hy=>mX (hn h1) (hp h1 h2) hy
    ·exact fun y hy=>mX (hn h1) (hp h1 h2) hy
    ·exact ak.fail
   ·exact absurd (by simp[cls,ho,hb]) h3
   ·exact absurd (by simp[cls,ho,hb]) h3
   ·(repeat' (first|exact ak.fail|exact ak.ret (dY.aD _ _ _)|exact ak.ret (dY.put _ _ _)|exact ak.ay (by assumption)|refine ak.bif ?_|refine ak.need ?_|refine ak.look fun _=>?_|refine ak.node ?_ ?_|refine ak.bind fun _ _=>?_|split))
   ·(repeat' (first|exact ak.fail|exact ak.ret (dY.aD _ _ _)|exact ak.ret (dY.put _ _ _)|exact ak.ay (by assumption)|refine ak.bif ?_|refine ak.need ?_|refine ak.look fun _=>?_|refine ak.node ?_ ?_|refine ak.bind fun _ _=>?_|split))
   ·exact ak.fail
  ·rename_i f hf;split
   ·rename_i g caps hop;refine ak.bif ?_;have heq:ge=some g:=by rw[←hge];simp[gp,ho,hf,hop]
    unfold jk;split
    ·rename_i e he;have key:cls cx ge o=2:=by simp[cls,ho,hf,heq,j7 he]
     have h1:cls cx ge o≠0:=by rw[key];simp
     have h2:cls cx ge o≠1:=by rw[key];simp
     exact fun y hy=>vu (hn h1) (hp h1 h2) hy
    ·rename_i e A r s he;have key:cls cx ge o=2:=by simp[cls,ho,hf,heq,j7 he]
     have h1:cls cx ge o≠0:=by rw[key];simp
     have h2:cls cx ge o≠1:=by rw[key];simp
     exact fun y hy=>yQ (hp h1 h2) hy
    rename_i Lu Lv;unfold kJ;split
    ·rename_i gE cQ;split
     ·split
      ·exact ak.look fun _=>ak.ret (dY.aD _ _ _)
      ·exact ak.fail
     ·rename_i hfl;have key:cls cx ge o=2:=by
       unfold cls;simp only[ho,hf,heq];split
       ·rfl
       ·rfl
       ·simp[cQ,hfl]
      have h1:cls cx ge o≠0:=by rw[key];simp
      have h2:cls cx ge o≠1:=by rw[key];simp
      split
      ·rename_i hx;exact ak.look fun _=>ak.ret ((mW hx (hp h1 h2)).1.trans (dY.aD _ _ _))
      ·exact ak.fail
    ·rename_i cQ;split
     ·rename_i s yT;unfold nA;split
      ·exact absurd (by simp[cls,ho,hf,heq,cQ,yT]) h3
      ·exact absurd (by simp[cls,ho,hf,heq,cQ,yT]) h3
      ·exact ak.fail
     ·rename_i yT;split
      ·rename_i k hk;have key:cls cx ge o=2:=by simp[cls,ho,hf,heq,cQ,yT,hk]
       have h1:cls cx ge o≠0:=by rw[key];simp
       have h2:cls cx ge o≠1:=by rw[key];simp
       split
       ·rename_i x u N M hx;exact ak.bif (ak.look fun y=>ak.ret ((yS hx (hp h1 h2)).trans (dY.aD _ _ _)))
       ·exact fun y hy=>by cases hy
      ·rename_i hk;exact absurd (by simp[cls,ho,hf,heq,cQ,yT,hk]) h3
   ·exact ak.fail
  ·rename_i r name hf;have key:cls cx ge o=2:=by simp[cls,ho,hf]
   have h1:cls cx ge o≠0:=by rw[key];simp
   have h2:cls cx ge o≠1:=by rw[key];simp
   unfold ir;split
   ·split
    ·rename_i hx;exact ak.look fun _=>ak.ret ((mW hx (hp h1 h2)).1.trans (dY.aD _ _ _))
    ·exact ak.fail
   ·exact ak.fail
 case h_23 u x ho =>
  have key:cls cx ge o=2:=by simp[cls,ho]
  have h1:cls cx ge o≠0:=by rw[key];simp
  have h2:cls cx ge o≠1:=by rw[key];simp
  unfold iq;split
  ·split
   ·split
    ·rename_i hx;exact ak.ret ((lB hx (hp h1 h2)).1.trans (dY.aD _ _ _))
    ·exact ak.fail
   ·exact ak.fail
  ·exact ak.fail
 case h_24=>exact ak.fail
end
end Go.Ge
namespace Go.Ge
open RowKit
def Le(σ1 σ2:St):Prop:=∀b bx,σ1.mem b=some bx→σ2.mem b=some bx
structure Rel (σ1 σ2 gq gi:St):Prop where
 s1:gq.slots=σ1.slots
 s2:gi.slots=σ2.slots
 m:∀b,gi.mem b=match gq.mem b with|some x=>some x|none=>σ2.mem b
 nv:∀b,gq.mem b=none→σ1.mem b=none
section
variable {σ1 σ2 gq gi GA HV:St}
theorem Rel.refl(h:Le σ1 σ2):Rel σ1 σ2 σ1 σ2 where
 s1:=rfl
 s2:=rfl
 m:=fun b=>by
  cases hb:σ1.mem b with
  | none=>rfl
  | some x=>exact h b x hb
 nv:=fun _ h=>h
theorem Rel.le(h:Rel σ1 σ2 gq gi):Le gq gi:=fun b bx hb=>by rw[h.m,hb]
theorem Rel.trans(h:Rel σ1 σ2 gq gi)(k:Rel gq gi GA HV):Rel σ1 σ2 GA HV where
 s1:=k.s1.trans h.s1
 s2:=k.s2.trans h.s2
 m:=fun b=>by
  rw[k.m b];cases hb:GA.mem b with
  | some x=>rfl
  | none=>simp only;rw[h.m b,k.nv b hb]
 nv:=fun b hb=>h.nv b (k.nv b hb)
theorem Rel.bt(hle:Le σ1 σ2){b:Nat}{bx:aR}:Rel σ1 σ2 (σ1.bt b bx) (σ2.bt b bx) where
 s1:=rfl
 s2:=rfl
 m:=fun c=>by
  by_cases e:c=b
  ·subst e;simp[St.bt]
  ·rw[jL,jL,az _ e,az _ e];exact(Rel.refl hle).m c
 nv:=fun c hc=>by
  by_cases e:c=b
  ·subst e;simp[St.bt] at hc
  ·rw[jL,az _ e] at hc;exact hc
theorem nG{σ τ:St}(h:τ.slots=σ.slots)(x:Operand):bz τ x=bz σ x:=by
 cases x<;>simp[bz,h]
theorem nH(h:Le σ1 σ2){e:Ty}{v:au}{l:List e.den}(hl:dw e σ1 v=some l):dw e σ2 v=some l:=by
 unfold dw at hl⊢;cases v with
 | whole b ag =>
   simp only at hl⊢;cases hb:σ1.mem b with
   | none=>rw[hb] at hl;cases hl
   | some bx=>rw[hb] at hl;rw[h b bx hb];exact hl
 | part b ag lo n =>
   simp only at hl⊢;cases hb:σ1.mem b with
   | none=>rw[hb] at hl;cases hl
   | some bx=>rw[hb] at hl;rw[h b bx hb];exact hl
 | data u y=>cases u<;>exact hl
 | _=>exact hl
theorem Bs(h:Le σ1 σ2):∀{t:Ty} {v:au} {x:t.den},hY σ1 t v=some x→hY σ2 t v=some x:=by
 intro t;induction t with
 | slice e ih=>intro v x hl;exact nH h hl
 | pair a b eN fE =>
   intro v x hl;cases v with
   | mix p q =>
     obtain⟨y,z,h1,h2,rfl⟩:=pH hl;exact vP (eN h1) (fE h2)
   | data u y=>exact hl
   | _=>cases hl
 | alt u a r eN ihr =>
   intro v x hl;cases v with
   | iQ=>exact(gH hl).2.1 _
   | _=>exact hl
 | _=>intro v x hl;cases v<;>exact hl
theorem gY(h:Le σ1 σ2){b ag:Nat}(hl:live σ1 b ag=true):live σ2 b ag=true:=by
 unfold live at hl⊢;cases hb:σ1.mem b with
 | none=>rw[hb] at hl;cases hl
 | some bx=>rw[hb] at hl;rw[h b bx hb];exact hl
theorem DJ(h:Le σ1 σ2){v:au}{n:Int}(hl:lenOf σ1 v=some n):lenOf σ2 v=some n:=by
 unfold lenOf at hl⊢;cases v with
 | whole b ag =>
   simp only at hl⊢;cases hb:σ1.mem b with
   | none=>rw[hb] at hl;cases hl
   | some bx=>rw[hb] at hl;rw[h b bx hb];exact hl
 | part b ag lo n' =>
   simp only at hl⊢;cases hv:live σ1 b ag with
   | false=>rw[hv] at hl;cases hl
   | true=>rw[hv] at hl;rw[gY h hv];exact hl
 | data u y=>cases u<;>exact hl
 | _=>exact hl
theorem Ce(h:Le σ1 σ2){e:Ty}{v:au}{l:List e.den}(hl:jC e σ1 v=some l):jC e σ2 v=some l:=by
 unfold jC at hl⊢;split at hl
 ·exact hl
 ·exact nH h hl
theorem uk(h:Le σ1 σ2){b ag:Nat}{r:Ty×Int}(hl:lK σ1 b ag=some r):lK σ2 b ag=some r:=by
 unfold lK at hl⊢;cases hb:σ1.mem b with
 | none=>rw[hb] at hl;cases hl
 | some bx=>rw[hb] at hl;rw[h b bx hb];exact hl
theorem v7(h:Le σ1 σ2){b:Nat}(hf:freeze σ1 b=some gq):∃gi,freeze σ2 b=some gi∧Rel σ1 σ2 gq gi:=by
 unfold freeze at hf⊢;cases hb:σ1.mem b with
 | none=>rw[hb] at hf;cases hf
 | some bx =>
   rw[hb] at hf;rw[h b bx hb];simp only at hf⊢;cases hro:bx.ro with
   | true =>
     simp only[hro,gD,iX] at hf⊢;subst hf;exact⟨_,rfl,Rel.refl h⟩
   | false =>
     cases hlk:bx.lk with
     | true=>simp[hro,hlk] at hf
     | false =>
       simp only[hro,hlk,eD,iX] at hf⊢;subst hf;exact⟨_,rfl,Rel.bt h⟩
theorem AD:∀{v:au} {σ1 σ2 gq:St},Le σ1 σ2→dA σ1 v=some gq→∃gi,dA σ2 v=some gi∧Rel σ1 σ2 gq gi:=by
 intro v;induction v with
 | mix p q lq kO =>
   intro σ1 σ2 gq h hf;obtain⟨GA,h1,h2⟩:=jX hf;obtain⟨HV,k1,k2⟩:=lq h h1;obtain⟨gi,k3,k4⟩:=kO k2.le h2;exact⟨gi,by simp only[dA,k1,k3],k2.trans k4⟩
 | whole b ag=>intro σ1 σ2 gq h hf;exact v7 h hf
 | part b ag lo n=>intro σ1 σ2 gq h hf;exact v7 h hf
 | _=>intro σ1 σ2 gq h hf;obtain rfl:=aq hf;exact⟨_,rfl,Rel.refl h⟩
theorem nI(h:Le σ1 σ2){t:Ty}{x:t.den}{v:au}(hg:kU σ1 t v=some (x,gq)):∃gi,kU σ2 t v=some (x,gi)∧Rel σ1 σ2 gq gi:=by
 unfold kU at hg⊢;cases v with
 | data u y =>
   simp only at hg⊢;split at hg
   ·rename_i z hz;obtain⟨rfl,rfl⟩:=bY (aq hg);exact⟨_,rfl,Rel.refl h⟩
   ·cases hg
 | _ =>
   simp only at hg⊢;split at hg
   ·rename_i y GA hl hf;obtain⟨rfl,rfl⟩:=bY (aq hg);obtain⟨gi,k1,k2⟩:=AD h hf;rw[Bs h hl,k1];exact⟨gi,rfl,k2⟩
   ·cases hg
theorem oK:∀{A:Ty} {x:A.den} {vs:List au} {σ1 σ2 gq:St},Le σ1 σ2→eX σ1 A vs=some (x,gq)→∃gi,eX σ2 A vs=some (x,gi)∧Rel σ1 σ2 gq gi:=by
 intro A;induction A with
 | pair t r zS ihr =>
   intro x vs σ1 σ2 gq h hl;cases vs with
   | nil=>cases hl
   | cons v vs =>
     simp only[eX] at hl⊢;split at hl
     ·rename_i p GA hp;obtain⟨HV,k1,k2⟩:=nI h hp;split at hl
      ·rename_i q Lw hq;obtain⟨rfl,rfl⟩:=bY (aq hl);obtain⟨gi,k3,k4⟩:=ihr k2.le hq;exact⟨gi,by simp only[k1,k3],k2.trans k4⟩
      ·cases hl
     ·cases hl
 | unit =>
   intro x vs σ1 σ2 gq h hl;cases vs with
   | nil=>obtain⟨rfl,rfl⟩:=bY (aq hl);exact⟨_,rfl,Rel.refl h⟩
   | cons v vs=>cases hl
 | _=>intro x vs σ1 σ2 gq h hl;cases vs<;>cases hl
theorem vA{t:Ty}:∀{parts:List (Nat×Operand)} {x x':t.den} {σ1 σ2 gq:St},Le σ1 σ2→(∀o∈parts.map (·.2),bz σ1 o=bz σ2 o)→dx σ1 t x parts=some (x',gq) →
  ∃gi,dx σ2 t x parts=some (x',gi)∧Rel σ1 σ2 gq gi:=by
 intro parts;induction parts with
 | nil=>intro x x' σ1 σ2 gq h ho hl;obtain⟨rfl,rfl⟩:=bY (aq hl);exact⟨_,rfl,Rel.refl h⟩
 | cons p r ih =>
   obtain⟨k,o⟩:=p;intro x x' σ1 σ2 gq h ho hl;have h0:bz σ1 o=bz σ2 o:=ho o (by simp);simp only[dx] at hl⊢;split at hl
   ·rename_i u hu;split at hl
    ·rename_i y GA hg;rw[h0] at hg;obtain⟨HV,k1,k2⟩:=nI h hg;split at hl
     ·rename_i z hz;obtain⟨gi,k3,k4⟩:=ih k2.le (fun o' ho'=>by rw[nG k2.s1,nG k2.s2];exact ho o' (by simp at ho'⊢;exact .inr ho')) hl;exact⟨gi,by simp only[k1,hz,k3],k2.trans k4⟩
     ·cases hl
    ·cases hl
   ·cases hl
theorem pY{e:Ty}:∀{parts:List (Nat×Operand)} {l l':List e.den} {σ1 σ2 gq:St},Le σ1 σ2→(∀o∈parts.map (·.2),bz σ1 o=bz σ2 o)→dh σ1 e l parts=some (l',gq) →
  ∃gi,dh σ2 e l parts=some (l',gi)∧Rel σ1 σ2 gq gi:=by
 intro parts;induction parts with
 | nil=>intro x x' σ1 σ2 gq h ho hl;obtain⟨rfl,rfl⟩:=bY (aq hl);exact⟨_,rfl,Rel.refl h⟩
 | cons p r ih =>
   obtain⟨k,o⟩:=p;intro l l' σ1 σ2 gq h ho hl;have h0:bz σ1 o=bz σ2 o:=ho o (by simp);simp only[dh] at hl⊢;split at hl
   ·rename_i y GA hg;rw[h0] at hg;obtain⟨HV,k1,k2⟩:=nI h hg;cases hlt:Nat.blt k l.length with
    | false=>rw[hlt] at hl;cases hl
    | true =>
      rw[hlt] at hl;obtain⟨gi,k3,k4⟩:=ih k2.le (fun o' ho'=>by rw[nG k2.s1,nG k2.s2];exact ho o' (by simp at ho'⊢;exact .inr ho')) hl;exact⟨gi,by simp only[k1,gD,k3],k2.trans k4⟩
   ·cases hl
def lift(σ2:St)(d:Option Nat)(y:St):St :=
 { slots:=match d with|some d=>fun t=>bif Nat.beq t d then y.slots d else σ2.slots t|none=>σ2.slots
   mem:=fun b=>match y.mem b with|some x=>some x|none=>σ2.mem b }
theorem Cf(R:Rel σ1 σ2 gq gi)(d:Option Nat)(v:au):lift σ2 d (gq.aD d v)=gi.aD d v:=by
 have hm:(fun b=>match gq.mem b with|some x=>some x|none=>σ2.mem b)=gi.mem:=funext fun b=>(R.m b).symm;cases d with
 | none=>simp only[lift,St.aD,hm,←R.s2]
 | some d =>
   simp only[lift,St.aD,St.put,hm,←R.s2]
   congr 1
   funext t;cases hb:Nat.beq t d with
   | true=>simp
   | false=>simp
def LT(σ2:St)(d:Option Nat)(T1 T2:Tree St):Prop:=∀y,T1.run=some y→T2.run=some (lift σ2 d y)
variable {d:Option Nat}
theorem LT.fail{T:Tree St}:LT σ2 d .fail T:=fun y h=>by cases h
theorem LT.ret(R:Rel σ1 σ2 gq gi){v:au}:LT σ2 d (.ret (gq.aD d v)) (.ret (gi.aD d v)):=fun y h=>by
 obtain rfl:=aq h;rw[Cf R];rfl
theorem LT.AE(R:Rel σ1 σ2 gq gi){k:Nat}{v:au}:LT σ2 (some k) (.ret (gq.put k v)) (.ret (gi.put k v)):=LT.ret (d:=some k) R
theorem LT.store(R:Rel σ1 σ2 gq gi):LT σ2 none (.ret gq) (.ret gi):=LT.ret (d:=none) (v:=.undef) R
theorem LT.bif{c:Bool}{t u:Tree St}(h:LT σ2 d t u):LT σ2 d (bif c then t else .fail) (bif c then u else .fail):=by cases c<;>first|exact LT.fail|exact h
theorem LT.yU{c c':Bool}{t u:Tree St}(hc:c=true→c'=true)(h:LT σ2 d t u):LT σ2 d (bif c then t else .fail) (bif c' then u else .fail):=by
 cases c with
 | false=>exact LT.fail
 | true=>rw[hc rfl];exact h
theorem LT.need{c:Bool}{t u:Tree St}(h:LT σ2 d t u):LT σ2 d (.need c t) (.need c u):=fun y hy=>by
 obtain⟨rfl,h2⟩:=bu hy;exact h y h2
theorem LT.look{T:Type}{o:Option T}{k k':T→Tree St}(h:∀x,LT σ2 d (k x) (k' x)):LT σ2 d (.look o k) (.look o k'):=fun y hy=>by
 obtain⟨x,rfl,h2⟩:=bg hy;exact h x y h2
theorem LT.node{c:Bool}{t e t' e':Tree St}(h:LT σ2 d t t')(k:LT σ2 d e e'):LT σ2 d (.node c t e) (.node c t' e'):=fun y hy=>by
 have:=dn hy;cases c with
 | true=>exact h y this
 | false=>exact k y this
theorem LT.bind{α:Type}{t:Tree α}{f g:α→Tree St}(h:∀x,t.run=some x→LT σ2 d (f x) (g x)):LT σ2 d (t.bind f) (t.bind g):=fun y hy=>by
 obtain⟨x,h1,h2⟩:=bind_some hy;rw[Tree.run_bind,h1];exact h x h1 y h2
theorem LT.ay(hle:Le σ1 σ2){k:Nat}{b:Nat}(hb:σ1.mem b=σ2.mem b){val:au}{tid:TypeId}{buf:Bool}{v:Nat→au} :
  LT σ2 (some k) (σ1.ay b val tid buf fun ag σ=>.ret (σ.put k (v ag))) (σ2.ay b val tid buf fun ag σ=>.ret (σ.put k (v ag))):=by
 unfold St.ay;rw[←hb];cases hq:σ1.mem b with
 | none=>exact LT.AE (Rel.bt hle)
 | some bx =>
   simp only;cases bx.lk with
   | true=>exact LT.fail
   | false=>exact LT.AE (Rel.bt hle)
theorem LT.mem(hle:Le σ1 σ2){b:Nat}{f g:Option aR→Tree St}(h0:f none=.fail)(h:∀bx,σ1.mem b=some bx→LT σ2 d (f (some bx)) (g (some bx))):LT σ2 d (f (σ1.mem b)) (g (σ2.mem b)):=by
 cases hb:σ1.mem b with
 | none=>rw[h0];exact LT.fail
 | some bx=>rw[hle b bx hb];exact h bx hb
end
end Go.Ge
