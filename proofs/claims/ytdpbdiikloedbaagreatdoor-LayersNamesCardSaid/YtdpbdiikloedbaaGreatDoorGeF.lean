/- A ghost interpreter of the model's code, and that it tells the truth: part 6. It says of a function of plain data what a call of it comes to. -/
import Derived.Test.YtdpbdiikloedbaaGreatDoorGeE
import Derived.Tactics
set_option linter.unusedVariables false
set_option linter.unusedSimpArgs false
set_option linter.unusedSectionVars false
namespace Go.Ge
open RowKit
def ay(σ:St)(T:Tree St):Prop:=∀y,T.run=some y→aY σ y
theorem ay.fail{σ:St}:ay σ .fail:=fun y h=>by cases h
theorem ay.ret{σ σ':St}(h:aY σ σ'):ay σ (.ret σ'):=fun y hy=>by obtain rfl:=aG hy;exact h
theorem ay.bif{σ:St}{c:Bool}{t:Tree St}(h:ay σ t):ay σ (bif c then t else .fail):=fun y hy=>h y (aB hy).2
theorem ay.need{σ:St}{c:Bool}{t:Tree St}(h:ay σ t):ay σ (.need c t):=fun y hy=>h y (bY hy).2
theorem ay.look{σ:St}{T:Type}{o:Option T}{k:T→Tree St}(h:∀x,ay σ (k x)):ay σ (.look o k):=fun y hy=>by obtain⟨x,_,h2⟩:=bS hy;exact h x y h2
theorem ay.node{σ:St}{c:Bool}{t e:Tree St}(h:ay σ t)(k:ay σ e):ay σ (.node c t e):=fun y hy=>by
 have:=fL hy;cases c with
 | true=>exact h y this
 | false=>exact k y this
theorem ay.bind{σ:St}{α:Type}{t:Tree α}{f:α→Tree St}(h:∀x,t.run=some x→ay σ (f x)):ay σ (t.bind f):=fun y hy=>by obtain⟨x,h1,h2⟩:=bind_some hy;exact h x h1 y h2
theorem ay.aL{σ:St}{b:Nat}{val:aO}{tid:TypeId}{buf:Bool}{d:Nat}{v:Nat→aO}:ay σ (σ.aL b val tid buf fun aA σ=>.ret (σ.put d (v aA))):=fun y hy=>by
 obtain⟨aA,k1,k2⟩:=lQ hy;obtain rfl:=aG k2;exact k1.trans (aY.put _ _ _)
section
variable {cx:Ctx} {nb:Nat} {bf:List Nat} {inl:Nat→List aO→St→Tree (aO×St)} {d:Option Nat} {σ:St}
theorem Ar{ty:TypeId}{v:aO}:ay σ (jb cx nb bf d ty v σ):=by
 unfold jb;split
 ·(repeat' (first|exact ay.fail|exact ay.ret (aY.aP _ _ _)|exact ay.ret (aY.put _ _ _)|exact ay.aL|refine ay.bif ?_|refine ay.need ?_|refine ay.look fun _=>?_|refine ay.node ?_ ?_|refine ay.bind fun _ _=>?_|split))
 ·split
  ·rename_i k e _;cases cC bf k with
   | true=>exact ay.aL
   | false=>exact ay.ret (aY.put _ _ _)
  ·exact ay.ret (aY.aP _ _ _)
 ·exact ay.ret (aY.aP _ _ _)
theorem NQ{c a b:aO}:ay σ (nu d c a b σ):=by unfold nu;(repeat' (first|exact ay.fail|exact ay.ret (aY.aP _ _ _)|exact ay.ret (aY.put _ _ _)|exact ay.aL|refine ay.bif ?_|refine ay.need ?_|refine ay.look fun _=>?_|refine ay.node ?_ ?_|refine ay.bind fun _ _=>?_|split))
theorem NR{ty:TypeId}{a:aO}:ay σ (kr cx d ty a σ):=by unfold kr;(repeat' (first|exact ay.fail|exact ay.ret (aY.aP _ _ _)|exact ay.ret (aY.put _ _ _)|exact ay.aL|refine ay.bif ?_|refine ay.need ?_|refine ay.look fun _=>?_|refine ay.node ?_ ?_|refine ay.bind fun _ _=>?_|split))
theorem LW{ty:TypeId}{x:aO}{lo hi:Option Operand}:ay σ (kJ cx d ty x lo hi σ):=by unfold kJ;(repeat' (first|exact ay.fail|exact ay.ret (aY.aP _ _ _)|exact ay.ret (aY.put _ _ _)|exact ay.aL|refine ay.bif ?_|refine ay.need ?_|refine ay.look fun _=>?_|refine ay.node ?_ ?_|refine ay.bind fun _ _=>?_|split))
theorem UX{b aA:Nat}{i:Int}:∀{m k:Nat},ay σ (Lh d b aA σ i m k):=by
 intro m;induction m with
 | zero=>intro k;exact ay.fail
 | succ m ih=>intro k;exact ay.node (ay.ret (aY.aP _ _ _)) ih
theorem vj{ty:TypeId}{x:aO}{i:Int}:ay σ (dN cx d ty x i σ):=by
 unfold dN;split
 case h_6=>split
           ·exact ay.bif UX
           ·exact ay.fail
 all_goals (repeat' (first|exact ay.fail|exact ay.ret (aY.aP _ _ _)|exact ay.ret (aY.put _ _ _)|exact ay.aL|refine ay.bif ?_|refine ay.need ?_|refine ay.look fun _=>?_|refine ay.node ?_ ?_|refine ay.bind fun _ _=>?_|split))
theorem LX{ty:TypeId}{x:aO}{i:Int}:ay σ (kK cx d ty x i σ):=by
 unfold kK;split
 ·refine ay.bif ?_;split
  ·exact ay.bif (ay.ret (aY.aP _ _ _))
  ·exact ay.fail
 ·exact vj
theorem LY{ty:TypeId}{x:aO}{i:Int}:ay σ (kL cx d ty x i σ):=by unfold kL;(repeat' (first|exact ay.fail|exact ay.ret (aY.aP _ _ _)|exact ay.ret (aY.put _ _ _)|exact ay.aL|refine ay.bif ?_|refine ay.need ?_|refine ay.look fun _=>?_|refine ay.node ?_ ?_|refine ay.bind fun _ _=>?_|split))
theorem Ec{s:TypeId}{x:aO}{k:Nat}:ay σ (eB cx d s x k σ):=by unfold eB;(repeat' (first|exact ay.fail|exact ay.ret (aY.aP _ _ _)|exact ay.ret (aY.put _ _ _)|exact ay.aL|refine ay.bif ?_|refine ay.need ?_|refine ay.look fun _=>?_|refine ay.node ?_ ?_|refine ay.bind fun _ _=>?_|split))
theorem Hs{s t:TypeId}{x:aO}:ay σ (gx cx nb d s t x σ):=by unfold gx;(repeat' (first|exact ay.fail|exact ay.ret (aY.aP _ _ _)|exact ay.ret (aY.put _ _ _)|exact ay.aL|refine ay.bif ?_|refine ay.need ?_|refine ay.look fun _=>?_|refine ay.node ?_ ?_|refine ay.bind fun _ _=>?_|split))
theorem C2{ty:TypeId}{t x:aO}:ay σ (ym cx d ty t x σ):=by
 unfold ym;split
 ·split
  ·exact ay.fail
  ·exact ay.bind fun r hr=>ay.ret ((IK hr).trans (aY.aP _ _ _))
 ·exact ay.fail
theorem LZ{ty:TypeId}{t:aO}:ay σ (yo cx ty t σ):=by
 unfold yo;split
 ·exact ay.bind fun r hr=>ay.ret (IK hr)
 ·exact ay.fail
theorem JU{name:String}{args:List aO}:ay σ (qN cx d name args σ):=by
 intro σ' hr;unfold qN at hr;split at hr
 ·split at hr
  ·rename_i hx;obtain⟨y,hy,hr2⟩:=bS hr;obtain rfl:=aG hr2;exact(pH hx).trans (aY.aP _ _ _)
  ·exact absurd hr (by intro k;cases k)
 ·exact absurd hr (by intro k;cases k)
theorem L1{ty u:TypeId}{x:aO}:ay σ (qM cx d ty u x σ):=by
 intro σ' hr;unfold qM at hr;split at hr
 ·split at hr
  ·split at hr
   ·rename_i hx;obtain rfl:=aG hr;exact(oL hx).trans (aY.aP _ _ _)
   ·exact absurd hr (by intro k;cases k)
  ·exact absurd hr (by intro k;cases k)
 ·exact absurd hr (by intro k;cases k)
theorem NS(kX:∀f vals σ v σ',(inl f vals σ).run=some (v,σ')→aY σ σ'){ty:TypeId}{c:Call}:ay σ (u5 cx nb bf inl d ty c σ):=by
 unfold u5;split
 ·split
  ·(repeat' (first|exact ay.fail|exact ay.ret (aY.aP _ _ _)|exact ay.ret (aY.put _ _ _)|exact ay.aL|refine ay.bif ?_|refine ay.need ?_|refine ay.look fun _=>?_|refine ay.node ?_ ?_|refine ay.bind fun _ _=>?_|split))
  ·split
   ·exact fun y hy=>Aq hy
   ·exact fun y hy=>Aq hy
   ·exact ay.fail
  ·split
   ·exact C2
   ·exact C2
   ·exact ay.fail
  ·split
   ·exact LZ
   ·exact ay.fail
  ·(repeat' (first|exact ay.fail|exact ay.ret (aY.aP _ _ _)|exact ay.ret (aY.put _ _ _)|exact ay.aL|refine ay.bif ?_|refine ay.need ?_|refine ay.look fun _=>?_|refine ay.node ?_ ?_|refine ay.bind fun _ _=>?_|split))
  ·(repeat' (first|exact ay.fail|exact ay.ret (aY.aP _ _ _)|exact ay.ret (aY.put _ _ _)|exact ay.aL|refine ay.bif ?_|refine ay.need ?_|refine ay.look fun _=>?_|refine ay.node ?_ ?_|refine ay.bind fun _ _=>?_|split))
  ·exact ay.fail
 ·split
  ·exact ay.bif fun y hy=>Qb kX hy
  ·exact ay.fail
 ·exact JU
theorem Bl(kX:∀f vals σ v σ',(inl f vals σ).run=some (v,σ')→aY σ σ'){o:Oper}:ay σ (o9 cx nb bf inl o σ):=by
 unfold o9;split
 case h_1=>exact Ar
 case h_2=>exact Ar
 case h_3=>exact NQ
 case h_4 =>
  split
  ·unfold uR;split
   ·refine ay.bif fun y hy=>?_;obtain⟨aA,k1,k2⟩:=lQ hy;exact k1.trans (ay.aL y k2)
   ·exact ay.aL
  ·split
   ·refine ay.bind fun r hr=>?_;exact fun y hy=>(UW hr).trans (ay.aL y hy)
   ·exact ay.bif ay.aL
  ·exact ay.fail
 case h_5 =>
  unfold EO;split
  ·exact ay.fail
  ·exact ay.fail
  ·split
   ·refine ay.bind fun r hr=>?_;exact fun y hy=>(P9 hr).trans (ay.aL y hy)
   ·exact ay.aL
  ·exact ay.fail
 case h_6 =>
  split
  ·split
   ·rename_i hb;exact ay.ret ((JT hb).trans (aY.aP _ _ _))
   ·exact ay.fail
  ·split
   ·rename_i hb;exact ay.ret ((Bk hb).trans (aY.aP _ _ _))
   ·exact ay.fail
  ·(repeat' (first|exact ay.fail|exact ay.ret (aY.aP _ _ _)|exact ay.ret (aY.put _ _ _)|exact ay.aL|refine ay.bif ?_|refine ay.need ?_|refine ay.look fun _=>?_|refine ay.node ?_ ?_|refine ay.bind fun _ _=>?_|split))
  ·exact ay.fail
 case h_7 =>
  split
  ·split
   ·exact ay.aL
   ·refine ay.bif ?_;split
    ·rename_i hb;exact ay.ret ((Bk hb).trans (aY.aP _ _ _))
    ·exact ay.fail
  ·unfold Cm;(repeat' (first|exact ay.fail|exact ay.ret (aY.aP _ _ _)|exact ay.ret (aY.put _ _ _)|exact ay.aL|refine ay.bif ?_|refine ay.need ?_|refine ay.look fun _=>?_|refine ay.node ?_ ?_|refine ay.bind fun _ _=>?_|split))
  ·exact ay.fail
 case h_8=>exact NR
 case h_9=>split
           ·exact fun y hy=>LU hy
           ·exact ay.fail
 case h_10=>(repeat' (first|exact ay.fail|exact ay.ret (aY.aP _ _ _)|exact ay.ret (aY.put _ _ _)|exact ay.aL|refine ay.bif ?_|refine ay.need ?_|refine ay.look fun _=>?_|refine ay.node ?_ ?_|refine ay.bind fun _ _=>?_|split))
 case h_11=>(repeat' (first|exact ay.fail|exact ay.ret (aY.aP _ _ _)|exact ay.ret (aY.put _ _ _)|exact ay.aL|refine ay.bif ?_|refine ay.need ?_|refine ay.look fun _=>?_|refine ay.node ?_ ?_|refine ay.bind fun _ _=>?_|split))
 case h_12=>(repeat' (first|exact ay.fail|exact ay.ret (aY.aP _ _ _)|exact ay.ret (aY.put _ _ _)|exact ay.aL|refine ay.bif ?_|refine ay.need ?_|refine ay.look fun _=>?_|refine ay.node ?_ ?_|refine ay.bind fun _ _=>?_|split))
 case h_13=>exact Hs
 case h_14=>(repeat' (first|exact ay.fail|exact ay.ret (aY.aP _ _ _)|exact ay.ret (aY.put _ _ _)|exact ay.aL|refine ay.bif ?_|refine ay.need ?_|refine ay.look fun _=>?_|refine ay.node ?_ ?_|refine ay.bind fun _ _=>?_|split))
 case h_15=>exact LW
 case h_16=>exact Ec
 case h_17=>(repeat' (first|exact ay.fail|exact ay.ret (aY.aP _ _ _)|exact ay.ret (aY.put _ _ _)|exact ay.aL|refine ay.bif ?_|refine ay.need ?_|refine ay.look fun _=>?_|refine ay.node ?_ ?_|refine ay.bind fun _ _=>?_|split))
 case h_18=>split
            ·cases cC bf 5000000 with
             | true=>exact LX
             | false=>exact vj
            ·exact ay.fail
 case h_19=>split
            ·exact LY
            ·exact ay.fail
 case h_20=>(repeat' (first|exact ay.fail|exact ay.ret (aY.aP _ _ _)|exact ay.ret (aY.put _ _ _)|exact ay.aL|refine ay.bif ?_|refine ay.need ?_|refine ay.look fun _=>?_|refine ay.node ?_ ?_|refine ay.bind fun _ _=>?_|split))
 case h_21=>(repeat' (first|exact ay.fail|exact ay.ret (aY.aP _ _ _)|exact ay.ret (aY.put _ _ _)|exact ay.aL|refine ay.bif ?_|refine ay.need ?_|refine ay.look fun _=>?_|refine ay.node ?_ ?_|refine ay.bind fun _ _=>?_|split))
 case h_22=>exact NS kX
 case h_23=>exact L1
 case h_24=>exact ay.fail
end
end Go.Ge
namespace Go.Ge
open RowKit
theorem lJ.shrink{mem mem':Nat→Option bE}(hm:∀b bx,mem b=some bx→mem' b=some { bx with lk:=true }){b aA:Nat}{K0 K:bE→Prop}(h0:lJ mem b aA K0)(h:lJ mem' b aA K)
  (hK:∀bx,K { bx with lk:=true }→K bx):lJ mem b aA K:=by
 obtain⟨bx,h1,h2,_⟩:=h0;obtain⟨gy,k1,k2,k3⟩:=h;rw[hm b bx h1] at k1;obtain rfl:=aG k1;exact⟨bx,h1,h2,fun e=>hK bx (k3 e)⟩
theorem b6.shrink{γ γ':Gh}{mem mem':Nat→Option bE}{w w':World}(hm:∀b bx,mem b=some bx→mem' b=some { bx with lk:=true }):∀{v:aO} {m:Mode} {us vs:List Value},
  b6 γ mem w v m us→b6 γ' mem' w' v m vs→b6 γ' mem w' v m vs:=by
 intro v;induction v with
 | undef=>intro m us vs _ r;cases m<;>exact r
 | data t x=>intro m us vs _ r;cases m<;>exact r
 | nr=>intro m us vs _ r;cases m<;>exact r
 | qL=>intro m us vs _ r;cases m<;>exact r
 | cell t x=>intro m us vs _ r;cases m<;>exact r
 | nl=>intro m us vs _ r;cases m<;>exact r
 | sg=>intro m us vs _ r;cases m<;>exact r
 | vY b aA =>
   intro m us vs r0 r;cases m with
   | many=>exact r
   | cells=>exact⟨r.1,r0.2.shrink hm r.2 fun _ k=>k⟩
   | val=>exact⟨r.1,r0.2.shrink hm r.2 fun _ k=>k⟩
 | ptr b aA p =>
   intro m us vs r0 r;cases m with
   | many=>exact r
   | cells=>exact⟨r.1,r0.2.shrink hm r.2 fun _ k=>k⟩
   | val=>exact⟨r.1,r0.2.shrink hm r.2 fun _ k=>k⟩
 | whole b aA =>
   intro m us vs r0 r;cases m with
   | many=>exact r
   | cells=>exact⟨r.1,r0.2.shrink hm r.2 fun _ k=>k⟩
   | val=>exact⟨r.1,r0.2.shrink hm r.2 fun _ k=>k⟩
 | part b aA lo n =>
   intro m us vs r0 r;cases m with
   | many=>exact r
   | cells=>exact⟨r.1,r0.2.shrink hm r.2 fun _ k=>k⟩
   | val=>exact⟨r.1,r0.2.shrink hm r.2 fun _ k=>k⟩
 | win b aA q e k lo n =>
   intro m us vs r0 r;cases m with
   | many=>exact r
   | cells=>exact⟨r.1,r0.2.shrink hm r.2 fun _ k=>k⟩
   | val=>exact⟨r.1,r0.2.shrink hm r.2 fun _ k=>k⟩
 | fn f caps =>
   intro m us vs r0 r;cases m with
   | many=>exact r
   | cells=>obtain⟨_,_,_,s⟩:=r0;obtain⟨arr,r1,r2,r3⟩:=r;exact⟨arr,r1,r2,fun i b aA hc=>(s i b aA hc).shrink hm (r3 i b aA hc) fun _ k=>k⟩
   | val=>obtain⟨_,_,_,s⟩:=r0;obtain⟨arr,r1,r2,r3⟩:=r;exact⟨arr,r1,r2,fun i b aA hc=>(s i b aA hc).shrink hm (r3 i b aA hc) fun _ k=>k⟩
 | mix a b jm lG =>
   intro m us vs r0 r;cases m with
   | cells=>obtain⟨_,_,_,s1,s2⟩:=r0;obtain⟨c1,c2,r0,r1,r2⟩:=r;exact⟨c1,c2,r0,jm s1 r1,lG s2 r2⟩
   | val=>obtain⟨_,_,_,s1,s2⟩:=r0;obtain⟨c1,c2,r0,r1,r2⟩:=r;exact⟨c1,c2,r0,jm s1 r1,lG s2 r2⟩
   | many=>obtain⟨_,_,_,s1,s2⟩:=r0;obtain⟨c1,c2,r0,r1,r2⟩:=r;exact⟨c1,c2,r0,jm s1 r1,lG s2 r2⟩
 | D1 u ih =>
   intro m us vs r0 r;cases m with
   | val=>obtain⟨_,_,s⟩:=r0;obtain⟨arr,r1,r2⟩:=r;exact⟨arr,r1,ih s r2⟩
   | cells=>exact r
   | many=>exact r
theorem bp.unlock{B:qq}{γ γ':Gh}{mem mem':Nat→Option bE}{w w':World}(h:bp B γ mem w)(hm:∀b bx,mem b=some bx→mem' b=some { bx with lk:=true })
  (h':bp B γ' mem' w') (hx:Ext B γ (fun i=>match mem i with|some b=>some { b with lk:=true }|none=>none) w γ' mem' w'):bp B γ' mem w'∧Ext B γ mem w γ' mem w':=by
 have UO:∀b bx,mem b=some bx→γ'.loc b=γ.loc b:=by
  intro b bx hb;obtain⟨gy,k1,k2,k3⟩:=hx.boxes b { bx with lk:=true } (by simp[hb]);rw[hm b bx hb] at k1;obtain rfl:=aG k1;exact(k3 rfl).1
 have hne:∀b,mem b≠none→mem' b≠none:=by
  intro b hb;cases hq:mem b with
  | none=>exact absurd hq hb
  | some bx=>rw[hm b bx hq];simp
 refine⟨?_,⟨hx.below,hx.I,hx.pE,hx.cells,fun b bx hb=>⟨bx,hb,mq _,fun _=>⟨UO b bx hb,rfl,rfl⟩⟩⟩⟩;exact
  { aH:=h'.aH
    base:=h'.base
    boxes:=fun b bx hb=>by
     have h1:=h.boxes b bx hb;have h2:=h'.boxes b _ (hm b bx hb);unfold cr at h1 h2⊢;cases bu:bx.buf with
     | true=>rw[bu] at h2;exact h2
     | false =>
       rw[bu] at h1 h2;obtain⟨_,_,_,_,_,_,_,_,_,r0⟩:=h1;obtain⟨blk,cap,cur,tid,fr,k1,k2,k3,gL,k4⟩:=h2;exact⟨blk,cap,cur,tid,fr,k1,k2,k3,gL,r0.shrink hm k4⟩
    inj:=fun b c blk k k' hb hc h1 h2=>h'.inj b c blk k k' (hne b hb) (hne c hc) h1 h2
    fresh:=fun b blk k hb h1=>h'.fresh b blk k (hne b hb) h1
    tN:=h'.tN
    sep:=fun b bx blk k off hb h1 hi=>by
     have:=h'.sep b _ blk k off (hm b bx hb) h1 hi;exact this }
theorem Ext.gU{B:qq}{γ:Gh}{σ:St}{w:World}:Ext B γ σ.mem w γ σ.gU.mem w where
 below:=va.refl _ _
 I:=fun _ _ h=>h
 pE:=fun _ _ h=>.inl h
 cells:=fun _ _ _=>rfl
 boxes:=fun b bx hb=>⟨{ bx with lk:=true },by simp[St.gU,hb],mq _,fun _=>⟨rfl,rfl,rfl⟩⟩
theorem bp.gU{B:qq}{γ:Gh}{σ:St}{w:World}(h:bp B γ σ.mem w):bp B γ σ.gU.mem w:=by
 have inv:∀{b bx},σ.gU.mem b=some bx→∃cQ,σ.mem b=some cQ∧bx={ cQ with lk:=true }:=by
  intro b bx hb;simp only[St.gU] at hb;split at hb
  ·rename_i cQ h0;exact⟨cQ,h0,(aG hb).symm⟩
  ·cases hb
 have hne:∀{b},σ.gU.mem b≠none→σ.mem b≠none:=by
  intro b hb hq;apply hb;simp[St.gU,hq]
 exact
  { aH:=h.aH
    base:=h.base
    boxes:=fun b bx hb=>by
     obtain⟨cQ,h0,rfl⟩:=inv hb;have:=(h.boxes b cQ h0).keep (Ext.gU (B:=B) (γ:=γ) (σ:=σ) (w:=w)) rfl (fun _ _ _=>rfl);exact this
    inj:=fun b c blk k k' hb hc h1 h2=>h.inj b c blk k k' (hne hb) (hne hc) h1 h2
    fresh:=fun b blk k hb h1=>h.fresh b blk k (hne hb) h1
    tN:=h.tN
    sep:=fun b bx blk k off hb h1 hi=>by
     obtain⟨cQ,h0,rfl⟩:=inv hb;exact h.sep b cQ blk k off h0 h1 hi }
theorem cF.gU{B:qq}{N:Nat}{γ:Gh}{σ:St}{a:Act}{w:World}(h:cF B N γ σ a w):cF B N γ σ.gU a w where
 slots:=fun t=>(h.slots t).ext (Ext.gU (B:=B))
 size:=h.size
 defers:=h.defers
 ok:=h.ok.gU
theorem Qc{σ τ:St}(h:aY σ.gU τ):∀b bx,σ.mem b=some bx→τ.mem b=some { bx with lk:=true }:=fun b bx hb=>h b _ (by simp[St.gU,hb]) rfl
end Go.Ge
namespace Go.Ge
open RowKit
inductive qt (all:Array Oper) (G:List (Nat×Bool)):List (Nat×Oper)→List Oper→Prop
 | nil:qt all G [] []
 | cons {i:Nat} {o o':Oper} {r:List (Nat×Oper)} {l:List Oper}:all[i]?=some o→(o'=o∨∃g,o.guard=some g∧g∈G∧o'={ o with guard:=none })→qt all G r l→qt all G ((i,o')::r) (o::l)
theorem qt.mono{all:Array Oper}{G G':List (Nat×Bool)}(hG:∀g∈G,g∈G'){items:List (Nat×Oper)}{l:List Oper}(h:qt all G items l):qt all G' items l:=by
 induction h with
 | nil=>exact .nil
 | cons h1 h2 _ ih=>exact .cons h1 (h2.imp id fun⟨g,k1,k2,k3⟩=>⟨g,k1,hG g k2,k3⟩) ih
theorem Sy{all:Array Oper}{G:List (Nat×Bool)}{j:Nat}{want:Bool}:∀{items:List (Nat×Oper)} {l:List Oper} {inner:List Nat},qt all G items l →
  ∃l1 l2,l=l1++l2∧qt all ((j,want)::G) (under j want inner items).1 l1∧qt all G (under j want inner items).2 l2:=by
 intro items l inner h;induction h generalizing inner with
 | nil=>exact⟨[],[],rfl,.nil,.nil⟩
 | @cons i o o' r l h1 h2 h3 ih =>
   unfold under;cases hg:zl o'.guard j want with
   | true =>
     simp only[fy];obtain⟨l1,l2,e1,e2,e3⟩:=ih (inner:=i::inner);refine⟨o::l1,l2,by rw[e1];rfl,.cons h1 (.inr ?_) e2,e3⟩;have ho:o'=o:=by
      rcases h2 with h2|⟨g,k1,k2,k3⟩
      ·exact h2
      ·rw[k3] at hg;cases hg
     subst ho;unfold zl at hg;split at hg
     ·rename_i i' b' hgd;simp only[dW] at hg;have h9:=fu hg.1;have h8:b'=want:=by simpa using hg.2
      subst h9;subst h8;exact⟨(i',b'),hgd,sU ..,rfl⟩
     ·cases hg
   | false =>
     simp only[iA];have both:∀c:Bool,∃l1 l2,o::l=l1++l2 ∧
       qt all ((j,want)::G) (bif c then((i,o')::(under j want (i::inner) r).1,(under j want (i::inner) r).2) else([],(i,o')::r)).1 l1 ∧
       qt all G (bif c then((i,o')::(under j want (i::inner) r).1,(under j want (i::inner) r).2) else([],(i,o')::r)).2 l2:=by
      intro c;cases c with
      | true =>
        obtain⟨l1,l2,e1,e2,e3⟩:=ih (inner:=i::inner);exact⟨o::l1,l2,by rw[e1];rfl,.cons h1 (h2.imp id fun⟨g,k1,k2,k3⟩=>⟨g,k1,vR _ k2,k3⟩) e2,e3⟩
      | false=>exact⟨[],o::l,rfl,.nil,.cons h1 h2 h3⟩
     exact both _
theorem UY{d:Nat}:∀{items:List (Nat×Oper)},mA d items=false→∀i o,(i,o)∈items→o.dst≠some d:=by
 intro items;induction items with
 | nil=>intro _ i o h;cases h
 | cons p r ih =>
   obtain⟨i0,o0⟩:=p;intro h i o hm;simp only[mA,CK] at h;rcases List.mem_cons.1 hm with hm|hm
   ·obtain⟨rfl,rfl⟩:=ec hm;intro e;rw[e] at h;simp at h
   ·exact ih h.2 i o hm
section
variable {P:Program} {B:qq} {N:Nat} {γ:Gh} {σ σ':St} {a:Act} {w w':World} {cx:Ctx} {nb:Nat} {bf:List Nat} {inl:Nat→List aO→St→Tree (aO×St)} {all:Array Oper}
def Sz(all:Array Oper)(G:List (Nat×Bool))(a:Act)(items:List (Nat×Oper)):Prop :=
 ∀g∈G,∃dj,(all[g.1]?).bind (·.dst)=some dj∧a.tmps[dj]?=some (.bool g.2)∧mA dj items=false
theorem Sz.wanted{G:List (Nat×Bool)}{items:List (Nat×Oper)}(h:Sz all G a items){o:Oper}{g:Nat×Bool}(ho:o.guard=some g)(hg:g∈G):Region.wanted o (yielded all a.tmps)=true:=by
 obtain⟨dj,h1,h2,_⟩:=h g hg;obtain⟨j,want⟩:=g;unfold Region.wanted;rw[ho];simp only[yielded,h1,RL,h2];simp
def Fr(items:List (Nat×Oper))(a a':Act):Prop:=∀t,mA t items=false→a'.tmps[t]?=a.tmps[t]?
theorem fA{a:Act}{d:Option Nat}{v:Value}{t:Nat}(h:d≠some t):(a.put d v).tmps[t]?=a.tmps[t]?:=by
 cases d with
 | none=>rfl
 | some k =>
   have:k≠t:=fun e=>h (by rw[e]);simp[Act.put,Array.getElem?_setIfInBounds_ne this]
theorem yB{d i:Nat}{o:Oper}{r:List (Nat×Oper)}(h:mA d ((i,o)::r)=false):o.dst≠some d∧mA d r=false:=by
 simp only[mA,CK] at h;refine⟨fun e=>?_,h.2⟩;rw[e] at h;simp at h
theorem SA(t:Nat):∀(items:List (Nat×Oper)),(σ.undef items).slots t=bif mA t items then .undef else σ.slots t:=by
 intro items;induction items with
 | nil=>rfl
 | cons p r ih =>
   obtain⟨i,o⟩:=p;simp only[St.undef,mA];cases hd:o.dst with
   | none=>simp only[St.aP,OW];exact ih
   | some k =>
     simp only[St.aP,St.put];cases hk:Nat.beq k t with
     | true=>obtain rfl:=fu hk;simp
     | false =>
       have:Nat.beq t k=false:=gK (fun e=>by subst e;simp at hk);rw[this];simp only[iA,OW];exact ih
theorem uT:∀(items:List (Nat×Oper)),(σ.undef items).mem=σ.mem:=by
 intro items;induction items with
 | nil=>rfl
 | cons p r ih =>
   obtain⟨i,o⟩:=p;simp only[St.undef];cases o.dst<;>exact ih
theorem cF.undef(h:cF B N γ σ a w){items:List (Nat×Oper)}{a':Act}(hf:Fr items a a')(hs:a'.tmps.size=N)(hd:a'.defers=[]):cF B N γ (σ.undef items) a' w where
 slots:=fun t=>by
  rw[SA,uT];cases hh:mA t items with
  | true=>exact⟨_,rfl⟩
  | false =>
    have:=hf t hh;have e:a'.tmps.getD t Go.undef=a.tmps.getD t Go.undef:=by simp only[YR,this]
    rw[e];exact h.slots t
 size:=hs
 defers:=hd
 ok:=by rw[uT];exact h.ok
theorem Fj{d:Option Nat}{k:Nat}(h:yielded all a.tmps k=none):yielded all (a.put d Go.undef).tmps k=none:=by
 unfold yielded at h⊢;cases hk:(all[k]?).bind (·.dst) with
 | none=>rfl
 | some dk =>
   rw[hk] at h;simp only[RL] at h⊢;by_cases e:d=some dk
   ·subst e;simp only[Act.put];rw[YZ];simp only[nk];by_cases hs:dk<a.tmps.size
    ·rw[bG hs];rfl
    ·rw[bH hs]
   ·rw[fA e];exact h
theorem Fk{i:Nat}{o:Oper}(h:all[i]?=some o):yielded all (a.put o.dst Go.undef).tmps i=none:=by
 unfold yielded;rw[h];simp only[RL];cases hd:o.dst with
 | none=>rfl
 | some d =>
   simp only[RL,Act.put];rw[YZ];simp only[nk];by_cases hs:d<a.tmps.size
   ·rw[bG hs];rfl
   ·rw[bH hs]
theorem UZ{G:List (Nat×Bool)}{j dj:Nat}{want c:Bool}{Q:Exit→Act→World→Prop}(hj:(all[j]?).bind (·.dst)=some dj)(SB:c≠want) :
  ∀{items:List (Nat×Oper)} {l:List Oper} {inner:List Nat} {a:Act},qt all G items l→a.tmps[dj]?=some (.bool c)→mA dj (under j want inner items).1=false→(∀k∈inner,yielded all a.tmps k=none) →
   ∃l1 l2,l=l1++l2∧l1.length=(under j want inner items).1.length∧∀rest,(∀a',Fr (under j want inner items).1 a a'→a'.tmps.size=a.tmps.size→a'.defers=a.defers→wpList P all Q rest a' w) →
    wpList P all Q (l1++rest) a w:=by
 intro items l inner a h;induction h generalizing inner a with
 | nil=>intro _ _ _;exact⟨[],[],rfl,rfl,fun rest hk=>hk a (fun t _=>rfl) rfl rfl⟩
 | @cons i o o' r l h1 h2 h3 ih =>
   intro hc hh hin;have one:∀(oo:Oper),oo.dst=o.dst→Region.wanted o (yielded all a.tmps)=false→(under j want inner ((i,o')::r)).1=(i,oo)::(under j want (i::inner) r).1 →
     ∃l1 l2,o::l=l1++l2∧l1.length=(under j want inner ((i,o')::r)).1.length∧∀rest,(∀a',Fr (under j want inner ((i,o')::r)).1 a a'→a'.tmps.size=a.tmps.size→a'.defers=a.defers→wpList P all Q rest a' w) →
     wpList P all Q (l1++rest) a w:=by
    intro oo hoo hw hu;rw[hu] at hh⊢;obtain⟨hd1,hd2⟩:=yB hh;rw[hoo] at hd1;obtain⟨l1,l2,e1,e2,e3⟩:=ih (inner:=i::inner) (a:=a.put o.dst Go.undef) (by rw[fA hd1];exact hc) hd2 (fun k hk=>by
     rcases List.mem_cons.1 hk with rfl|hk
     ·exact Fk h1
     ·exact Fj (hin k hk))
    refine⟨o::l1,l2,by rw[e1];rfl,by simp[e2],fun rest hk=>?_⟩;show wpList P all Q (o::(l1++rest)) a w
    unfold wpList;rw[hw];simp only[Uo,G1];refine e3 rest fun a' f1 f2 f3=>hk a' (fun t ht=>?_) (f2.trans (R7 _ _ _)) (f3.trans (put_defers _ _ _));obtain⟨ht1,ht2⟩:=yB ht;rw[hoo] at ht1;rw[f1 t ht2,fA ht1]
   cases hg:zl o'.guard j want with
   | true =>
     have ho:o'=o:=by
      rcases h2 with h2|⟨g,k1,k2,k3⟩
      ·exact h2
      ·rw[k3] at hg;cases hg
     subst ho;have hgd:o'.guard=some (j,want):=by
      unfold zl at hg;split at hg
      ·rename_i i' b' hgd;simp only[dW] at hg;have h9:=fu hg.1;have h8:b'=want:=by simpa using hg.2
       rw[hgd,h9,h8]
      ·cases hg
     refine one { o' with guard:=none } rfl ?_ (by simp only[under,hg,fy]);unfold Region.wanted;rw[hgd];simp only[yielded,hj,RL,hc];cases c<;>cases want<;>first|rfl|exact absurd rfl SB
   | false =>
     cases hgd:o'.guard with
     | none =>
       have hu:(under j want inner ((i,o')::r)).1=[]:=by
        rw[hgd] at hg;simp only[under,hgd,hg,iA]
       rw[hu];exact⟨[],o::l,rfl,rfl,fun rest hk=>hk a (fun t _=>rfl) rfl rfl⟩
     | some g =>
       obtain⟨k,b⟩:=g;rw[hgd] at hg;cases hn:inner.any (Nat.beq k) with
       | true =>
         have ho:o'=o:=by
          rcases h2 with h2|⟨g,k1,k2,k3⟩
          ·exact h2
          ·rw[k3] at hgd;cases hgd
         subst ho;refine one o' rfl ?_ (by simp only[under,hgd,hg,hn,iA,fy]);obtain⟨k',hk',hkk⟩:=List.any_eq_true.1 hn;obtain rfl:=fu hkk;unfold Region.wanted;rw[hgd];simp only[hin k hk'];rfl
       | false =>
         have hu:(under j want inner ((i,o')::r)).1=[]:=by simp only[under,hgd,hg,hn,iA]
         rw[hu];exact⟨[],o::l,rfl,rfl,fun rest hk=>hk a (fun t _=>rfl) rfl rfl⟩
end
end Go.Ge
namespace Go.Ge
open RowKit
section
variable {P:Program} {B:qq} {N:Nat} {γ:Gh} {σ σ':St} {a:Act} {w w':World} {cx:Ctx} {nb:Nat} {bf:List Nat} {inl:Nat→List aO→St→Tree (aO×St)} {all:Array Oper}
theorem L2(σ:St)(items:List (Nat×Oper)):aY σ (σ.undef items):=aY.ZW (uT items)
theorem Fl(kX:∀f vals σ v σ',(inl f vals σ).run=some (v,σ')→aY σ σ'):∀(n:Nat) (items:List (Nat×Oper)) (σ:St),ay σ (pe cx nb bf inl all n items σ):=by
 intro n;induction n with
 | zero=>intro items σ;exact ay.fail
 | succ n ih =>
   intro items σ;cases items with
   | nil=>exact ay.ret (aY.refl _)
   | cons p r =>
     obtain⟨i,o⟩:=p;unfold pe;split
     ·exact ay.bind fun σ1 h1 y hy=>(Bl kX σ1 h1).trans (ih _ _ y hy)
     ·rename_i j want hg;dsimp only;split
      ·exact ay.fail
      ·rename_i dj hdj;split
       ·rename_i c ip pk rest Fm oK;cases hh:mA dj (under j want [] ((i,o)::r)).1 with
        | true=>exact ay.fail
        | false =>
          simp only[iA];split
          ·exact ay.fail
          ·cases hin:KN cx (under j want [] ((i,o)::r)).1 with
           | true =>
             simp only[fy];intro y hy;obtain⟨σ2,h1,h2⟩:=bind_some hy;refine aY.trans ?_ (ih _ _ y h2);refine(ay.node (σ:=σ) ?_ ?_) σ2 h1
             ·refine ay.bind fun τ hτ=>?_;split
              ·exact ay.ret ((ih _ _ τ hτ).trans (aY.aP _ _ _))
              ·exact ay.fail
             ·split
              ·exact ay.ret ((L2 _ _).trans (aY.aP _ _ _))
              ·exact ay.fail
           | false =>
             simp only[iA];split
             ·intro y hy;rw[Tree.A5] at hy;obtain⟨x,h1,h2⟩:=Option.bind_eq_some_iff.1 hy;exact((L2 _ _).trans (aY.put _ _ _)).trans (ih _ _ y h2)
             ·exact ay.fail
       ·exact ay.fail
theorem Ww{mem:Nat→Option bE}{t:Ty}{v:aO}{x:t.den}{val:Value}(h:toD t v=some x)(hv:b6 γ mem w v .val [val]){mem':Nat→Option bE}:b6 γ mem' w (.data t x) .val [val]:=by
 unfold toD at h;split at h
 ·obtain⟨q,hq⟩:=Ty.jU h;subst q;subst hq;exact hv
 ·split at h
  ·obtain rfl:=aG h;obtain rfl:val=_:=by simpa [b6] using hv
   exact⟨[.slice none 0 0],.inl ⟨⟨none,rfl⟩,rfl⟩,rfl⟩
  ·cases h
 ·cases h
theorem qt.length{G:List (Nat×Bool)}{items:List (Nat×Oper)}{l:List Oper}(h:qt all G items l):items.length=l.length:=by
 induction h with
 | nil=>rfl
 | cons _ _ _ ih=>simp[ih]
theorem U0{pk:Oper}{dj:Nat}{b:Bool}{v:aO}{K:Act→World→Prop}{Q:Exit→Act→World→Prop}(h:cF B N γ σ a w)(hb:a.tmps[dj]?=some (.bool b)){want:Bool}(hw:b=want)
  (hch:zm σ pk dj want=some v) (hK:∀y,b6 γ σ.mem w v .val [y]→K (a.put pk.dst y) w):pk.wp P a w K Q:=by
 unfold zm at hch;split at hch
 ·rename_i c x y hop;cases hc:Nat.beq c dj with
  | false=>rw[hc] at hch;cases hch
  | true =>
    obtain rfl:=fu hc;rw[hc] at hch;obtain rfl:=aG hch;subst hw;have he:a.eval (.tmp c)=.bool b:=by simp[Act.eval,hb]
    unfold Oper.wp;have hrun:(execOp a.eval pk).run P w=.ok (.value (a.eval (bif b then x else y))) w:=by
     simp only[execOp,hop,he];cases b<;>rfl
    rw[hrun];exact hK _ (h.cc _)
 ·cases hch
theorem Sz.put{G:List (Nat×Bool)}{i:Nat}{o:Oper}{r:List (Nat×Oper)}(h:Sz all G a ((i,o)::r))(v:Value):Sz all G (a.put o.dst v) r:=by
 intro g hg;obtain⟨dj,k1,k2,k3⟩:=h g hg;obtain⟨t1,t2⟩:=yB k3;exact⟨dj,k1,by rw[fA t1];exact k2,t2⟩
theorem U1{d j:Nat}{want:Bool}:∀{items:List (Nat×Oper)} {inner:List Nat},mA d items=(mA d (under j want inner items).1||mA d (under j want inner items).2):=by
 intro items;induction items with
 | nil=>intro inner;rfl
 | cons p r ih =>
   obtain⟨i,o⟩:=p;intro inner;unfold under;cases hg:zl o.guard j want with
   | true=>simp only[fy,mA,Zp];rw[ih (inner:=i::inner)]
   | false =>
     simp only[iA];have both:∀c:Bool,mA d ((i,o)::r)=(mA d (bif c then((i,o)::(under j want (i::inner) r).1,(under j want (i::inner) r).2) else([],(i,o)::r)).1 ||
       mA d (bif c then((i,o)::(under j want (i::inner) r).1,(under j want (i::inner) r).2) else([],(i,o)::r)).2):=by
      intro c;cases c with
      | true=>simp only[fy,mA,Zp];rw[ih (inner:=i::inner)]
      | false=>simp[mA]
     exact both _
theorem U2{p:Option Nat→Prop}{j:Nat}{want:Bool}:∀{items:List (Nat×Oper)} {inner:List Nat},(∀i o,(i,o)∈items→p o.dst) →
  (∀i o,(i,o)∈(under j want inner items).1→p o.dst)∧(∀i o,(i,o)∈(under j want inner items).2→p o.dst):=by
 intro items;induction items with
 | nil=>intro inner h;exact⟨h,h⟩
 | cons q r ih =>
   obtain⟨i0,o0⟩:=q;intro inner h;have h0:=h i0 o0 (sU ..);have hr:∀i o,(i,o)∈r→p o.dst:=fun i o hm=>h i o (vR _ hm);unfold under;cases hg:zl o0.guard j want with
   | true =>
     simp only[fy];obtain⟨k1,k2⟩:=ih (inner:=i0::inner) hr;refine⟨fun i o hm=>?_,k2⟩;rcases List.mem_cons.1 hm with hm|hm
     ·obtain⟨_,rfl⟩:=ec hm;exact h0
     ·exact k1 i o hm
   | false =>
     simp only[iA];have both:∀c:Bool,(∀i o,(i,o)∈(bif c then((i0,o0)::(under j want (i0::inner) r).1,(under j want (i0::inner) r).2) else([],(i0,o0)::r)).1→p o.dst) ∧
       (∀i o,(i,o)∈(bif c then((i0,o0)::(under j want (i0::inner) r).1,(under j want (i0::inner) r).2) else([],(i0,o0)::r)).2→p o.dst):=by
      intro c;cases c with
      | true =>
        obtain⟨k1,k2⟩:=ih (inner:=i0::inner) hr;refine⟨fun i o hm=>?_,k2⟩;rcases List.mem_cons.1 hm with hm|hm
        ·obtain⟨_,rfl⟩:=ec hm;exact h0
        ·exact k1 i o hm
      | false=>exact⟨fun i o hm=>(by cases hm),h⟩
     exact both _
theorem IL{t:Nat}{b:Bool}(h:cF B N γ σ a w)(hs:σ.slots t=.data .bool b):a.tmps[t]?=some (.bool b):=by
 have:=h.slots t;rw[hs] at this;have e:=zp this;rw[YR] at e;cases hq:a.tmps[t]? with
 | none=>rw[hq] at e;cases e
 | some y=>rw[hq] at e;exact congrArg some e
theorem SC{α:Type}{c want:Bool}{t e:Tree α}{y:α}(h:(Tree.node (bif want then c else nt c) t e).run=some y):(c=want∧t.run=some y)∨(c≠want∧c=(!want)∧e.run=some y):=by
 have:=fL h;cases c<;>cases want
 ·exact .inl ⟨rfl,this⟩
 ·exact .inr ⟨by simp,rfl,this⟩
 ·exact .inr ⟨by simp,rfl,this⟩
 ·exact .inl ⟨rfl,this⟩
theorem NT(hc:eW P cx)(dB:oJ P B.G cx)(kX:wk P B.G inl)(hkeep:∀f vals σ v σ',(inl f vals σ).run=some (v,σ')→aY σ σ'){Q:Exit→Act→World→Prop} :
  ∀(n:Nat) {items:List (Nat×Oper)} {l rest:List Oper} {σ σ':St} {γ:Gh} {a:Act} {w:World} {G:List (Nat×Bool)},qt all G items l→Sz all G a items→(∀i o,(i,o)∈items→∀k,o.dst=some k→k<N) →
   (pe cx nb bf inl all n items σ).run=some σ'→cF B N γ σ a w →
   (∀γ' a' w',cF B N γ' σ' a' w'→Ext B γ σ.mem w γ' σ'.mem w'→Fr items a a'→wpList P all Q rest a' w')→wpList P all Q (l++rest) a w:=by
 intro n;induction n with
 | zero=>intro items l rest σ σ' γ a w G _ _ _ hr;cases hr
 | succ n ih =>
   intro items l rest σ σ' γ a w G hit hG hd hr h hK;cases hit with
   | nil =>
     obtain rfl:=aG hr;exact hK γ a w h (Ext.refl _ _ _ _) (fun t _=>rfl)
   | @cons i o o' r l h1 h2 h3 =>
     have US:o'.dst=o.dst:=by rcases h2 with rfl|⟨_,_,_,rfl⟩<;>rfl
     unfold pe at hr;split at hr
     ·rename_i hg;obtain⟨σ1,r1,r2⟩:=bind_some hr;have hw:Region.wanted o (yielded all a.tmps)=true:=by
       rcases h2 with rfl|⟨g,k1,k2,k3⟩
       ·unfold Region.wanted;rw[hg]
       ·exact hG.wanted k1 k2
      have r1':(o9 cx nb bf inl o σ).run=some σ1:=by
       rcases h2 with rfl|⟨g,k1,k2,rfl⟩
       ·exact r1
       ·exact r1
      show wpList P all Q (o::(l++rest)) a w
      unfold wpList;rw[hw];simp only[nk];refine .inl (LS hc dB kX h (fun k hk=>hd i o' (sU ..) k (by rw[US];exact hk)) r1' fun ij v w1 s1 x1=>?_);have hG':=hG.put v;rw[US] at hG';refine ih h3 hG' (fun i o hm=>hd i o (vR _ hm)) r2 s1 fun Hi a2 w2 s2 x2 f2=>hK Hi a2 w2 s2 (x1.trans x2) fun t ht=>?_;obtain⟨t1,t2⟩:=yB ht;rw[f2 t t2,fA (by rw[←US];exact t1)]
     ·rename_i j want hg;dsimp only at hr;split at hr
      ·exact absurd hr (by intro k;cases k)
      rename_i dj hdj;split at hr
      case h_2=>exact absurd hr (by intro k;cases k)
      rename_i c ip pk rest' Fm oK;change Bool at c;cases hh:mA dj (under j want [] ((i,o')::r)).1 with
      | true=>rw[hh] at hr;exact absurd hr (by intro k;cases k)
      | false =>
      rw[hh] at hr;simp only[iA] at hr;split at hr
      ·exact absurd hr (by intro k;cases k)
      rename_i hpg;have aej:a.tmps[dj]?=some (.bool c):=IL h Fm;obtain⟨l1,l2,e1,I1,I2⟩:=Sy (j:=j) (want:=want) (inner:=[]) (qt.cons h1 h2 h3);obtain⟨d1,d2⟩:=U2 (p:=fun d=>∀k,d=some k→k<N) (j:=j) (want:=want) (inner:=[]) hd;have adH:∀d,mA d ((i,o')::r)=(mA d (under j want [] ((i,o')::r)).1||mA d (under j want [] ((i,o')::r)).2):=fun d=>U1;have afx:=fun(SB:c≠want)=>UZ (P:=P) (w:=w) (Q:=Q) hdj SB (qt.cons h1 h2 h3) aej hh (fun k hk=>by cases hk);generalize Wx:(under j want [] ((i,o')::r)).1=g1 at *;rw[oK] at I2 d2 adH;cases I2 with
      | @cons _ YN _ _ l2' p1 p2 p3 =>
      have ZX:pk.dst=YN.dst:=by rcases p2 with rfl|⟨_,_,_,rfl⟩<;>rfl
      have ahq:pk.op=YN.op:=by rcases p2 with rfl|⟨_,_,_,rfl⟩<;>rfl
      rw[e1,qm];have hsplit:∀{d},mA d ((i,o')::r)=false→mA d g1=false∧YN.dst≠some d∧mA d rest'=false:=by
       intro d hd0;rw[adH] at hd0;simp only[CK] at hd0;obtain⟨q1,q2⟩:=yB hd0.2;exact⟨hd0.1,by rw[←ZX];exact q1,q2⟩
      have tail:∀(ij:Gh) (τ σ2:St) (a1:Act) (w1:World) (v:aO) (b:Bool),cF B N ij τ a1 w1→Fr g1 a a1→c=b→zm τ pk dj b=some v →
        (∀y,b6 ij τ.mem w1 v .val [y]→∃Hi,cF B N Hi σ2 (a1.put YN.dst y) w1∧Ext B γ σ.mem w Hi σ2.mem w1)→(pe cx nb bf inl all n rest' σ2).run=some σ' →
        wpList P all Q (YN::l2'++rest) a1 w1:=by
       intro ij τ σ2 a1 w1 v b s1 f1 hcb hch hy hev;have hGp:Sz all G a1 ((ip,pk)::rest'):=fun g hgm=>by
        obtain⟨dj',k1,k2,k3⟩:=hG g hgm;obtain⟨q1,q2,q3⟩:=hsplit k3;refine⟨dj',k1,by rw[f1 dj' q1];exact k2,?_⟩;simp only[mA,CK];refine⟨?_,q3⟩;cases hpk:pk.dst with
        | none=>rfl
        | some k=>exact gK fun e=>q2 (by rw[←ZX,hpk,e])
       have hwp:Region.wanted YN (yielded all a1.tmps)=true:=by
        rcases p2 with rfl|⟨g,k1,k2,k3⟩
        ·unfold Region.wanted;rw[hpg]
        ·exact hGp.wanted k1 k2
       show wpList P all Q (YN::(l2'++rest)) a1 w1
       unfold wpList;rw[hwp];simp only[nk];have ahr:zm τ YN dj b=some v:=by rw[←hch];unfold zm;rw[ahq]
       refine .inl (U0 s1 (by rw[f1 dj hh];exact aej) hcb ahr fun y hyr=>?_);obtain⟨Hi,s2,x2⟩:=hy y hyr;have hGr:=hGp.put y;rw[ZX] at hGr;refine ih p3 hGr (fun i o hm=>d2 i o (vR _ hm)) hev s2 fun γ3 a3 w3 s3 x3 f3=>hK γ3 a3 w3 s3 (x2.trans x3) fun t ht=>?_;obtain⟨q1,q2,q3⟩:=hsplit ht;rw[f3 t q3,fA q2,f1 t q1]
      have adI:∀(τ:St) (d:Option Nat) (v:aO),(τ.aP d v).mem=τ.mem:=fun τ d v=>by cases d<;>rfl
      have hpk:∀k,YN.dst=some k→k<N:=fun k hk=>d2 ip pk (sU ..) k (by rw[ZX];exact hk);have hG1:c=want→Sz all ((j,want)::G) a g1:=fun SB g hgm=>by
       rcases List.mem_cons.1 hgm with rfl|hgm
       ·exact⟨dj,hdj,by rw[←SB];exact aej,hh⟩
       ·obtain⟨dj',k1,k2,k3⟩:=hG g hgm;exact⟨dj',k1,k2,(hsplit k3).1⟩
      have gm:c≠want→(∀a1,Fr g1 a a1→a1.tmps.size=a.tmps.size→a1.defers=a.defers→wpList P all Q (YN::l2'++rest) a1 w)→wpList P all Q (l1++(YN::l2'++rest)) a w:=by
       intro SB hk;obtain⟨m1,m2,q1,q2,q3⟩:=afx SB;rw[e1] at q1;obtain⟨rfl,rfl⟩:=List.append_inj q1 (by rw[q2,I1.length]);exact q3 _ hk
      cases hin:KN cx g1 with
      | true =>
        rw[hin] at hr;simp only[fy] at hr;obtain⟨σ2,hn,hev⟩:=bind_some hr;rcases SC (c:=c) (want:=want) hn with ⟨SB,hn⟩|⟨SB,hcn,hn⟩
        ·obtain⟨τ,t1,t2⟩:=bind_some hn;split at t2
         ·rename_i v hch;obtain rfl:=aG t2;refine ih I1 (hG1 SB) d1 t1 h fun ij a1 w1 s1 x1 f1=>tail ij τ _ a1 w1 v want s1 f1 SB hch (fun y hy=>⟨ij,?_,?_⟩) hev
          ·rw[ZX];exact s1.ve hpk hy
          ·rw[adI];exact x1
         ·exact absurd t2 (by intro k;cases k)
        ·split at hn
         ·rename_i v hch;obtain rfl:=aG hn;refine gm SB fun a1 f1 f2 f3=>tail γ (σ.undef g1) _ a1 w v (!want) (h.undef f1 (f2.trans h.size) (f3.trans h.defers)) f1 hcn hch (fun y hy=>⟨γ,?_,?_⟩) hev
          ·rw[ZX];exact(h.undef f1 (f2.trans h.size) (f3.trans h.defers)).ve hpk hy
          ·rw[adI,uT];exact Ext.refl _ _ _ _
         ·exact absurd hn (by intro k;cases k)
      | false =>
        rw[hin] at hr;simp only[iA] at hr;split at hr
        case h_2=>exact absurd hr (by intro k;cases k)
        rename_i t dp hT hdp;rw[Tree.A5] at hr;obtain⟨x,hn,hev⟩:=Option.bind_eq_some_iff.1 hr;have acn:YN.dst=some dp:=by rw[←ZX];exact hdp
        rcases SC (c:=c) (want:=want) hn with ⟨SB,hn⟩|⟨SB,hcn,hn⟩
        ·obtain⟨τ,t1,t2⟩:=bind_some hn;split at t2
         ·rename_i x' hch;obtain rfl:=aG t2;obtain⟨v,hv1,YL⟩:=Option.bind_eq_some_iff.1 hch;refine ih I1 (hG1 SB) d1 t1 h.gU fun ij a1 w1 s1 x1 f1=>tail ij τ _ a1 w1 v want s1 f1 SB hv1 (fun y hy=>?_) hev;obtain⟨m1,m2⟩:=h.ok.unlock (Qc (Fl hkeep n g1 _ τ t1)) s1.ok x1;have hS:cF B N ij σ a w1:=h.go m2 m1;have hS2:=hS.undef f1 s1.size s1.defers;refine⟨ij,?_,?_⟩
          ·rw[acn];exact hS2.ve (d:=some dp) (fun k hk=>hpk k (by rw[acn];exact hk)) (Ww YL hy)
          ·show Ext B γ σ.mem w ij (σ.undef g1).mem w1
           rw[uT];exact m2
         ·exact absurd t2 (by intro k;cases k)
        ·split at hn
         ·rename_i x' hch;obtain rfl:=aG hn;obtain⟨v,hv1,YL⟩:=Option.bind_eq_some_iff.1 hch;refine gm SB fun a1 f1 f2 f3=>tail γ (σ.undef g1) _ a1 w v (!want) (h.undef f1 (f2.trans h.size) (f3.trans h.defers)) f1 hcn hv1 (fun y hy=>⟨γ,?_,?_⟩) hev
          ·rw[acn];exact(h.undef f1 (f2.trans h.size) (f3.trans h.defers)).ve (d:=some dp) (fun k hk=>hpk k (by rw[acn];exact hk)) (Ww YL hy)
          ·show Ext B γ σ.mem w γ (σ.undef g1).mem w
           rw[uT];exact Ext.refl _ _ _ _
         ·exact absurd hn (by intro k;cases k)
end
end Go.Ge
namespace Go.Ge
open RowKit
section
variable {P:Program} {B:qq} {N:Nat} {γ:Gh} {σ σ':St} {a:Act} {w w':World} {cx:Ctx} {nb:Nat} {bf:List Nat} {inl:Nat→List aO→St→Tree (aO×St)} {ops:Array Oper}
theorem Qd:∀{l:List Oper} {k:Nat},(∀j,l[j]?=ops[k+j]?)→qt ops [] (number k l) l:=by
 intro l;induction l with
 | nil=>intro k _;exact .nil
 | cons o l ih =>
   intro k h;refine .cons ?_ (.inl rfl) (ih fun j=>by have:=h (j+1);simpa [AR,Wp 1 j] using this);have:=h 0;simpa using this.symm
theorem U3:∀{l:List Oper} {k i:Nat} {o:Oper},(i,o)∈number k l→o∈l:=by
 intro l;induction l with
 | nil=>intro k i o h;cases h
 | cons p l ih =>
   intro k i o h;rcases List.mem_cons.1 h with h|h
   ·obtain⟨_,rfl⟩:=ec h;exact sU ..
   ·exact vR _ (ih h)
theorem Qe(hc:eW P cx)(dB:oJ P B.G cx)(kX:wk P B.G inl)(hkeep:∀f vals σ v σ',(inl f vals σ).run=some (v,σ')→aY σ σ'){Q:Exit→Act→World→Prop}{id:Nat}
  (hd:∀o∈ops.toList,∀k,o.dst=some k→k<N) (hr:(Li cx nb bf inl ops σ).run=some σ') (h:cF B N γ σ a w)
  (hK:∀γ' a' w',cF B N γ' σ' a' w'→Ext B γ σ.mem w γ' σ'.mem w'→Fr (number 0 ops.toList) a a'→Q .normal a' w'):(Code.region id ops false).wp P Q a w:=by
 refine wp_region_list ?_;have:=NT (all:=ops) (Q:=Q) (rest:=[]) hc dB kX hkeep _ (Qd (l:=ops.toList) (k:=0) (fun j=>by simp)) (fun g hg=>by cases hg) (fun i o hm=>hd o (U3 hm)) hr h
  (fun γ' a' w' s x f=>wpList_nil (hK γ' a' w' s x f))
 simpa using this
end
end Go.Ge
namespace Go.Ge
open RowKit
def ir(p:Nat→Prop)(σ τ:St):Prop:=∀b,τ.mem b=σ.mem b∨(τ.mem b≠none∧p b)
section
variable {p:Nat→Prop} {σ τ ρ:St}
theorem ir.refl(σ:St):ir p σ σ:=fun _=>.inl rfl
theorem ir.ZW(h:τ.mem=σ.mem):ir p σ τ:=fun b=>.inl (by rw[h])
theorem ir.trans(h:ir p σ τ)(k:ir p τ ρ):ir p σ ρ:=fun b=>by
 rcases k b with k1|k1
 ·rcases h b with h1|⟨h1,h2⟩
  ·exact .inl (k1.trans h1)
  ·exact .inr ⟨by rw[k1];exact h1,h2⟩
 ·exact .inr k1
theorem ir.aP(σ:St)(d:Option Nat)(v:aO):ir p σ (σ.aP d v):=by cases d<;>exact fun _=>.inl rfl
theorem ir.put(σ:St)(d:Nat)(v:aO):ir p σ (σ.put d v):=fun _=>.inl rfl
theorem ir.bT{b:Nat}{bx:bE}(h:p b):ir p σ (σ.bT b bx):=fun c=>by
 by_cases e:c=b
 ·subst e;exact .inr ⟨by simp[St.bT],h⟩
 ·exact .inl (by rw[vf,aM _ e])
end
def aF(p:Nat→Prop)(σ:St)(T:Tree St):Prop:=∀y,T.run=some y→ir p σ y
section
variable {p:Nat→Prop} {σ:St}
theorem aF.fail:aF p σ .fail:=fun y h=>by cases h
theorem aF.ret{σ':St}(h:ir p σ σ'):aF p σ (.ret σ'):=fun y hy=>by obtain rfl:=aG hy;exact h
theorem aF.bif{c:Bool}{t:Tree St}(h:aF p σ t):aF p σ (bif c then t else .fail):=fun y hy=>h y (aB hy).2
theorem aF.need{c:Bool}{t:Tree St}(h:aF p σ t):aF p σ (.need c t):=fun y hy=>h y (bY hy).2
theorem aF.look{T:Type}{o:Option T}{k:T→Tree St}(h:∀x,aF p σ (k x)):aF p σ (.look o k):=fun y hy=>by obtain⟨x,_,h2⟩:=bS hy;exact h x y h2
theorem aF.node{c:Bool}{t e:Tree St}(h:aF p σ t)(k:aF p σ e):aF p σ (.node c t e):=fun y hy=>by
 have:=fL hy;cases c with
 | true=>exact h y this
 | false=>exact k y this
theorem aF.bind{α:Type}{t:Tree α}{f:α→Tree St}(h:∀x,t.run=some x→aF p σ (f x)):aF p σ (t.bind f):=fun y hy=>by obtain⟨x,h1,h2⟩:=bind_some hy;exact h x h1 y h2
theorem aF.aL{b:Nat}{val:aO}{tid:TypeId}{buf:Bool}{d:Nat}{v:Nat→aO}(h:p b):aF p σ (σ.aL b val tid buf fun aA σ=>.ret (σ.put d (v aA))):=fun y hy=>by
 obtain⟨aA,k1,k2⟩:=lQ hy;obtain rfl:=aG k2;exact(ir.bT h).trans (ir.put _ _ _)
theorem L3{σ σ':St}{b:Nat}(hp:∀b,σ.mem b≠none→p b)(h:freeze σ b=some σ'):ir p σ σ':=by
 unfold freeze at h;split at h
 ·rename_i bx hb;cases hro:bx.ro with
  | true=>simp only[hro,fy,uq] at h;rw[←h];exact ir.refl _
  | false =>
    cases hlk:bx.lk with
    | true=>simp[hro,hlk] at h
    | false =>
      simp only[hro,hlk,iA,uq] at h;rw[←h];exact ir.bT (hp b (by rw[hb];simp))
 ·cases h
def Dom(p:Nat→Prop)(σ σ':St):Prop:=(∀b,σ.mem b≠none→p b)→ir p σ σ'∧∀b,σ'.mem b≠none→p b
theorem Dom.refl(σ:St):Dom p σ σ:=fun h=>⟨ir.refl _,h⟩
theorem Dom.trans{σ τ ρ:St}(h:Dom p σ τ)(k:Dom p τ ρ):Dom p σ ρ:=fun hp=>by
 obtain⟨h1,h2⟩:=h hp;obtain⟨k1,k2⟩:=k h2;exact⟨h1.trans k1,k2⟩
theorem Dom.of{σ σ':St}(h:(∀b,σ.mem b≠none→p b)→ir p σ σ'):Dom p σ σ':=fun hp=>by
 refine⟨h hp,fun b hb=>?_⟩;rcases h hp b with k|k
 ·exact hp b (by rw[←k];exact hb)
 ·exact k.2
theorem SD:∀{v:aO} {σ σ':St},gj σ v=some σ'→Dom p σ σ':=by
 intro v;induction v with
 | mix p q UF Si =>
   intro σ σ' h;obtain⟨σ1,h1,h2⟩:=we h;exact(UF h1).trans (Si h2)
 | whole b aA=>intro σ σ' h;exact Dom.of fun hp=>L3 hp h
 | part b aA lo n=>intro σ σ' h;exact Dom.of fun hp=>L3 hp h
 | _=>intro σ σ' h;obtain rfl:=aG h;exact Dom.refl _
theorem yC{t:Ty}{x:t.den}{v:aO}{σ σ':St}(h:yl σ t v=some (x,σ')):Dom p σ σ':=by
 unfold yl at h;split at h
 ·split at h
  ·obtain⟨_,rfl⟩:=ec (aG h);exact Dom.refl _
  ·cases h
 ·split at h
  ·rename_i y σ1 hl hf;obtain⟨_,rfl⟩:=ec (aG h);exact SD hf
  ·cases h
theorem Bm:∀{A:Ty} {x:A.den} {vs:List aO} {σ σ':St},jW σ A vs=some (x,σ')→Dom p σ σ':=by
 intro A;induction A with
 | pair t r Lf ihr =>
   intro x vs σ σ' hl;cases vs with
   | nil=>cases hl
   | cons v vs =>
     simp only[jW] at hl;split at hl
     ·rename_i p σ1 hp;split at hl
      ·rename_i q σ2 hq;obtain⟨_,rfl⟩:=ec (aG hl);exact(yC hp).trans (ihr hq)
      ·cases hl
     ·cases hl
 | unit =>
   intro x vs σ σ' hl;cases vs with
   | nil=>obtain⟨_,rfl⟩:=ec (aG hl);exact Dom.refl _
   | cons v vs=>cases hl
 | _=>intro x vs σ σ' hl;cases vs<;>cases hl
theorem L4{t:Ty}:∀{parts:List (Nat×Operand)} {x x':t.den} {σ σ':St},fT σ t x parts=some (x',σ')→Dom p σ σ':=by
 intro parts;induction parts with
 | nil=>intro x x' σ σ' h;obtain⟨_,rfl⟩:=ec (aG h);exact Dom.refl _
 | cons p r ih =>
   obtain⟨k,o⟩:=p;intro x x' σ σ' h;simp only[fT] at h;split at h
   ·split at h
    ·rename_i hg;split at h
     ·exact(yC hg).trans (ih h)
     ·cases h
    ·cases h
   ·cases h
theorem C3{e:Ty}:∀{parts:List (Nat×Operand)} {l l':List e.den} {σ σ':St},fK σ e l parts=some (l',σ')→Dom p σ σ':=by
 intro parts;induction parts with
 | nil=>intro x x' σ σ' h;obtain⟨_,rfl⟩:=ec (aG h);exact Dom.refl _
 | cons p r ih =>
   obtain⟨k,o⟩:=p;intro l l' σ σ' h;simp only[fK] at h;split at h
   ·rename_i hg;cases hlt:Nat.blt k l.length with
    | false=>rw[hlt] at h;cases h
    | true=>rw[hlt] at h;exact(yC hg).trans (ih h)
   ·cases h
theorem IM{b aA:Nat}{p':List D0}{fit:aO→Bool}{u:aO}{σ σ':St}(hr:(storeAt b aA p' fit u σ).run=some σ'):Dom p σ σ':=Dom.of fun hp=>by
 unfold storeAt at hr;split at hr
 case h_2=>exact absurd hr (by intro k;cases k)
 rename_i bx hb;obtain⟨hc,hr2⟩:=aB hr;obtain⟨old,hn,iD⟩:=bind_some hr2;obtain⟨hfit,mh⟩:=aB iD;obtain⟨c,hs,ND⟩:=bind_some mh;obtain rfl:=aG ND;exact ir.bT (hp b (by rw[hb];simp))
theorem SE{b aA:Nat}{p':List D0}{n:Nat}{u:aO}{σ σ':St}(hr:(ry b aA p' n u σ).run=some σ'):Dom p σ σ':=Dom.of fun hp=>by
 unfold ry at hr;split at hr
 case h_2=>exact absurd hr (by intro k;cases k)
 rename_i bx hb;obtain⟨hc,hr2⟩:=aB hr;obtain⟨old,hn,iD⟩:=bind_some hr2;obtain⟨hfit,mh⟩:=aB iD;obtain⟨c,hs,ND⟩:=bind_some mh;obtain⟨hpc,hr6⟩:=aB ND;obtain rfl:=aG hr6;exact ir.bT (hp b (by rw[hb];simp))
theorem NU{cx:Ctx}{bf:List Nat}{ty:TypeId}{x y:aO}{σ σ':St}(hr:(kI cx bf ty x y σ).run=some σ'):Dom p σ σ':=by
 unfold kI at hr;split at hr
 case h_2=>exact absurd hr (by intro k;cases k)
 split at hr
 case h_2=>exact absurd hr (by intro k;cases k)
 obtain⟨bh,hr2⟩:=aB hr;obtain⟨old,hn,iD⟩:=bind_some hr2;split at iD
 ·rename_i u _;obtain⟨hT,mh⟩:=aB iD;cases hq:cC bf 8000000&&Zx u y with
  | true=>rw[hq] at mh;exact SE mh
  | false =>
  rw[hq] at mh;replace mh:(match yl σ u y with|some (y,σ)=>storeAt _ _ _ (Xn u) (.data u y) σ|none=>.fail).run=some σ':=mh;split at mh
  ·rename_i hg;exact(yC hg).trans (IM mh)
  ·exact absurd mh (by intro k;cases k)
 ·obtain⟨hT,mh⟩:=aB iD;exact IM mh
theorem Bn{cx:Ctx}{nb:Nat}{d:Option Nat}{ty:TypeId}{s x:aO}{σ σ':St}(hn:∀k,d=some k→p (nb+k))(hp:∀b,σ.mem b≠none→p b)(hr:(gJ cx nb d ty s x σ).run=some σ'):ir p σ σ':=by
 unfold gJ at hr;split at hr
 case h_2=>exact absurd hr (by intro k;cases k)
 split at hr
 case h_2=>exact absurd hr (by intro k;cases k)
 split at hr
 ·obtain⟨hf,hr2⟩:=bY hr;exact aF.aL (hn _ rfl) _ hr2
 ·split at hr
  case h_2=>exact absurd hr (by intro k;cases k)
  rename_i bx l hb hl;obtain⟨hlk,jC⟩:=zv hr;obtain⟨hf,hr2⟩:=bY jC;obtain rfl:=aG hr2;exact(ir.bT (hp _ (by rw[hb];simp))).trans (ir.put _ _ _)
 ·exact absurd hr (by intro k;cases k)
theorem U4{b:Nat}{val:aO}{tid:TypeId}{buf:Bool}{d:Nat}{v:Nat→aO}{σ σ':St}(h:p b)(hr:(σ.aL b val tid buf fun aA σ=>.ret (σ.put d (v aA))).run=some σ'):ir p σ σ':=aF.aL h _ hr
theorem NV{nb:Nat}{e:Ty}{d:Option Nat}{args:List aO}{σ σ':St}(hn:∀k,d=some k→p (nb+k))(hp:∀b,σ.mem b≠none→p b)(hr:(kM nb e d args σ).run=some σ'):ir p σ σ':=by
 unfold kM at hr;split at hr
 case h_2=>cases hr
 split at hr
 case h_2=>cases hr
 rename_i hg;obtain⟨_,hr⟩:=aB hr;obtain⟨_,hr⟩:=bY hr;exact((yC hg) hp).1.trans (U4 (hn _ rfl) hr)
theorem SF{e A:Ty}{res:Bool}{spec:List e.den→A.den→Option (List e.den)}{d:Option Nat}{args:List aO}{σ σ':St}(hp:∀b,σ.mem b≠none→p b)(hr:(rA e A res spec d args σ).run=some σ'):ir p σ σ':=by
 unfold rA at hr;split at hr
 case h_2=>cases hr
 split at hr
 case h_2=>cases hr
 rename_i x σ1 hg;split at hr
 case h_2=>cases hr
 rename_i b aA bx l hor;obtain⟨l',_,hr⟩:=bS hr;obtain⟨hb,_⟩:=su hor;obtain⟨g1,g2⟩:=(Bm hg) hp;have key:∀gy,ir p σ1 (σ1.bT b gy):=fun gy=>ir.bT (g2 b (by rw[hb];simp));cases res with
 | true =>
   cases d with
   | none=>cases hr
   | some k=>obtain rfl:=aG hr;exact(g1.trans (key _)).trans (ir.put _ _ _)
 | false =>
   cases d with
   | none=>obtain⟨_,hr⟩:=aB hr;obtain rfl:=aG hr;exact(g1.trans (key _)).trans (ir.aP _ none _)
   | some k=>obtain⟨_,hr⟩:=aB hr;obtain rfl:=aG hr;exact(g1.trans (key _)).trans (ir.aP _ (some _) _)
end
section
variable {cx:Ctx} {nb:Nat} {bf:List Nat} {d:Option Nat} {σ:St} {p:Nat→Prop}
theorem Qf{c a b:aO}:aF p σ (nu d c a b σ):=by unfold nu;(repeat' (first|exact aF.fail|exact aF.ret (ir.aP _ _ _)|exact aF.ret (ir.put _ _ _)|exact aF.aL (by assumption)|refine aF.bif ?_|refine aF.need ?_|refine aF.look fun _=>?_|refine aF.node ?_ ?_|refine aF.bind fun _ _=>?_|split))
theorem Qg{ty:TypeId}{a:aO}:aF p σ (kr cx d ty a σ):=by unfold kr;(repeat' (first|exact aF.fail|exact aF.ret (ir.aP _ _ _)|exact aF.ret (ir.put _ _ _)|exact aF.aL (by assumption)|refine aF.bif ?_|refine aF.need ?_|refine aF.look fun _=>?_|refine aF.node ?_ ?_|refine aF.bind fun _ _=>?_|split))
theorem NW{ty:TypeId}{x:aO}{lo hi:Option Operand}:aF p σ (kJ cx d ty x lo hi σ):=by unfold kJ;(repeat' (first|exact aF.fail|exact aF.ret (ir.aP _ _ _)|exact aF.ret (ir.put _ _ _)|exact aF.aL (by assumption)|refine aF.bif ?_|refine aF.need ?_|refine aF.look fun _=>?_|refine aF.node ?_ ?_|refine aF.bind fun _ _=>?_|split))
theorem XE{b aA:Nat}{i:Int}:∀{m k:Nat},aF p σ (Lh d b aA σ i m k):=by
 intro m;induction m with
 | zero=>intro k;exact aF.fail
 | succ m ih=>intro k;exact aF.node (aF.ret (ir.aP _ _ _)) ih
theorem wo{ty:TypeId}{x:aO}{i:Int}:aF p σ (dN cx d ty x i σ):=by
 unfold dN;split
 case h_6=>split
           ·exact aF.bif XE
           ·exact aF.fail
 all_goals (repeat' (first|exact aF.fail|exact aF.ret (ir.aP _ _ _)|exact aF.ret (ir.put _ _ _)|exact aF.aL (by assumption)|refine aF.bif ?_|refine aF.need ?_|refine aF.look fun _=>?_|refine aF.node ?_ ?_|refine aF.bind fun _ _=>?_|split))
theorem NX{ty:TypeId}{x:aO}{i:Int}:aF p σ (kK cx d ty x i σ):=by
 unfold kK;split
 ·refine aF.bif ?_;split
  ·exact aF.bif (aF.ret (ir.aP _ _ _))
  ·exact aF.fail
 ·exact wo
theorem NY{ty:TypeId}{x:aO}{i:Int}:aF p σ (kL cx d ty x i σ):=by unfold kL;(repeat' (first|exact aF.fail|exact aF.ret (ir.aP _ _ _)|exact aF.ret (ir.put _ _ _)|exact aF.aL (by assumption)|refine aF.bif ?_|refine aF.need ?_|refine aF.look fun _=>?_|refine aF.node ?_ ?_|refine aF.bind fun _ _=>?_|split))
theorem Fo{s:TypeId}{x:aO}{k:Nat}:aF p σ (eB cx d s x k σ):=by unfold eB;(repeat' (first|exact aF.fail|exact aF.ret (ir.aP _ _ _)|exact aF.ret (ir.put _ _ _)|exact aF.aL (by assumption)|refine aF.bif ?_|refine aF.need ?_|refine aF.look fun _=>?_|refine aF.node ?_ ?_|refine aF.bind fun _ _=>?_|split))
theorem Bo{ty:TypeId}{v:aO}(hn:∀k,d=some k→p (nb+k)):aF p σ (jb cx nb bf d ty v σ):=by
 unfold jb;split
 ·(repeat' (first|exact aF.fail|exact aF.ret (ir.aP _ _ _)|exact aF.ret (ir.put _ _ _)|exact aF.aL (by assumption)|refine aF.bif ?_|refine aF.need ?_|refine aF.look fun _=>?_|refine aF.node ?_ ?_|refine aF.bind fun _ _=>?_|split))
 ·split
  ·rename_i k e _;cases cC bf k with
   | true=>exact aF.aL (hn _ rfl)
   | false=>exact aF.ret (ir.put _ _ _)
  ·exact aF.ret (ir.aP _ _ _)
 ·exact aF.ret (ir.aP _ _ _)
theorem JV{s t:TypeId}{x:aO}(hn:∀k,d=some k→p (nb+k)):aF p σ (gx cx nb d s t x σ):=by
 unfold gx;split
 ·(repeat' (first|exact aF.fail|exact aF.ret (ir.aP _ _ _)|exact aF.ret (ir.put _ _ _)|exact aF.aL (by assumption)|refine aF.bif ?_|refine aF.need ?_|refine aF.look fun _=>?_|refine aF.node ?_ ?_|refine aF.bind fun _ _=>?_|split))
 ·(repeat' (first|exact aF.fail|exact aF.ret (ir.aP _ _ _)|exact aF.ret (ir.put _ _ _)|exact aF.aL (by assumption)|refine aF.bif ?_|refine aF.need ?_|refine aF.look fun _=>?_|refine aF.node ?_ ?_|refine aF.bind fun _ _=>?_|split))
 ·split
  ·exact aF.need (aF.aL (hn _ rfl))
  ·exact aF.fail
 ·(repeat' (first|exact aF.fail|exact aF.ret (ir.aP _ _ _)|exact aF.ret (ir.put _ _ _)|exact aF.aL (by assumption)|refine aF.bif ?_|refine aF.need ?_|refine aF.look fun _=>?_|refine aF.node ?_ ?_|refine aF.bind fun _ _=>?_|split))
 ·(repeat' (first|exact aF.fail|exact aF.ret (ir.aP _ _ _)|exact aF.ret (ir.put _ _ _)|exact aF.aL (by assumption)|refine aF.bif ?_|refine aF.need ?_|refine aF.look fun _=>?_|refine aF.node ?_ ?_|refine aF.bind fun _ _=>?_|split))
theorem U5{o:Oper}{ge:Option Nat}(hge:nw o σ=ge)(h3:cls cx ge o≠3)(hn:cls cx ge o≠0→∀k,o.dst=some k→p (nb+k))(hp:cls cx ge o≠0→cls cx ge o≠1→∀b,σ.mem b≠none→p b):aF p σ (o9 cx nb bf A8 o σ):=by
 unfold o9;split
 case h_1 x ho=>exact Bo (hn (by simp[cls,ho]))
 case h_2 x ho=>exact Bo (hn (by simp[cls,ho]))
 case h_3=>exact Qf
 case h_4 e ho =>
  split
  ·rename_i k t hk hT;have h0:cls cx ge o≠0:=by
    cases t<;>simp[cls,ho,hT]
   unfold uR;split
   ·exact absurd (by simp[cls,ho,hT]) h3
   ·exact aF.aL (hn h0 _ (by assumption))
  ·rename_i hT;split
   ·rename_i hO;exact absurd (by simp[cls,ho,hT,hO]) h3
   ·rename_i hO;exact aF.bif (aF.aL (hn (by simp[cls,ho,hT,hO]) _ (by assumption)))
  ·exact aF.fail
 case h_5 e x ho =>
  unfold EO;split
  ·exact aF.fail
  ·exact aF.fail
  ·split
   ·rename_i hO;exact absurd (by simp[cls,ho,hO]) h3
   ·rename_i hO;exact aF.aL (hn (by simp[cls,ho,hO]) _ (by assumption))
  ·exact aF.fail
 case h_6 t ps ho =>
  have hp':=hp (by simp[cls,ho]) (by simp[cls,ho]);split
  ·split
   ·rename_i hb;exact aF.ret ((L4 hb hp').1.trans (ir.aP _ _ _))
   ·exact aF.fail
  ·split
   ·rename_i hb;exact aF.ret ((C3 hb hp').1.trans (ir.aP _ _ _))
   ·exact aF.fail
  ·(repeat' (first|exact aF.fail|exact aF.ret (ir.aP _ _ _)|exact aF.ret (ir.put _ _ _)|exact aF.aL (by assumption)|refine aF.bif ?_|refine aF.need ?_|refine aF.look fun _=>?_|refine aF.node ?_ ?_|refine aF.bind fun _ _=>?_|split))
  ·exact aF.fail
 case h_7 t n ps ho =>
  have hp':=hp (by simp[cls,ho]) (by simp[cls,ho]);split
  ·split
   ·rename_i k bu hparts;exact aF.aL (hn (by simp[cls,ho]) k (Eb bu).1)
   ·refine aF.bif ?_;split
    ·rename_i hb;exact aF.ret ((C3 hb hp').1.trans (ir.aP _ _ _))
    ·exact aF.fail
  ·unfold Cm;split
   ·exact aF.bif (aF.aL (hn (by simp[cls,ho]) _ (by assumption)))
   ·exact aF.fail
  ·exact aF.fail
 case h_8=>exact Qg
 case h_9 t a x ho =>
  have hp':=hp (by simp[cls,ho]) (by simp[cls,ho]);split
  ·exact fun y hy=>(NU hy hp').1
  ·exact aF.fail
 case h_10=>(repeat' (first|exact aF.fail|exact aF.ret (ir.aP _ _ _)|exact aF.ret (ir.put _ _ _)|exact aF.aL (by assumption)|refine aF.bif ?_|refine aF.need ?_|refine aF.look fun _=>?_|refine aF.node ?_ ?_|refine aF.bind fun _ _=>?_|split))
 case h_11=>(repeat' (first|exact aF.fail|exact aF.ret (ir.aP _ _ _)|exact aF.ret (ir.put _ _ _)|exact aF.aL (by assumption)|refine aF.bif ?_|refine aF.need ?_|refine aF.look fun _=>?_|refine aF.node ?_ ?_|refine aF.bind fun _ _=>?_|split))
 case h_12=>(repeat' (first|exact aF.fail|exact aF.ret (ir.aP _ _ _)|exact aF.ret (ir.put _ _ _)|exact aF.aL (by assumption)|refine aF.bif ?_|refine aF.need ?_|refine aF.look fun _=>?_|refine aF.node ?_ ?_|refine aF.bind fun _ _=>?_|split))
 case h_13 s t x ho=>exact JV (hn (by simp[cls,ho]))
 case h_14=>(repeat' (first|exact aF.fail|exact aF.ret (ir.aP _ _ _)|exact aF.ret (ir.put _ _ _)|exact aF.aL (by assumption)|refine aF.bif ?_|refine aF.need ?_|refine aF.look fun _=>?_|refine aF.node ?_ ?_|refine aF.bind fun _ _=>?_|split))
 case h_15=>exact NW
 case h_16=>exact Fo
 case h_17=>(repeat' (first|exact aF.fail|exact aF.ret (ir.aP _ _ _)|exact aF.ret (ir.put _ _ _)|exact aF.aL (by assumption)|refine aF.bif ?_|refine aF.need ?_|refine aF.look fun _=>?_|refine aF.node ?_ ?_|refine aF.bind fun _ _=>?_|split))
 case h_18=>split
            ·cases cC bf 5000000 with
             | true=>exact NX
             | false=>exact wo
            ·exact aF.fail
 case h_19=>split
            ·exact NY
            ·exact aF.fail
 case h_20 t l c ho =>
  split
  ·exact aF.need (aF.need (aF.aL (hn (by simp[cls,ho]) _ (by assumption))))
  ·exact aF.fail
 case h_21=>(repeat' (first|exact aF.fail|exact aF.ret (ir.aP _ _ _)|exact aF.ret (ir.put _ _ _)|exact aF.aL (by assumption)|refine aF.bif ?_|refine aF.need ?_|refine aF.look fun _=>?_|refine aF.node ?_ ?_|refine aF.bind fun _ _=>?_|split))
 case h_22 c ho =>
  unfold u5;split
  ·rename_i b hb;split
   ·(repeat' (first|exact aF.fail|exact aF.ret (ir.aP _ _ _)|exact aF.ret (ir.put _ _ _)|exact aF.aL (by assumption)|refine aF.bif ?_|refine aF.need ?_|refine aF.look fun _=>?_|refine aF.node ?_ ?_|refine aF.bind fun _ _=>?_|split))
   ·have h1:cls cx ge o≠0:=by simp[cls,ho,hb]
    have h2:cls cx ge o≠1:=by simp[cls,ho,hb]
    split
    ·exact fun y hy=>Bn (hn h1) (hp h1 h2) hy
    ·exact fun y hy=>Bn (hn h1) (hp h1 h2) hy
    ·exact aF.fail
   ·exact absurd (by simp[cls,ho,hb]) h3
   ·exact absurd (by simp[cls,ho,hb]) h3
   ·(repeat' (first|exact aF.fail|exact aF.ret (ir.aP _ _ _)|exact aF.ret (ir.put _ _ _)|exact aF.aL (by assumption)|refine aF.bif ?_|refine aF.need ?_|refine aF.look fun _=>?_|refine aF.node ?_ ?_|refine aF.bind fun _ _=>?_|split))
   ·(repeat' (first|exact aF.fail|exact aF.ret (ir.aP _ _ _)|exact aF.ret (ir.put _ _ _)|exact aF.aL (by assumption)|refine aF.bif ?_|refine aF.need ?_|refine aF.look fun _=>?_|refine aF.node ?_ ?_|refine aF.bind fun _ _=>?_|split))
   ·exact aF.fail
  ·rename_i f hf;split
   ·rename_i g caps hop;refine aF.bif ?_;have heq:ge=some g:=by rw[←hge];simp[nw,ho,hf,hop]
    unfold uv;split
    ·rename_i e he;have key:cls cx ge o=2:=by simp[cls,ho,hf,heq,wm he]
     have h1:cls cx ge o≠0:=by rw[key];simp
     have h2:cls cx ge o≠1:=by rw[key];simp
     exact fun y hy=>NV (hn h1) (hp h1 h2) hy
    ·rename_i e A r s he;have key:cls cx ge o=2:=by simp[cls,ho,hf,heq,wm he]
     have h1:cls cx ge o≠0:=by rw[key];simp
     have h2:cls cx ge o≠1:=by rw[key];simp
     exact fun y hy=>SF (hp h1 h2) hy
    rename_i ajy ajz;unfold xh;split
    ·rename_i bF dB;split
     ·split
      ·exact aF.look fun _=>aF.ret (ir.aP _ _ _)
      ·exact aF.fail
     ·rename_i hfl;have key:cls cx ge o=2:=by
       unfold cls;simp only[ho,hf,heq];split
       ·rfl
       ·rfl
       ·simp[dB,hfl]
      have h1:cls cx ge o≠0:=by rw[key];simp
      have h2:cls cx ge o≠1:=by rw[key];simp
      split
      ·rename_i hx;exact aF.look fun _=>aF.ret ((Bm hx (hp h1 h2)).1.trans (ir.aP _ _ _))
      ·exact aF.fail
    ·rename_i dB;split
     ·rename_i s SG;unfold Cl;split
      ·exact absurd (by simp[cls,ho,hf,heq,dB,SG]) h3
      ·exact absurd (by simp[cls,ho,hf,heq,dB,SG]) h3
      ·exact aF.fail
     ·rename_i SG;exact absurd (by simp[cls,ho,hf,heq,dB,SG]) h3
   ·exact aF.fail
  ·rename_i r name hf;have key:cls cx ge o=2:=by simp[cls,ho,hf]
   have h1:cls cx ge o≠0:=by rw[key];simp
   have h2:cls cx ge o≠1:=by rw[key];simp
   unfold qN;split
   ·split
    ·rename_i hx;exact aF.look fun _=>aF.ret ((Bm hx (hp h1 h2)).1.trans (ir.aP _ _ _))
    ·exact aF.fail
   ·exact aF.fail
 case h_23 u x ho =>
  have key:cls cx ge o=2:=by simp[cls,ho]
  have h1:cls cx ge o≠0:=by rw[key];simp
  have h2:cls cx ge o≠1:=by rw[key];simp
  unfold qM;split
  ·split
   ·split
    ·rename_i hx;exact aF.ret ((yC hx (hp h1 h2)).1.trans (ir.aP _ _ _))
    ·exact aF.fail
   ·exact aF.fail
  ·exact aF.fail
 case h_24=>exact aF.fail
end
end Go.Ge
namespace Go.Ge
open RowKit
def Le(σ1 σ2:St):Prop:=∀b bx,σ1.mem b=some bx→σ2.mem b=some bx
structure Rel (σ1 σ2 nx nh:St):Prop where
 s1:nx.slots=σ1.slots
 s2:nh.slots=σ2.slots
 m:∀b,nh.mem b=match nx.mem b with|some x=>some x|none=>σ2.mem b
 nv:∀b,nx.mem b=none→σ1.mem b=none
section
variable {σ1 σ2 nx nh ρ1 ρ2:St}
theorem Rel.refl(h:Le σ1 σ2):Rel σ1 σ2 σ1 σ2 where
 s1:=rfl
 s2:=rfl
 m:=fun b=>by
  cases hb:σ1.mem b with
  | none=>rfl
  | some x=>exact h b x hb
 nv:=fun _ h=>h
theorem Rel.le(h:Rel σ1 σ2 nx nh):Le nx nh:=fun b bx hb=>by rw[h.m,hb]
theorem Rel.trans(h:Rel σ1 σ2 nx nh)(k:Rel nx nh ρ1 ρ2):Rel σ1 σ2 ρ1 ρ2 where
 s1:=k.s1.trans h.s1
 s2:=k.s2.trans h.s2
 m:=fun b=>by
  rw[k.m b];cases hb:ρ1.mem b with
  | some x=>rfl
  | none=>simp only;rw[h.m b,k.nv b hb]
 nv:=fun b hb=>h.nv b (k.nv b hb)
theorem Rel.bT(hle:Le σ1 σ2){b:Nat}{bx:bE}:Rel σ1 σ2 (σ1.bT b bx) (σ2.bT b bx) where
 s1:=rfl
 s2:=rfl
 m:=fun c=>by
  by_cases e:c=b
  ·subst e;simp[St.bT]
  ·rw[vf,vf,aM _ e,aM _ e];exact(Rel.refl hle).m c
 nv:=fun c hc=>by
  by_cases e:c=b
  ·subst e;simp[St.bT] at hc
  ·rw[vf,aM _ e] at hc;exact hc
theorem Cr{σ τ:St}(h:τ.slots=σ.slots)(x:Operand):cc τ x=cc σ x:=by
 cases x<;>simp[cc,h]
theorem Ct(h:Le σ1 σ2){e:Ty}{v:aO}{l:List e.den}(hl:fS e σ1 v=some l):fS e σ2 v=some l:=by
 unfold fS at hl⊢;cases v with
 | whole b aA =>
   simp only at hl⊢;cases hb:σ1.mem b with
   | none=>rw[hb] at hl;cases hl
   | some bx=>rw[hb] at hl;rw[h b bx hb];exact hl
 | part b aA lo n =>
   simp only at hl⊢;cases hb:σ1.mem b with
   | none=>rw[hb] at hl;cases hl
   | some bx=>rw[hb] at hl;rw[h b bx hb];exact hl
 | data u y=>cases u<;>exact hl
 | _=>exact hl
theorem Wy(h:Le σ1 σ2):∀{t:Ty} {v:aO} {x:t.den},qo σ1 t v=some x→qo σ2 t v=some x:=by
 intro t;induction t with
 | slice e ih=>intro v x hl;exact Ct h hl
 | pair a b jm lG =>
   intro v x hl;cases v with
   | mix p q =>
     obtain⟨y,z,h1,h2,rfl⟩:=E5 hl;exact O2 (jm h1) (lG h2)
   | data u y=>exact hl
   | _=>cases hl
 | alt u a r jm ihr =>
   intro v x hl;cases v with
   | sg=>exact(oI hl).2.1 _
   | _=>exact hl
 | _=>intro v x hl;cases v<;>exact hl
theorem pI(h:Le σ1 σ2){b aA:Nat}(hl:live σ1 b aA=true):live σ2 b aA=true:=by
 unfold live at hl⊢;cases hb:σ1.mem b with
 | none=>rw[hb] at hl;cases hl
 | some bx=>rw[hb] at hl;rw[h b bx hb];exact hl
theorem ZY(h:Le σ1 σ2){v:aO}{n:Int}(hl:lenOf σ1 v=some n):lenOf σ2 v=some n:=by
 unfold lenOf at hl⊢;cases v with
 | whole b aA =>
   simp only at hl⊢;cases hb:σ1.mem b with
   | none=>rw[hb] at hl;cases hl
   | some bx=>rw[hb] at hl;rw[h b bx hb];exact hl
 | part b aA lo n' =>
   simp only at hl⊢;cases hv:live σ1 b aA with
   | false=>rw[hv] at hl;cases hl
   | true=>rw[hv] at hl;rw[pI h hv];exact hl
 | data u y=>cases u<;>exact hl
 | _=>exact hl
theorem XF(h:Le σ1 σ2){e:Ty}{v:aO}{l:List e.den}(hl:uZ e σ1 v=some l):uZ e σ2 v=some l:=by
 unfold uZ at hl⊢;split at hl
 ·exact hl
 ·exact Ct h hl
theorem L7(h:Le σ1 σ2){b aA:Nat}{r:Ty×Int}(hl:zi σ1 b aA=some r):zi σ2 b aA=some r:=by
 unfold zi at hl⊢;cases hb:σ1.mem b with
 | none=>rw[hb] at hl;cases hl
 | some bx=>rw[hb] at hl;rw[h b bx hb];exact hl
theorem O7(h:Le σ1 σ2){b:Nat}(hf:freeze σ1 b=some nx):∃nh,freeze σ2 b=some nh∧Rel σ1 σ2 nx nh:=by
 unfold freeze at hf⊢;cases hb:σ1.mem b with
 | none=>rw[hb] at hf;cases hf
 | some bx =>
   rw[hb] at hf;rw[h b bx hb];simp only at hf⊢;cases hro:bx.ro with
   | true =>
     simp only[hro,fy,uq] at hf⊢;subst hf;exact⟨_,rfl,Rel.refl h⟩
   | false =>
     cases hlk:bx.lk with
     | true=>simp[hro,hlk] at hf
     | false =>
       simp only[hro,hlk,iA,uq] at hf⊢;subst hf;exact⟨_,rfl,Rel.bT h⟩
theorem U6:∀{v:aO} {σ1 σ2 nx:St},Le σ1 σ2→gj σ1 v=some nx→∃nh,gj σ2 v=some nh∧Rel σ1 σ2 nx nh:=by
 intro v;induction v with
 | mix p q UF Si =>
   intro σ1 σ2 nx h hf;obtain⟨ρ1,h1,h2⟩:=we hf;obtain⟨ρ2,k1,k2⟩:=UF h h1;obtain⟨nh,k3,k4⟩:=Si k2.le h2;exact⟨nh,by simp only[gj,k1,k3],k2.trans k4⟩
 | whole b aA=>intro σ1 σ2 nx h hf;exact O7 h hf
 | part b aA lo n=>intro σ1 σ2 nx h hf;exact O7 h hf
 | _=>intro σ1 σ2 nx h hf;obtain rfl:=aG hf;exact⟨_,rfl,Rel.refl h⟩
theorem Cu(h:Le σ1 σ2){t:Ty}{x:t.den}{v:aO}(hg:yl σ1 t v=some (x,nx)):∃nh,yl σ2 t v=some (x,nh)∧Rel σ1 σ2 nx nh:=by
 unfold yl at hg⊢;cases v with
 | data u y =>
   simp only at hg⊢;split at hg
   ·rename_i z hz;obtain⟨rfl,rfl⟩:=ec (aG hg);exact⟨_,rfl,Rel.refl h⟩
   ·cases hg
 | _ =>
   simp only at hg⊢;split at hg
   ·rename_i y ρ1 hl hf;obtain⟨rfl,rfl⟩:=ec (aG hg);obtain⟨nh,k1,k2⟩:=U6 h hf;rw[Wy h hl,k1];exact⟨nh,rfl,k2⟩
   ·cases hg
theorem Ed:∀{A:Ty} {x:A.den} {vs:List aO} {σ1 σ2 nx:St},Le σ1 σ2→jW σ1 A vs=some (x,nx)→∃nh,jW σ2 A vs=some (x,nh)∧Rel σ1 σ2 nx nh:=by
 intro A;induction A with
 | pair t r Lf ihr =>
   intro x vs σ1 σ2 nx h hl;cases vs with
   | nil=>cases hl
   | cons v vs =>
     simp only[jW] at hl⊢;split at hl
     ·rename_i p ρ1 hp;obtain⟨ρ2,k1,k2⟩:=Cu h hp;split at hl
      ·rename_i q ajA hq;obtain⟨rfl,rfl⟩:=ec (aG hl);obtain⟨nh,k3,k4⟩:=ihr k2.le hq;exact⟨nh,by simp only[k1,k3],k2.trans k4⟩
      ·cases hl
     ·cases hl
 | unit =>
   intro x vs σ1 σ2 nx h hl;cases vs with
   | nil=>obtain⟨rfl,rfl⟩:=ec (aG hl);exact⟨_,rfl,Rel.refl h⟩
   | cons v vs=>cases hl
 | _=>intro x vs σ1 σ2 nx h hl;cases vs<;>cases hl
theorem NZ{t:Ty}:∀{parts:List (Nat×Operand)} {x x':t.den} {σ1 σ2 nx:St},Le σ1 σ2→(∀o∈parts.map (·.2),cc σ1 o=cc σ2 o)→fT σ1 t x parts=some (x',nx) →
  ∃nh,fT σ2 t x parts=some (x',nh)∧Rel σ1 σ2 nx nh:=by
 intro parts;induction parts with
 | nil=>intro x x' σ1 σ2 nx h ho hl;obtain⟨rfl,rfl⟩:=ec (aG hl);exact⟨_,rfl,Rel.refl h⟩
 | cons p r ih =>
   obtain⟨k,o⟩:=p;intro x x' σ1 σ2 nx h ho hl;have h0:cc σ1 o=cc σ2 o:=ho o (by simp);simp only[fT] at hl⊢;split at hl
   ·rename_i u hu;split at hl
    ·rename_i y ρ1 hg;rw[h0] at hg;obtain⟨ρ2,k1,k2⟩:=Cu h hg;split at hl
     ·rename_i z hz;obtain⟨nh,k3,k4⟩:=ih k2.le (fun o' ho'=>by rw[Cr k2.s1,Cr k2.s2];exact ho o' (by simp at ho'⊢;exact .inr ho')) hl;exact⟨nh,by simp only[k1,hz,k3],k2.trans k4⟩
     ·cases hl
    ·cases hl
   ·cases hl
theorem Fq{e:Ty}:∀{parts:List (Nat×Operand)} {l l':List e.den} {σ1 σ2 nx:St},Le σ1 σ2→(∀o∈parts.map (·.2),cc σ1 o=cc σ2 o)→fK σ1 e l parts=some (l',nx) →
  ∃nh,fK σ2 e l parts=some (l',nh)∧Rel σ1 σ2 nx nh:=by
 intro parts;induction parts with
 | nil=>intro x x' σ1 σ2 nx h ho hl;obtain⟨rfl,rfl⟩:=ec (aG hl);exact⟨_,rfl,Rel.refl h⟩
 | cons p r ih =>
   obtain⟨k,o⟩:=p;intro l l' σ1 σ2 nx h ho hl;have h0:cc σ1 o=cc σ2 o:=ho o (by simp);simp only[fK] at hl⊢;split at hl
   ·rename_i y ρ1 hg;rw[h0] at hg;obtain⟨ρ2,k1,k2⟩:=Cu h hg;cases hlt:Nat.blt k l.length with
    | false=>rw[hlt] at hl;cases hl
    | true =>
      rw[hlt] at hl;obtain⟨nh,k3,k4⟩:=ih k2.le (fun o' ho'=>by rw[Cr k2.s1,Cr k2.s2];exact ho o' (by simp at ho'⊢;exact .inr ho')) hl;exact⟨nh,by simp only[k1,fy,k3],k2.trans k4⟩
   ·cases hl
def lift(σ2:St)(d:Option Nat)(y:St):St :=
 { slots:=match d with|some d=>fun t=>bif Nat.beq t d then y.slots d else σ2.slots t|none=>σ2.slots
   mem:=fun b=>match y.mem b with|some x=>some x|none=>σ2.mem b }
theorem XG(R:Rel σ1 σ2 nx nh)(d:Option Nat)(v:aO):lift σ2 d (nx.aP d v)=nh.aP d v:=by
 have hm:(fun b=>match nx.mem b with|some x=>some x|none=>σ2.mem b)=nh.mem:=funext fun b=>(R.m b).symm;cases d with
 | none=>simp only[lift,St.aP,hm,←R.s2]
 | some d =>
   simp only[lift,St.aP,St.put,hm,←R.s2]
   congr 1
   funext t;cases hb:Nat.beq t d with
   | true=>simp
   | false=>simp
def LT(σ2:St)(d:Option Nat)(T1 T2:Tree St):Prop:=∀y,T1.run=some y→T2.run=some (lift σ2 d y)
variable {d:Option Nat}
theorem LT.fail{T:Tree St}:LT σ2 d .fail T:=fun y h=>by cases h
theorem LT.ret(R:Rel σ1 σ2 nx nh){v:aO}:LT σ2 d (.ret (nx.aP d v)) (.ret (nh.aP d v)):=fun y h=>by
 obtain rfl:=aG h;rw[XG R];rfl
theorem LT.U7(R:Rel σ1 σ2 nx nh){k:Nat}{v:aO}:LT σ2 (some k) (.ret (nx.put k v)) (.ret (nh.put k v)):=LT.ret (d:=some k) R
theorem LT.store(R:Rel σ1 σ2 nx nh):LT σ2 none (.ret nx) (.ret nh):=LT.ret (d:=none) (v:=.undef) R
theorem LT.bif{c:Bool}{t u:Tree St}(h:LT σ2 d t u):LT σ2 d (bif c then t else .fail) (bif c then u else .fail):=by cases c<;>first|exact LT.fail|exact h
theorem LT.SH{c c':Bool}{t u:Tree St}(hc:c=true→c'=true)(h:LT σ2 d t u):LT σ2 d (bif c then t else .fail) (bif c' then u else .fail):=by
 cases c with
 | false=>exact LT.fail
 | true=>rw[hc rfl];exact h
theorem LT.need{c:Bool}{t u:Tree St}(h:LT σ2 d t u):LT σ2 d (.need c t) (.need c u):=fun y hy=>by
 obtain⟨rfl,h2⟩:=bY hy;exact h y h2
theorem LT.look{T:Type}{o:Option T}{k k':T→Tree St}(h:∀x,LT σ2 d (k x) (k' x)):LT σ2 d (.look o k) (.look o k'):=fun y hy=>by
 obtain⟨x,rfl,h2⟩:=bS hy;exact h x y h2
theorem LT.node{c:Bool}{t e t' e':Tree St}(h:LT σ2 d t t')(k:LT σ2 d e e'):LT σ2 d (.node c t e) (.node c t' e'):=fun y hy=>by
 have:=fL hy;cases c with
 | true=>exact h y this
 | false=>exact k y this
theorem LT.bind{α:Type}{t:Tree α}{f g:α→Tree St}(h:∀x,t.run=some x→LT σ2 d (f x) (g x)):LT σ2 d (t.bind f) (t.bind g):=fun y hy=>by
 obtain⟨x,h1,h2⟩:=bind_some hy;rw[Tree.run_bind,h1];exact h x h1 y h2
theorem LT.aL(hle:Le σ1 σ2){k:Nat}{b:Nat}(hb:σ1.mem b=σ2.mem b){val:aO}{tid:TypeId}{buf:Bool}{v:Nat→aO} :
  LT σ2 (some k) (σ1.aL b val tid buf fun aA σ=>.ret (σ.put k (v aA))) (σ2.aL b val tid buf fun aA σ=>.ret (σ.put k (v aA))):=by
 unfold St.aL;rw[←hb];cases hq:σ1.mem b with
 | none=>exact LT.U7 (Rel.bT hle)
 | some bx =>
   simp only;cases bx.lk with
   | true=>exact LT.fail
   | false=>exact LT.U7 (Rel.bT hle)
theorem LT.mem(hle:Le σ1 σ2){b:Nat}{f g:Option bE→Tree St}(h0:f none=.fail)(h:∀bx,σ1.mem b=some bx→LT σ2 d (f (some bx)) (g (some bx))):LT σ2 d (f (σ1.mem b)) (g (σ2.mem b)):=by
 cases hb:σ1.mem b with
 | none=>rw[h0];exact LT.fail
 | some bx=>rw[hle b bx hb];exact h bx hb
end
end Go.Ge
namespace Go.Ge
open RowKit
section
variable {σ1 σ2:St} {d:Option Nat} {cx:Ctx} {nb:Nat} {bf:List Nat} {inl:Nat→List aO→St→Tree (aO×St)}
theorem C4(hle:Le σ1 σ2)(hb:∀k,d=some k→σ1.mem (nb+k)=σ2.mem (nb+k)){ty:TypeId}{v:aO}:LT σ2 d (jb cx nb bf d ty v σ1) (jb cx nb bf d ty v σ2):=by
 have R:=Rel.refl hle;unfold jb;cases v with
 | undef=>exact LT.bif (LT.ret R)
 | nr =>
   simp only;split
   ·rename_i k e _;cases cC bf k with
    | true=>exact LT.aL hle (hb k rfl)
    | false=>exact LT.U7 R
   ·exact LT.ret R
 | _=>exact LT.ret R
theorem SI(hle:Le σ1 σ2){c a b:aO}:LT σ2 d (nu d c a b σ1) (nu d c a b σ2):=by
 have R:=Rel.refl hle;unfold nu;split
 ·split
  ·split
   ·exact LT.ret R
   ·exact LT.fail
  ·exact LT.node (LT.ret R) (LT.ret R)
 ·exact LT.fail
theorem SJ(hle:Le σ1 σ2){ty:TypeId}{a:aO}:LT σ2 d (kr cx d ty a σ1) (kr cx d ty a σ2):=by
 have R:=Rel.refl hle;unfold kr;cases a with
 | cell u x=>exact LT.bif (LT.ret R)
 | ptr b aA p =>
   ((try dsimp only);split<;>first|exact LT.fail|(rename_i hq;rw[(hle b) _ hq];try dsimp only))
   exact LT.bif (LT.bind fun x _=>LT.bif (LT.ret R))
 | _=>exact LT.fail
theorem L8{nx nh:St}(R:Rel σ1 σ2 nx nh){b aA:Nat}{p:List D0}{fit:aO→Bool}{v:aO}:LT σ2 none (storeAt b aA p fit v nx) (storeAt b aA p fit v nh):=by
 unfold storeAt
 ((try dsimp only);split<;>first|exact LT.fail|(rename_i hq;rw[(R.le b) _ hq];try dsimp only))
 exact LT.bif (LT.bind fun x _=>LT.bif (LT.bind fun c _=>LT.store (R.trans (Rel.bT R.le))))
theorem LT.aht{c:Bool}{t u t' u':Tree St}(h:LT σ2 d t u)(h':LT σ2 d t' u'):LT σ2 d (bif c then t else t') (bif c then u else u'):=by cases c<;>first|exact h'|exact h
theorem U8{nx nh:St}(R:Rel σ1 σ2 nx nh){b aA:Nat}{p:List D0}{n:Nat}{v:aO}:LT σ2 none (ry b aA p n v nx) (ry b aA p n v nh):=by
 unfold ry
 ((try dsimp only);split<;>first|exact LT.fail|(rename_i hq;rw[(R.le b) _ hq];try dsimp only))
 exact LT.bif (LT.bind fun x _=>LT.bif (LT.bind fun c _=>LT.bif (LT.store (R.trans (Rel.bT R.le)))))
theorem Qh(hle:Le σ1 σ2){bf:List Nat}{ty:TypeId}{a v:aO}:LT σ2 none (kI cx bf ty a v σ1) (kI cx bf ty a v σ2):=by
 have R:=Rel.refl hle;unfold kI;cases a with
 | ptr b aA p =>
   ((try dsimp only);split<;>first|exact LT.fail|(rename_i hq;rw[(hle b) _ hq];try dsimp only))
   refine LT.bif (LT.bind fun old _=>?_);split
   ·refine LT.bif (LT.aht (U8 R) ?_);split
    ·rename_i y nx hg;obtain⟨nh,k1,k2⟩:=Cu hle hg;rw[k1];exact L8 k2
    ·exact LT.fail
   ·exact LT.bif (L8 R)
 | _=>exact LT.fail
theorem XH{n:Int}{lo hi:Option Operand}(ho:∀x∈lo.toList++hi.toList,cc σ1 x=cc σ2 x):bounds σ1 n lo hi=bounds σ2 n lo hi:=by
 unfold bounds;cases lo<;>cases hi<;>simp only<;>simp at ho<;>simp[ho]
theorem Qi(hle:Le σ1 σ2){ty:TypeId}{x:aO}{lo hi:Option Operand}(ho:∀x∈lo.toList++hi.toList,cc σ1 x=cc σ2 x):LT σ2 d (kJ cx d ty x lo hi σ1) (kJ cx d ty x lo hi σ2):=by
 have R:=Rel.refl hle;have hbd:∀n,bounds σ1 n lo hi=bounds σ2 n lo hi:=fun n=>XH ho;unfold kJ;split
 ·rename_i s _;rw[hbd]
  ((try dsimp only);split<;>first|exact LT.fail|skip)
  exact LT.need (LT.ret R)
 ·rw[hbd];refine LT.bif ?_
  ((try dsimp only);split<;>first|exact LT.fail|skip)
  exact LT.need (LT.ret R)
 ·rename_i u c aA l n _
  ((try dsimp only);split<;>first|exact LT.fail|(rename_i hq;rw[(hle c) _ hq];try dsimp only))
  refine LT.bif ?_;rw[hbd]
  ((try dsimp only);split<;>first|exact LT.fail|skip)
  exact LT.need (LT.ret R)
 ·rename_i u c aA _
  ((try dsimp only);split<;>first|exact LT.fail|(rename_i hq;rw[(hle c) _ hq];try dsimp only))
  refine LT.bif ?_;split
  ·refine LT.bif ?_;split
   ·exact LT.ret R
   ·rw[hbd]
    ((try dsimp only);split<;>first|exact LT.fail|skip)
    exact LT.need (LT.ret R)
  ·exact LT.fail
 ·rw[hbd];refine LT.SH (fun h=>?_) ?_
  ·simp only[dW] at h⊢;exact⟨pI hle h.1,h.2⟩
  ·((try dsimp only);split<;>first|exact LT.fail|skip)
   exact LT.need (LT.ret R)
 ·rename_i m u c aA _
  ((try dsimp only);split<;>first|exact LT.fail|(rename_i hq;rw[(hle c) _ hq];try dsimp only))
  refine LT.bif ?_;split
  ·rw[hbd];refine LT.bif ?_
   ((try dsimp only);split<;>first|exact LT.fail|skip)
   exact LT.need (LT.ret R)
  ·exact LT.fail
 ·exact LT.fail
theorem ZZ(hle:Le σ1 σ2){b aA:Nat}{i:Int}:∀{m k:Nat},LT σ2 d (Lh d b aA σ1 i m k) (Lh d b aA σ2 i m k):=by
 intro m;induction m with
 | zero=>intro k;exact LT.fail
 | succ m ih=>intro k;exact LT.node (LT.ret (Rel.refl hle)) ih
theorem yD(hle:Le σ1 σ2){ty:TypeId}{x:aO}{i:Int}:LT σ2 d (dN cx d ty x i σ1) (dN cx d ty x i σ2):=by
 have R:=Rel.refl hle;unfold dN;split
 ·exact LT.bif (LT.look fun _=>LT.ret R)
 ·exact LT.bif (LT.look fun _=>LT.ret R)
 ·((try dsimp only);split<;>first|exact LT.fail|(rename_i hq;rw[((fun r (hr:_=some r)=>L7 hle hr)) _ hq];try dsimp only))
  exact LT.bif (LT.need (LT.ret R))
 ·((try dsimp only);split<;>first|exact LT.fail|(rename_i hq;rw[((fun r (hr:_=some r)=>L7 hle hr)) _ hq];try dsimp only))
  exact LT.bif (LT.need (LT.ret R))
 ·exact LT.SH (fun h=>pI hle h) (LT.need (LT.ret R))
 ·split
  ·refine LT.SH (fun h=>?_) (ZZ hle);simp only[dW] at h⊢;exact⟨h.1,pI hle h.2⟩
  ·exact LT.fail
 ·exact LT.fail
theorem Qj(hle:Le σ1 σ2){ty:TypeId}{x:aO}{i:Int}:LT σ2 d (kK cx d ty x i σ1) (kK cx d ty x i σ2):=by
 have R:=Rel.refl hle;unfold kK;split
 ·refine LT.SH (fun h=>?_) ?_
  ·simp only[dW] at h⊢;exact⟨h.1,pI hle h.2⟩
  ·split
   ·exact LT.bif (LT.ret R)
   ·exact LT.fail
 ·exact yD hle
theorem Qk(hle:Le σ1 σ2){ty:TypeId}{x:aO}{i:Int}:LT σ2 d (kL cx d ty x i σ1) (kL cx d ty x i σ2):=by
 have R:=Rel.refl hle;unfold kL;split
 ·exact LT.look fun _=>LT.ret R
 ·exact LT.bif (LT.look fun _=>LT.ret R)
 ·exact LT.fail
theorem Ht(hle:Le σ1 σ2){s:TypeId}{x:aO}{k:Nat}:LT σ2 d (eB cx d s x k σ1) (eB cx d s x k σ2):=by
 have R:=Rel.refl hle;unfold eB;split
 ·refine LT.bif ?_;split
  ·exact LT.ret R
  ·exact LT.fail
 ·refine LT.SH (fun h=>pI hle h) ?_;split
  ·split
   ·exact LT.ret R
   ·exact LT.fail
  ·split
   ·split
    ·exact LT.ret R
    ·exact LT.fail
   ·exact LT.fail
 ·exact LT.fail
theorem L9(hle:Le σ1 σ2)(hb:∀k,d=some k→σ1.mem (nb+k)=σ2.mem (nb+k)){s t:TypeId}{x:aO}:LT σ2 d (gx cx nb d s t x σ1) (gx cx nb d s t x σ2):=by
 have R:=Rel.refl hle;unfold gx;split
 ·exact LT.ret R
 ·exact LT.ret R
 ·split
  ·exact LT.need (LT.aL hle (hb _ rfl))
  ·exact LT.fail
 ·((try dsimp only);split<;>first|exact LT.fail|(rename_i hq;rw[((fun r (hr:_=some r)=>Ct hle hr)) _ hq];try dsimp only))
  exact LT.ret R
 ·exact LT.fail
theorem C5(hle:Le σ1 σ2)(hb:∀k,d=some k→σ1.mem (nb+k)=σ2.mem (nb+k)){ty:TypeId}{s x:aO}:LT σ2 d (gJ cx nb d ty s x σ1) (gJ cx nb d ty s x σ2):=by
 have R:=Rel.refl hle;unfold gJ;split
 ·rename_i k e _
  ((try dsimp only);split<;>first|exact LT.fail|(rename_i hq;rw[((fun r (hr:_=some r)=>XF hle hr)) _ hq];try dsimp only))
  split
  ·exact LT.need (LT.aL hle (hb _ rfl))
  ·rename_i b aA;cases hq:σ1.mem b with
   | none=>exact LT.fail
   | some bx =>
     rw[hle b bx hq];cases hl:fS e σ1 (.whole b aA) with
     | none=>exact LT.fail
     | some l =>
       rw[Ct hle hl];simp only;cases (bx.lk||!ad2 cx ty bx.tid) with
       | true=>exact LT.fail
       | false=>exact LT.need (LT.U7 (Rel.bT hle))
  ·exact LT.fail
 ·exact LT.fail
theorem XI(hle:Le σ1 σ2){f:Nat}{args:List aO}(hcf:find cx.bF f≠none):LT σ2 d (xh cx A8 d f args σ1) (xh cx inl d f args σ2):=by
 have R:=Rel.refl hle;unfold xh;split
 ·split
  ·have key:∀{A:Ty} {vs:List aO} {x:A.den},gT σ1 A vs=some x→gT σ2 A vs=some x:=by
    intro A;induction A with
    | pair t r Lf ihr =>
      intro vs x hl;cases vs with
      | nil=>cases hl
      | cons v vs =>
        simp only[gT] at hl⊢;split at hl
        ·rename_i p q hp hq;rw[Wy hle hp,ihr hq];exact hl
        ·cases hl
    | unit=>intro vs x hl;cases vs<;>exact hl
    | _=>intro vs x hl;cases vs<;>cases hl
   ((try dsimp only);split<;>first|exact LT.fail|(rename_i hq;rw[((fun r (hr:_=some r)=>key hr)) _ hq];try dsimp only))
   exact LT.look fun _=>LT.ret R
  ·split
   ·rename_i x nx hg;obtain⟨nh,k1,k2⟩:=Ed hle hg;rw[k1];exact LT.look fun _=>LT.ret k2
   ·exact LT.fail
 ·rename_i hn;exact absurd hn hcf
theorem LT.aco{nx nh:St}(R:Rel σ1 σ2 nx nh){k:Nat}{b:Nat}(hb:σ1.mem b=σ2.mem b){val:aO}{tid:TypeId}{buf:Bool}{v:Nat→aO} :
  LT σ2 (some k) (nx.aL b val tid buf fun aA σ=>.ret (σ.put k (v aA))) (nh.aL b val tid buf fun aA σ=>.ret (σ.put k (v aA))):=by
 have hq:nx.mem b=nh.mem b:=by
  rw[R.m b];cases h:nx.mem b with
  | some x=>rfl
  | none=>simp only;rw[←hb,R.nv b h]
 unfold St.aL;rw[←hq];cases nx.mem b with
 | none=>exact LT.U7 (R.trans (Rel.bT R.le))
 | some bx =>
   simp only;cases bx.lk with
   | true=>exact LT.fail
   | false=>exact LT.U7 (R.trans (Rel.bT R.le))
theorem Ql(hle:Le σ1 σ2)(hb:∀k,d=some k→σ1.mem (nb+k)=σ2.mem (nb+k)){e:Ty}{args:List aO}:LT σ2 d (kM nb e d args σ1) (kM nb e d args σ2):=by
 unfold kM;split
 ·split
  ·rename_i l nx hg;obtain⟨nh,k1,k2⟩:=Cu hle hg;rw[k1];exact LT.bif (LT.need (LT.aco k2 (hb _ rfl)))
  ·exact LT.fail
 ·exact LT.fail
theorem XJ{nx nh:St}(h:Le nx nh){e:Ty}{v:aO}{r:Nat×Nat×bE×List e.den}(hl:zk e nx v=some r):zk e nh v=some r:=by
 cases v with
 | part b aA lo n =>
   simp only[zk] at hl⊢;cases hb:nx.mem b with
   | none=>rw[hb] at hl;cases hl
   | some bx=>rw[hb] at hl;rw[h b bx hb];exact hl
 | whole b aA =>
   simp only[zk] at hl⊢;cases hb:nx.mem b with
   | none=>rw[hb] at hl;cases hl
   | some bx=>rw[hb] at hl;rw[h b bx hb];exact hl
 | _=>cases hl
theorem U9(hle:Le σ1 σ2){e A:Ty}{res:Bool}{spec:List e.den→A.den→Option (List e.den)}{args:List aO}:LT σ2 d (rA e A res spec d args σ1) (rA e A res spec d args σ2):=by
 unfold rA;split
 ·split
  ·rename_i x nx hg;obtain⟨nh,k1,k2⟩:=Ed hle hg;rw[k1];simp only;split
   ·rename_i b aA bx l hor;rw[XJ k2.le hor];simp only;refine LT.look fun l'=>?_;cases res with
    | true =>
      cases d with
      | none=>exact LT.fail
      | some k=>exact LT.U7 (k2.trans (Rel.bT k2.le))
    | false=>cases d<;>exact LT.bif (LT.ret (k2.trans (Rel.bT k2.le)))
   ·exact LT.fail
  ·exact LT.fail
 ·exact LT.fail
theorem Va(hle:Le σ1 σ2)(hb:∀k,d=some k→σ1.mem (nb+k)=σ2.mem (nb+k)){f:Nat}{args:List aO}(hcf:xg cx bf d f=none→find cx.bF f≠none∨(find cx.bF f=none∧∃e,find cx.Rz f=some (.clone e)))(hcs:∀s,xg cx bf d f=some s→(∃e,s=.clone e)∨∃e A r q,s=.own e A r q) :
  LT σ2 d (uv cx nb bf A8 d f args σ1) (uv cx nb bf inl d f args σ2):=by
 unfold uv;split
 ·exact Ql hle hb
 ·exact U9 hle
 ·rename_i h1 h2;have hn:xg cx bf d f=none:=by
   cases hq:xg cx bf d f with
   | none=>rfl
   | some s =>
     rcases hcs s hq with ⟨e,rfl⟩|⟨e,A,r,q,rfl⟩
     ·exact absurd hq (h1 e)
     ·exact absurd hq (h2 e A r q)
  rcases hcf hn with hc|⟨hc,e,he⟩
  ·exact XI hle hc
  ·unfold xh;rw[hc,he];exact LT.fail
theorem SK{s:Xj}{f:Nat}(h:xg cx bf d f=some s):(∃e,s=.clone e)∨∃e A r q,s=.own e A r q:=by
 unfold xg at h;split at h
 ·rename_i e he;split at h
  ·obtain rfl:=aG h;exact .inl ⟨e,rfl⟩
  ·cases h
 ·obtain rfl:=aG h;exact .inr ⟨_,_,_,_,rfl⟩
 ·cases h
theorem XK:∀{ps:List (Nat×Operand)} {k:Nat},(∀x∈ps.map (·.2),cc σ1 x=cc σ2 x)→A7 σ1 k ps=A7 σ2 k ps:=by
 intro ps;induction ps with
 | nil=>intro k _;rfl
 | cons p r ih =>
   obtain⟨j,x⟩:=p;intro k h;simp only[A7];rw[h x (by simp),ih (k:=k+1) fun y hy=>h y (by simp at hy⊢;exact .inr hy)]
theorem SL{fs:List mw}:∀{ps:List (Nat×Operand)} {v:aO},(∀x∈ps.map (·.2),cc σ1 x=cc σ2 x)→lI σ1 fs v ps=lI σ2 fs v ps:=by
 intro ps;induction ps with
 | nil=>intro v _;rfl
 | cons p r ih =>
   obtain⟨k,x⟩:=p;intro v h;simp only[lI];rw[h x (by simp)];have hr:∀u,lI σ1 fs u r=lI σ2 fs u r:=fun u=>ih (v:=u) fun y hy=>h y (by simp at hy⊢;exact .inr hy);simp only[hr]
theorem XL(hle:Le σ1 σ2){o:Oper}{ge:Option Nat}(hge:nw o σ2=ge)(h3:cls cx ge o≠3)(hop:∀x∈eE o.op,cc σ1 x=cc σ2 x)(hb:∀k,o.dst=some k→σ1.mem (nb+k)=σ2.mem (nb+k)) :
  LT σ2 o.dst (o9 cx nb bf A8 o σ1) (o9 cx nb bf inl o σ2):=by
 have R:=Rel.refl hle;unfold o9;cases ho:o.op with
 | move x=>simp only[ho,eE] at hop⊢;rw[hop x (by simp)];exact C4 hle hb
 | assign x=>simp only[ho,eE] at hop⊢;rw[hop x (by simp)];exact C4 hle hb
 | pick c a b=>simp only[ho,eE] at hop⊢;rw[hop c (by simp),hop a (by simp),hop b (by simp)];exact SI hle
 | alloc e =>
   simp only;split
   ·rename_i k t hk hT;rw[hk];unfold uR;split
    ·exact absurd (by simp[cls,ho,hT]) h3
    ·exact LT.aL hle (hb k hk)
   ·rename_i k hk hT;rw[hk];split
    ·rename_i hO;exact absurd (by simp[cls,ho,hT,hO]) h3
    ·exact LT.bif (LT.aL hle (hb k hk))
   ·exact LT.fail
 | box e x =>
   simp only[ho,eE] at hop⊢;rw[hop x (by simp)];cases hk:o.dst with
   | none=>exact LT.fail
   | some k =>
     have hO:find cx.qn e=none:=by
      cases hO:find cx.qn e with
      | none=>rfl
      | some fs=>exact absurd (by simp[cls,ho,hO]) h3
     cases cc σ2 x<;>simp only[EO,hO]<;>first|exact LT.fail|exact LT.aL hle (hb k hk)
 | build t ps =>
   simp only[ho,eE] at hop⊢;split
   ·split
    ·rename_i hg;obtain⟨nh,k1,k2⟩:=NZ hle hop hg;rw[k1];exact LT.ret k2
    ·exact LT.fail
   ·split
    ·rename_i hg;obtain⟨nh,k1,k2⟩:=Fq hle hop hg;rw[k1];exact LT.ret k2
    ·exact LT.fail
   ·split
    ·split
     ·rw[SL hop];split
      ·exact LT.ret R
      ·exact LT.ret R
      ·exact LT.fail
     ·exact LT.fail
    ·exact LT.fail
   ·exact LT.fail
 | buildSlice t n ps =>
   simp only[ho,eE] at hop⊢;split
   ·split
    ·rename_i k bu hparts;have hk:=(Eb bu).1;rw[hk];exact LT.aL hle (hb k hk)
    ·refine LT.bif ?_;split
     ·rename_i hg;obtain⟨nh,k1,k2⟩:=Fq hle hop hg;rw[k1];exact LT.ret k2
     ·exact LT.fail
   ·unfold Cm;rw[XK hop];split
    ·rename_i k e v hk _ _;rw[hk];exact LT.bif (LT.aL hle (hb _ hk))
    ·exact LT.fail
   ·exact LT.fail
 | load t a=>simp only[ho,eE] at hop⊢;rw[hop a (by simp)];exact SJ hle
 | store t a x =>
   simp only[ho,eE] at hop⊢;rw[hop a (by simp),hop x (by simp)];cases hk:o.dst with
   | none=>exact Qh hle
   | some k=>exact LT.fail
 | nilCheck x =>
   simp only[ho,eE] at hop⊢;rw[hop x (by simp)];cases cc σ2 x with
   | ptr b aA p=>exact LT.SH (fun h=>pI hle h) (LT.ret R)
   | cell t x=>exact LT.ret R
   | fn f c=>exact LT.ret R
   | _=>exact LT.fail
 | binOp op xt x y yt =>
   simp only[ho,eE] at hop⊢;rw[hop x (by simp),hop y (by simp)];intro z hz;obtain⟨v,h1,h2⟩:=bind_some hz;have hb:(Zu σ2 (find cx.T xt) (cC cx.yj xt) op (cc σ2 x) (cc σ2 y)).run=some v:=by
    unfold Zu at h1⊢;split at h1
    ·obtain⟨hc,h3⟩:=aB h1;simp only[dW] at hc;rw[pI hle hc.1,hc.2];exact h3
    ·obtain⟨hc,h3⟩:=aB h1;simp only[dW] at hc;rw[pI hle hc.1,hc.2];exact h3
    ·exact h1
   rw[Tree.run_bind,hb];exact LT.ret R z h2
 | unOp op t x=>simp only[ho,eE] at hop⊢;rw[hop x (by simp)];exact LT.bind fun _ _=>LT.ret R
 | convert s t x=>simp only[ho,eE] at hop⊢;rw[hop x (by simp)];exact L9 hle hb
 | makeFunc fn first caps =>
   simp only[ho,eE] at hop⊢;cases fn with
   | func f =>
     simp only;have:caps.toList.map (cc σ1)=caps.toList.map (cc σ2):=YX fun x hx=>hop x (K8 _ hx);rw[this];split
     ·exact LT.ret R
     ·exact LT.fail
   | _=>exact LT.fail
 | slice t x lo hi m =>
   simp only[ho,eE] at hop⊢;cases m with
   | some m=>exact LT.fail
   | none =>
     simp only;rw[hop x (by simp)];exact Qi hle fun y hy=>hop y (vR _ hy)
 | fieldAddr s x k=>simp only[ho,eE] at hop⊢;rw[hop x (by simp)];exact Ht hle
 | field xt x k =>
   simp only[ho,eE] at hop⊢;rw[hop x (by simp)];split
   ·refine LT.bif ?_;split
    ·exact LT.ret R
    ·exact LT.fail
   ·exact LT.fail
 | indexAddr t x i =>
   simp only[ho,eE] at hop⊢;rw[hop x (by simp),hop i (by simp)];split
   ·cases cC bf 5000000 with
    | true=>exact Qj hle
    | false=>exact yD hle
   ·exact LT.fail
 | index t x i =>
   simp only[ho,eE] at hop⊢;rw[hop x (by simp),hop i (by simp)];split
   ·exact Qk hle
   ·exact LT.fail
 | makeSlice t l c =>
   simp only[ho,eE] at hop⊢;rw[hop l (by simp),hop c (by simp)];cases hk:o.dst with
   | none=>exact LT.fail
   | some k =>
     split
     ·rename_i k' _ _ _ _ _ hk' _ _ _;obtain rfl:=aG hk';exact LT.need (LT.need (LT.aL hle (hb k hk)))
     ·exact LT.fail
 | extract t k =>
   simp only[ho,eE] at hop⊢;rw[hop t (by simp)];split
   ·((try dsimp only);split<;>first|exact LT.fail|skip)
    exact LT.ret R
   ·exact LT.fail
 | call c =>
   simp only[ho,eE] at hop⊢;have hargs:c.args.toList.map (cc σ1)=c.args.toList.map (cc σ2):=YX fun x hx=>hop x (K8 _ hx);unfold u5;rw[hargs];cases hc:c.callee with
   | builtin b =>
     simp only;split
     ·rename_i x t _ _;cases Wr (find cx.T t) x with
      | true =>
        simp only[fy]
        ((try dsimp only);split<;>first|exact LT.fail|(rename_i hq;rw[((fun r (hr:_=some r)=>ZY hle hr)) _ hq];try dsimp only))
        exact LT.ret R
      | false =>
        simp only[iA];split
        ·refine LT.SH (fun h=>?_) (LT.ret R);simp only[dW] at h⊢;exact⟨pI hle h.1,h.2⟩
        ·exact LT.fail
     ·split
      ·exact C5 hle hb
      ·exact C5 hle hb
      ·exact LT.fail
     ·exact absurd (by simp[cls,ho,hc]) h3
     ·exact absurd (by simp[cls,ho,hc]) h3
     ·exact LT.bind fun _ _=>LT.ret R
     ·exact LT.bind fun _ _=>LT.ret R
     ·exact LT.fail
   | value f =>
     simp only;rw[hop f (by rw[hc];simp)];split
     ·rename_i g caps hop;have ZV:(caps.all fun b=>live σ1 b.1 b.2)=true→(caps.all fun b=>live σ2 b.1 b.2)=true:=fun h=>by
       rw[DY] at h⊢;exact fun b hm=>pI hle (h b hm)
      refine LT.SH ZV (Va hle hb (fun hq=>?_) fun s hs=>SK hs);have heq:ge=some g:=by rw[←hge];simp[nw,ho,hc,hop]
      cases dB:find cx.bF g with
      | some c=>exact .inl (by simp)
      | none =>
        refine .inr ⟨rfl,?_⟩;cases SG:find cx.Rz g with
        | none=>exact absurd (by simp[cls,ho,hc,heq,dB,SG]) h3
        | some s =>
          cases s with
          | clone e=>exact⟨e,rfl⟩
          | own e A r q=>simp[xg,SG] at hq
          | _=>exact absurd (by simp[cls,ho,hc,heq,dB,SG]) h3
     ·exact LT.fail
   | invoke r m =>
     simp only;rw[hop r (by rw[hc];simp)];unfold qN;split
     ·split
      ·rename_i hg;obtain⟨nh,k1,k2⟩:=Ed hle hg;rw[k1];exact LT.look fun _=>LT.ret k2
      ·exact LT.fail
     ·exact LT.fail
 | makeInterface u x =>
   simp only[ho,eE] at hop⊢;rw[hop x (by simp)];unfold qM;split
   ·split
    ·split
     ·rename_i hg;obtain⟨nh,k1,k2⟩:=Cu hle hg;rw[k1];exact LT.ret k2
     ·exact LT.fail
    ·exact LT.fail
   ·exact LT.fail
 | _=>exact LT.fail
end
end Go.Ge
