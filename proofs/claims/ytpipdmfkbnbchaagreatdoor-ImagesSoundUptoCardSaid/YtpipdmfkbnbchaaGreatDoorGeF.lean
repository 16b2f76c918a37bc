/- A ghost interpreter of the model's code, and that it tells the truth: part 6. It says of a function of plain data what a call of it comes to. -/
import Derived.Test.YtpipdmfkbnbchaaGreatDoorGeE
import Derived.Tactics
namespace Go.Ge
set_option linter.unusedVariables false
set_option linter.unusedSimpArgs false
open RowKit
def aq(σ:St)(T:Tree St):Prop:=∀y,T.run=some y→br σ y
theorem aq.fail{σ:St}:aq σ .fail:=fun y h=>by cases h
theorem aq.ret{σ σ':St}(h:br σ σ'):aq σ (.ret σ'):=fun y hy=>by obtain rfl:=Option.some.inj hy;exact h
theorem aq.bif{σ:St}{c:Bool}{t:Tree St}(h:aq σ t):aq σ (bif c then t else .fail):=fun y hy=>h y (aD hy).2
theorem aq.need{σ:St}{c:Bool}{t:Tree St}(h:aq σ t):aq σ (.need c t):=fun y hy=>h y (cD hy).2
theorem aq.look{σ:St}{T:Type}{o:Option T}{k:T→Tree St}(h:∀x,aq σ (k x)):aq σ (.look o k):=fun y hy=>by obtain⟨x,_,h2⟩:=b5 hy;exact h x y h2
theorem aq.node{σ:St}{c:Bool}{t e:Tree St}(h:aq σ t)(k:aq σ e):aq σ (.node c t e):=fun y hy=>by
 have:=fL hy
 cases c with
 | true=>exact h y this
 | false=>exact k y this
theorem aq.bind{σ:St}{α:Type}{t:Tree α}{f:α→Tree St}(h:∀x,t.run=some x→aq σ (f x)):aq σ (t.bind f):=fun y hy=>by obtain⟨x,h1,h2⟩:=bind_some hy;exact h x h1 y h2
theorem aq.aO{σ:St}{b:Nat}{val:aS}{tid:TypeId}{buf:Bool}{d:Nat}{v:Nat→aS}:aq σ (σ.aO b val tid buf fun aC σ=>.ret (σ.put d (v aC))):=fun y hy=>by
 obtain⟨aC,k1,k2⟩:=lU hy
 obtain rfl:=Option.some.inj k2
 exact k1.trans (br.put _ _ _)
section
variable {cx:Ctx} {nb:Nat} {bf:List Nat} {inl:Nat→List aS→St→Tree (aS×St)} {d:Option Nat} {σ:St}
theorem yF{ty:TypeId}{v:aS}:aq σ (iR cx nb bf d ty v σ):=by
 unfold iR
 split
 ·(repeat' (first|exact aq.fail|exact aq.ret (br.aU _ _ _)|exact aq.ret (br.put _ _ _)|exact aq.aO|refine aq.bif ?_|refine aq.need ?_|refine aq.look fun _=>?_|refine aq.node ?_ ?_|refine aq.bind fun _ _=>?_|split))
 ·split
  ·rename_i k e _
   cases dJ bf k with
   | true=>exact aq.aO
   | false=>exact aq.ret (br.put _ _ _)
  ·exact aq.ret (br.aU _ _ _)
 ·exact aq.ret (br.aU _ _ _)
theorem Kl{c a b:aS}:aq σ (nI d c a b σ):=by unfold nI;(repeat' (first|exact aq.fail|exact aq.ret (br.aU _ _ _)|exact aq.ret (br.put _ _ _)|exact aq.aO|refine aq.bif ?_|refine aq.need ?_|refine aq.look fun _=>?_|refine aq.node ?_ ?_|refine aq.bind fun _ _=>?_|split))
theorem Km{ty:TypeId}{a:aS}:aq σ (kC cx d ty a σ):=by unfold kC;(repeat' (first|exact aq.fail|exact aq.ret (br.aU _ _ _)|exact aq.ret (br.put _ _ _)|exact aq.aO|refine aq.bif ?_|refine aq.need ?_|refine aq.look fun _=>?_|refine aq.node ?_ ?_|refine aq.bind fun _ _=>?_|split))
theorem Iu{ty:TypeId}{x:aS}{lo hi:Option Operand}:aq σ (kP cx d ty x lo hi σ):=by unfold kP;(repeat' (first|exact aq.fail|exact aq.ret (br.aU _ _ _)|exact aq.ret (br.put _ _ _)|exact aq.aO|refine aq.bif ?_|refine aq.need ?_|refine aq.look fun _=>?_|refine aq.node ?_ ?_|refine aq.bind fun _ _=>?_|split))
theorem Rt{b aC:Nat}{i:Int}:∀{m k:Nat},aq σ (HP d b aC σ i m k):=by
 intro m
 induction m with
 | zero=>intro k;exact aq.fail
 | succ m ih=>intro k;exact aq.node (aq.ret (br.aU _ _ _)) ih
theorem Cn{ty:TypeId}{x:aS}{i:Int}:aq σ (eL cx d ty x i σ):=by
 unfold eL
 split
 case h_6=>split
           ·exact aq.bif Rt
           ·exact aq.fail
 all_goals (repeat' (first|exact aq.fail|exact aq.ret (br.aU _ _ _)|exact aq.ret (br.put _ _ _)|exact aq.aO|refine aq.bif ?_|refine aq.need ?_|refine aq.look fun _=>?_|refine aq.node ?_ ?_|refine aq.bind fun _ _=>?_|split))
theorem Iv{ty:TypeId}{x:aS}{i:Int}:aq σ (kQ cx d ty x i σ):=by unfold kQ;(repeat' (first|exact aq.fail|exact aq.ret (br.aU _ _ _)|exact aq.ret (br.put _ _ _)|exact aq.aO|refine aq.bif ?_|refine aq.need ?_|refine aq.look fun _=>?_|refine aq.node ?_ ?_|refine aq.bind fun _ _=>?_|split))
theorem Co{s:TypeId}{x:aS}{k:Nat}:aq σ (eM cx d s x k σ):=by unfold eM;(repeat' (first|exact aq.fail|exact aq.ret (br.aU _ _ _)|exact aq.ret (br.put _ _ _)|exact aq.aO|refine aq.bif ?_|refine aq.need ?_|refine aq.look fun _=>?_|refine aq.node ?_ ?_|refine aq.bind fun _ _=>?_|split))
theorem E3{s t:TypeId}{x:aS}:aq σ (gq cx nb d s t x σ):=by unfold gq;(repeat' (first|exact aq.fail|exact aq.ret (br.aU _ _ _)|exact aq.ret (br.put _ _ _)|exact aq.aO|refine aq.bif ?_|refine aq.need ?_|refine aq.look fun _=>?_|refine aq.node ?_ ?_|refine aq.bind fun _ _=>?_|split))
theorem Bs{ty:TypeId}{t x:aS}:aq σ (wq cx d ty t x σ):=by
 unfold wq
 split
 ·split
  ·exact aq.fail
  ·exact aq.bind fun r hr=>aq.ret ((FZ hr).trans (br.aU _ _ _))
 ·exact aq.fail
theorem Iw{ty:TypeId}{t:aS}:aq σ (wu cx ty t σ):=by
 unfold wu
 split
 ·exact aq.bind fun r hr=>aq.ret (FZ hr)
 ·exact aq.fail
theorem G0{name:String}{args:List aS}:aq σ (qD cx d name args σ):=by
 intro σ' hr
 unfold qD at hr
 split at hr
 ·split at hr
  ·rename_i hx
   obtain⟨y,hy,hr2⟩:=b5 hr
   obtain rfl:=Option.some.inj hr2
   exact(pU hx).trans (br.aU _ _ _)
  ·exact absurd hr (by intro k;cases k)
 ·exact absurd hr (by intro k;cases k)
theorem Ix{ty u:TypeId}{x:aS}:aq σ (qC cx d ty u x σ):=by
 intro σ' hr
 unfold qC at hr
 split at hr
 ·split at hr
  ·split at hr
   ·rename_i hx
    obtain rfl:=Option.some.inj hr
    exact(oT hx).trans (br.aU _ _ _)
   ·exact absurd hr (by intro k;cases k)
  ·exact absurd hr (by intro k;cases k)
 ·exact absurd hr (by intro k;cases k)
theorem Kn(lf:∀f vals σ v σ',(inl f vals σ).run=some (v,σ')→br σ σ'){ty:TypeId}{c:Call}:aq σ (tW cx nb bf inl d ty c σ):=by
 unfold tW
 split
 ·split
  ·(repeat' (first|exact aq.fail|exact aq.ret (br.aU _ _ _)|exact aq.ret (br.put _ _ _)|exact aq.aO|refine aq.bif ?_|refine aq.need ?_|refine aq.look fun _=>?_|refine aq.node ?_ ?_|refine aq.bind fun _ _=>?_|split))
  ·split
   ·exact fun y hy=>yE hy
   ·exact fun y hy=>yE hy
   ·exact aq.fail
  ·split
   ·exact Bs
   ·exact Bs
   ·exact aq.fail
  ·split
   ·exact Iw
   ·exact aq.fail
  ·(repeat' (first|exact aq.fail|exact aq.ret (br.aU _ _ _)|exact aq.ret (br.put _ _ _)|exact aq.aO|refine aq.bif ?_|refine aq.need ?_|refine aq.look fun _=>?_|refine aq.node ?_ ?_|refine aq.bind fun _ _=>?_|split))
  ·(repeat' (first|exact aq.fail|exact aq.ret (br.aU _ _ _)|exact aq.ret (br.put _ _ _)|exact aq.aO|refine aq.bif ?_|refine aq.need ?_|refine aq.look fun _=>?_|refine aq.node ?_ ?_|refine aq.bind fun _ _=>?_|split))
  ·exact aq.fail
 ·split
  ·exact aq.bif fun y hy=>MS lf hy
  ·exact aq.fail
 ·exact G0
theorem zn(lf:∀f vals σ v σ',(inl f vals σ).run=some (v,σ')→br σ σ'){o:Oper}:aq σ (pI cx nb bf inl o σ):=by
 unfold pI
 split
 case h_1=>exact yF
 case h_2=>exact yF
 case h_3=>exact Kl
 case h_4 =>
  split
  ·unfold tM
   split
   ·refine aq.bif fun y hy=>?_
    obtain⟨aC,k1,k2⟩:=lU hy
    exact k1.trans (aq.aO y k2)
   ·exact aq.aO
  ·split
   ·refine aq.bind fun r hr=>?_
    exact fun y hy=>(Rs hr).trans (aq.aO y hy)
   ·exact aq.bif aq.aO
  ·exact aq.fail
 case h_5 =>
  unfold CZ
  split
  ·exact aq.fail
  ·exact aq.fail
  ·split
   ·refine aq.bind fun r hr=>?_
    exact fun y hy=>(MQ hr).trans (aq.aO y hy)
   ·exact aq.aO
  ·exact aq.fail
 case h_6 =>
  split
  ·split
   ·rename_i hb;exact aq.ret ((GZ hb).trans (br.aU _ _ _))
   ·exact aq.fail
  ·split
   ·rename_i hb;exact aq.ret ((zm hb).trans (br.aU _ _ _))
   ·exact aq.fail
  ·(repeat' (first|exact aq.fail|exact aq.ret (br.aU _ _ _)|exact aq.ret (br.put _ _ _)|exact aq.aO|refine aq.bif ?_|refine aq.need ?_|refine aq.look fun _=>?_|refine aq.node ?_ ?_|refine aq.bind fun _ _=>?_|split))
  ·exact aq.fail
 case h_7 =>
  split
  ·split
   ·exact aq.aO
   ·refine aq.bif ?_
    split
    ·rename_i hb;exact aq.ret ((zm hb).trans (br.aU _ _ _))
    ·exact aq.fail
  ·unfold Aw;(repeat' (first|exact aq.fail|exact aq.ret (br.aU _ _ _)|exact aq.ret (br.put _ _ _)|exact aq.aO|refine aq.bif ?_|refine aq.need ?_|refine aq.look fun _=>?_|refine aq.node ?_ ?_|refine aq.bind fun _ _=>?_|split))
  ·exact aq.fail
 case h_8=>exact Km
 case h_9=>split
           ·exact fun y hy=>Ir hy
           ·exact aq.fail
 case h_10=>(repeat' (first|exact aq.fail|exact aq.ret (br.aU _ _ _)|exact aq.ret (br.put _ _ _)|exact aq.aO|refine aq.bif ?_|refine aq.need ?_|refine aq.look fun _=>?_|refine aq.node ?_ ?_|refine aq.bind fun _ _=>?_|split))
 case h_11=>(repeat' (first|exact aq.fail|exact aq.ret (br.aU _ _ _)|exact aq.ret (br.put _ _ _)|exact aq.aO|refine aq.bif ?_|refine aq.need ?_|refine aq.look fun _=>?_|refine aq.node ?_ ?_|refine aq.bind fun _ _=>?_|split))
 case h_12=>(repeat' (first|exact aq.fail|exact aq.ret (br.aU _ _ _)|exact aq.ret (br.put _ _ _)|exact aq.aO|refine aq.bif ?_|refine aq.need ?_|refine aq.look fun _=>?_|refine aq.node ?_ ?_|refine aq.bind fun _ _=>?_|split))
 case h_13=>exact E3
 case h_14=>(repeat' (first|exact aq.fail|exact aq.ret (br.aU _ _ _)|exact aq.ret (br.put _ _ _)|exact aq.aO|refine aq.bif ?_|refine aq.need ?_|refine aq.look fun _=>?_|refine aq.node ?_ ?_|refine aq.bind fun _ _=>?_|split))
 case h_15=>exact Iu
 case h_16=>exact Co
 case h_17=>(repeat' (first|exact aq.fail|exact aq.ret (br.aU _ _ _)|exact aq.ret (br.put _ _ _)|exact aq.aO|refine aq.bif ?_|refine aq.need ?_|refine aq.look fun _=>?_|refine aq.node ?_ ?_|refine aq.bind fun _ _=>?_|split))
 case h_18=>split
            ·exact Cn
            ·exact aq.fail
 case h_19=>split
            ·exact Iv
            ·exact aq.fail
 case h_20=>(repeat' (first|exact aq.fail|exact aq.ret (br.aU _ _ _)|exact aq.ret (br.put _ _ _)|exact aq.aO|refine aq.bif ?_|refine aq.need ?_|refine aq.look fun _=>?_|refine aq.node ?_ ?_|refine aq.bind fun _ _=>?_|split))
 case h_21=>(repeat' (first|exact aq.fail|exact aq.ret (br.aU _ _ _)|exact aq.ret (br.put _ _ _)|exact aq.aO|refine aq.bif ?_|refine aq.need ?_|refine aq.look fun _=>?_|refine aq.node ?_ ?_|refine aq.bind fun _ _=>?_|split))
 case h_22=>exact Kn lf
 case h_23=>exact Ix
 case h_24=>exact aq.fail
end
end Go.Ge
namespace Go.Ge
set_option linter.unusedVariables false
set_option linter.unusedSimpArgs false
open RowKit
theorem lQ.shrink{mem mem':Nat→Option bU}(hm:∀b bx,mem b=some bx→mem' b=some { bx with lk:=true }){b aC:Nat}{K0 K:bU→Prop}(h0:lQ mem b aC K0)(h:lQ mem' b aC K)
  (hK:∀bx,K { bx with lk:=true }→K bx):lQ mem b aC K:=by
 obtain⟨bx,h1,h2,_⟩:=h0
 obtain⟨gu,k1,k2,k3⟩:=h
 rw[hm b bx h1] at k1
 obtain rfl:=Option.some.inj k1
 exact⟨bx,h1,h2,fun e=>hK bx (k3 e)⟩
theorem cw.shrink{γ γ':Gh}{mem mem':Nat→Option bU}{w w':World}(hm:∀b bx,mem b=some bx→mem' b=some { bx with lk:=true }):∀{v:aS} {m:Mode} {us vs:List Value},
  cw γ mem w v m us→cw γ' mem' w' v m vs→cw γ' mem w' v m vs:=by
 intro v
 induction v with
 | undef=>intro m us vs _ r;cases m<;>exact r
 | data t x=>intro m us vs _ r;cases m<;>exact r
 | nH=>intro m us vs _ r;cases m<;>exact r
 | qB=>intro m us vs _ r;cases m<;>exact r
 | cell t x=>intro m us vs _ r;cases m<;>exact r
 | nl=>intro m us vs _ r;cases m<;>exact r
 | rO=>intro m us vs _ r;cases m<;>exact r
 | uS b aC =>
   intro m us vs r0 r
   cases m with
   | many=>exact r
   | cells=>exact⟨r.1,r0.2.shrink hm r.2 fun _ k=>k⟩
   | val=>exact⟨r.1,r0.2.shrink hm r.2 fun _ k=>k⟩
 | ptr b aC p =>
   intro m us vs r0 r
   cases m with
   | many=>exact r
   | cells=>exact⟨r.1,r0.2.shrink hm r.2 fun _ k=>k⟩
   | val=>exact⟨r.1,r0.2.shrink hm r.2 fun _ k=>k⟩
 | whole b aC =>
   intro m us vs r0 r
   cases m with
   | many=>exact r
   | cells=>exact⟨r.1,r0.2.shrink hm r.2 fun _ k=>k⟩
   | val=>exact⟨r.1,r0.2.shrink hm r.2 fun _ k=>k⟩
 | part b aC lo n =>
   intro m us vs r0 r
   cases m with
   | many=>exact r
   | cells=>exact⟨r.1,r0.2.shrink hm r.2 fun _ k=>k⟩
   | val=>exact⟨r.1,r0.2.shrink hm r.2 fun _ k=>k⟩
 | win b aC q e k lo n =>
   intro m us vs r0 r
   cases m with
   | many=>exact r
   | cells=>exact⟨r.1,r0.2.shrink hm r.2 fun _ k=>k⟩
   | val=>exact⟨r.1,r0.2.shrink hm r.2 fun _ k=>k⟩
 | fn f caps =>
   intro m us vs r0 r
   cases m with
   | many=>exact r
   | cells=>obtain⟨_,_,_,s⟩:=r0;obtain⟨arr,r1,r2,r3⟩:=r;exact⟨arr,r1,r2,fun i b aC hc=>(s i b aC hc).shrink hm (r3 i b aC hc) fun _ k=>k⟩
   | val=>obtain⟨_,_,_,s⟩:=r0;obtain⟨arr,r1,r2,r3⟩:=r;exact⟨arr,r1,r2,fun i b aC hc=>(s i b aC hc).shrink hm (r3 i b aC hc) fun _ k=>k⟩
 | mix a b jE nr =>
   intro m us vs r0 r
   cases m with
   | cells=>obtain⟨_,_,_,s1,s2⟩:=r0;obtain⟨c1,c2,r0,r1,r2⟩:=r;exact⟨c1,c2,r0,jE s1 r1,nr s2 r2⟩
   | val=>obtain⟨_,_,_,s1,s2⟩:=r0;obtain⟨c1,c2,r0,r1,r2⟩:=r;exact⟨c1,c2,r0,jE s1 r1,nr s2 r2⟩
   | many=>obtain⟨_,_,_,s1,s2⟩:=r0;obtain⟨c1,c2,r0,r1,r2⟩:=r;exact⟨c1,c2,r0,jE s1 r1,nr s2 r2⟩
 | Ca u ih =>
   intro m us vs r0 r
   cases m with
   | val=>obtain⟨_,_,s⟩:=r0;obtain⟨arr,r1,r2⟩:=r;exact⟨arr,r1,ih s r2⟩
   | cells=>exact r
   | many=>exact r
theorem bE.unlock{B:qz}{γ γ':Gh}{mem mem':Nat→Option bU}{w w':World}(h:bE B γ mem w)(hm:∀b bx,mem b=some bx→mem' b=some { bx with lk:=true })
  (h':bE B γ' mem' w') (hx:Ext B γ (fun i=>match mem i with|some b=>some { b with lk:=true }|none=>none) w γ' mem' w'):bE B γ' mem w'∧Ext B γ mem w γ' mem w':=by
 have Rl:∀b bx,mem b=some bx→γ'.loc b=γ.loc b:=by
  intro b bx hb
  obtain⟨gu,k1,k2,k3⟩:=hx.boxes b { bx with lk:=true } (by simp[hb])
  rw[hm b bx hb] at k1
  obtain rfl:=Option.some.inj k1
  exact(k3 rfl).1
 have hne:∀b,mem b≠none→mem' b≠none:=by
  intro b hb
  cases hq:mem b with
  | none=>exact absurd hq hb
  | some bx=>rw[hm b bx hq];simp
 refine⟨?_,⟨hx.below,hx.I,hx.pO,hx.cells,fun b bx hb=>⟨bx,hb,Nat.le_refl _,fun _=>⟨Rl b bx hb,rfl,rfl⟩⟩⟩⟩
 exact
  { bg:=h'.bg
    base:=h'.base
    boxes:=fun b bx hb=>by
     have h1:=h.boxes b bx hb
     have h2:=h'.boxes b _ (hm b bx hb)
     unfold cP at h1 h2⊢
     cases bK:bx.buf with
     | true=>rw[bK] at h2;exact h2
     | false =>
       rw[bK] at h1 h2
       obtain⟨_,_,_,_,_,_,_,_,_,r0⟩:=h1
       obtain⟨blk,cap,cur,tid,fr,k1,k2,k3,iq,k4⟩:=h2
       exact⟨blk,cap,cur,tid,fr,k1,k2,k3,iq,r0.shrink hm k4⟩
    inj:=fun b c blk k k' hb hc h1 h2=>h'.inj b c blk k k' (hne b hb) (hne c hc) h1 h2
    fresh:=fun b blk k hb h1=>h'.fresh b blk k (hne b hb) h1
    sU:=h'.sU
    sep:=fun b bx blk k off hb h1 hi=>by
     have:=h'.sep b _ blk k off (hm b bx hb) h1 hi
     exact this }
theorem Ext.gW{B:qz}{γ:Gh}{σ:St}{w:World}:Ext B γ σ.mem w γ σ.gW.mem w where
 below:=tZ.refl _ _
 I:=fun _ _ h=>h
 pO:=fun _ _ h=>.inl h
 cells:=fun _ _ _=>rfl
 boxes:=fun b bx hb=>⟨{ bx with lk:=true },by simp[St.gW,hb],Nat.le_refl _,fun _=>⟨rfl,rfl,rfl⟩⟩
theorem bE.gW{B:qz}{γ:Gh}{σ:St}{w:World}(h:bE B γ σ.mem w):bE B γ σ.gW.mem w:=by
 have inv:∀{b bx},σ.gW.mem b=some bx→∃dh,σ.mem b=some dh∧bx={ dh with lk:=true }:=by
  intro b bx hb
  simp only[St.gW] at hb
  split at hb
  ·rename_i dh h0;exact⟨dh,h0,(Option.some.inj hb).symm⟩
  ·cases hb
 have hne:∀{b},σ.gW.mem b≠none→σ.mem b≠none:=by
  intro b hb hq
  apply hb
  simp[St.gW,hq]
 exact
  { bg:=h.bg
    base:=h.base
    boxes:=fun b bx hb=>by
     obtain⟨dh,h0,rfl⟩:=inv hb
     have:=(h.boxes b dh h0).keep (Ext.gW (B:=B) (γ:=γ) (σ:=σ) (w:=w)) rfl (fun _ _ _=>rfl)
     exact this
    inj:=fun b c blk k k' hb hc h1 h2=>h.inj b c blk k k' (hne hb) (hne hc) h1 h2
    fresh:=fun b blk k hb h1=>h.fresh b blk k (hne hb) h1
    sU:=h.sU
    sep:=fun b bx blk k off hb h1 hi=>by
     obtain⟨dh,h0,rfl⟩:=inv hb
     exact h.sep b dh blk k off h0 h1 hi }
theorem cX.gW{B:qz}{N:Nat}{γ:Gh}{σ:St}{a:Act}{w:World}(h:cX B N γ σ a w):cX B N γ σ.gW a w where
 slots:=fun t=>(h.slots t).ext (Ext.gW (B:=B))
 size:=h.size
 defers:=h.defers
 ok:=h.ok.gW
theorem MT{σ τ:St}(h:br σ.gW τ):∀b bx,σ.mem b=some bx→τ.mem b=some { bx with lk:=true }:=fun b bx hb=>h b _ (by simp[St.gW,hb]) rfl
end Go.Ge
namespace Go.Ge
set_option linter.unusedVariables false
set_option linter.unusedSimpArgs false
open RowKit
inductive qA (all:Array Oper) (G:List (Nat×Bool)):List (Nat×Oper)→List Oper→Prop
 | nil:qA all G [] []
 | cons {i:Nat} {o o':Oper} {r:List (Nat×Oper)} {l:List Oper}:all[i]?=some o→(o'=o∨∃g,o.guard=some g∧g∈G∧o'={ o with guard:=none })→qA all G r l→qA all G ((i,o')::r) (o::l)
theorem qA.mono{all:Array Oper}{G G':List (Nat×Bool)}(hG:∀g∈G,g∈G'){items:List (Nat×Oper)}{l:List Oper}(h:qA all G items l):qA all G' items l:=by
 induction h with
 | nil=>exact .nil
 | cons h1 h2 _ ih=>exact .cons h1 (h2.imp id fun⟨g,k1,k2,k3⟩=>⟨g,k1,hG g k2,k3⟩) ih
theorem ON{all:Array Oper}{G:List (Nat×Bool)}{j:Nat}{want:Bool}:∀{items:List (Nat×Oper)} {l:List Oper} {inner:List Nat},qA all G items l →
  ∃l1 l2,l=l1++l2∧qA all ((j,want)::G) (under j want inner items).1 l1∧qA all G (under j want inner items).2 l2:=by
 intro items l inner h
 induction h generalizing inner with
 | nil=>exact⟨[],[],rfl,.nil,.nil⟩
 | @cons i o o' r l h1 h2 h3 ih =>
   unfold under
   cases hg:xC o'.guard j want with
   | true =>
     simp only[cond_true]
     obtain⟨l1,l2,e1,e2,e3⟩:=ih (inner:=i::inner)
     refine⟨o::l1,l2,by rw[e1];rfl,.cons h1 (.inr ?_) e2,e3⟩
     have ho:o'=o:=by
      rcases h2 with h2|⟨g,k1,k2,k3⟩
      ·exact h2
      ·rw[k3] at hg;cases hg
     subst ho
     unfold xC at hg
     split at hg
     ·rename_i i' b' hgd
      simp only[Bool.and_eq_true] at hg
      have h9:=Nat.eq_of_beq_eq_true hg.1
      have h8:b'=want:=by simpa using hg.2
      subst h9;subst h8
      exact⟨(i',b'),hgd,List.mem_cons_self ..,rfl⟩
     ·cases hg
   | false =>
     simp only[cond_false]
     have both:∀c:Bool,∃l1 l2,o::l=l1++l2 ∧
       qA all ((j,want)::G) (bif c then((i,o')::(under j want (i::inner) r).1,(under j want (i::inner) r).2) else([],(i,o')::r)).1 l1 ∧
       qA all G (bif c then((i,o')::(under j want (i::inner) r).1,(under j want (i::inner) r).2) else([],(i,o')::r)).2 l2:=by
      intro c
      cases c with
      | true =>
        obtain⟨l1,l2,e1,e2,e3⟩:=ih (inner:=i::inner)
        exact⟨o::l1,l2,by rw[e1];rfl,.cons h1 (h2.imp id fun⟨g,k1,k2,k3⟩=>⟨g,k1,List.mem_cons_of_mem _ k2,k3⟩) e2,e3⟩
      | false=>exact⟨[],o::l,rfl,.nil,.cons h1 h2 h3⟩
     exact both _
theorem Ru{d:Nat}:∀{items:List (Nat×Oper)},mJ d items=false→∀i o,(i,o)∈items→o.dst≠some d:=by
 intro items
 induction items with
 | nil=>intro _ i o h;cases h
 | cons p r ih =>
   obtain⟨i0,o0⟩:=p
   intro h i o hm
   simp only[mJ,Bool.or_eq_false_iff] at h
   rcases List.mem_cons.1 hm with hm|hm
   ·obtain⟨rfl,rfl⟩:=Prod.mk.inj hm
    intro e
    rw[e] at h
    simp at h
   ·exact ih h.2 i o hm
section
variable {P:Program} {B:qz} {N:Nat} {γ:Gh} {σ σ':St} {a:Act} {w w':World} {cx:Ctx} {nb:Nat} {bf:List Nat} {inl:Nat→List aS→St→Tree (aS×St)} {all:Array Oper}
def OO(all:Array Oper)(G:List (Nat×Bool))(a:Act)(items:List (Nat×Oper)):Prop :=
 ∀g∈G,∃dj,(all[g.1]?).bind (·.dst)=some dj∧a.tmps[dj]?=some (.bool g.2)∧mJ dj items=false
theorem OO.wanted{G:List (Nat×Bool)}{items:List (Nat×Oper)}(h:OO all G a items){o:Oper}{g:Nat×Bool}(ho:o.guard=some g)(hg:g∈G):Region.wanted o (yielded all a.tmps)=true:=by
 obtain⟨dj,h1,h2,_⟩:=h g hg
 obtain⟨j,want⟩:=g
 unfold Region.wanted
 rw[ho]
 simp only[yielded,h1,Option.bind_some,h2]
 simp
def Fr(items:List (Nat×Oper))(a a':Act):Prop:=∀t,mJ t items=false→a'.tmps[t]?=a.tmps[t]?
theorem fu{a:Act}{d:Option Nat}{v:Value}{t:Nat}(h:d≠some t):(a.put d v).tmps[t]?=a.tmps[t]?:=by
 cases d with
 | none=>rfl
 | some k =>
   have:k≠t:=fun e=>h (by rw[e])
   simp[Act.put,Array.getElem?_setIfInBounds_ne this]
theorem wI{d i:Nat}{o:Oper}{r:List (Nat×Oper)}(h:mJ d ((i,o)::r)=false):o.dst≠some d∧mJ d r=false:=by
 simp only[mJ,Bool.or_eq_false_iff] at h
 refine⟨fun e=>?_,h.2⟩
 rw[e] at h
 simp at h
theorem OP(t:Nat):∀(items:List (Nat×Oper)),(σ.undef items).slots t=bif mJ t items then .undef else σ.slots t:=by
 intro items
 induction items with
 | nil=>rfl
 | cons p r ih =>
   obtain⟨i,o⟩:=p
   simp only[St.undef,mJ]
   cases hd:o.dst with
   | none=>simp only[St.aU,Bool.false_or];exact ih
   | some k =>
     simp only[St.aU,St.put]
     cases hk:Nat.beq k t with
     | true=>obtain rfl:=Nat.eq_of_beq_eq_true hk;simp
     | false =>
       have:Nat.beq t k=false:=gK (fun e=>by subst e;simp at hk)
       rw[this];simp only[cond_false,Bool.false_or];exact ih
theorem tO:∀(items:List (Nat×Oper)),(σ.undef items).mem=σ.mem:=by
 intro items
 induction items with
 | nil=>rfl
 | cons p r ih =>
   obtain⟨i,o⟩:=p
   simp only[St.undef]
   cases o.dst<;>exact ih
theorem cX.undef(h:cX B N γ σ a w){items:List (Nat×Oper)}{a':Act}(hf:Fr items a a')(hs:a'.tmps.size=N)(hd:a'.defers=[]):cX B N γ (σ.undef items) a' w where
 slots:=fun t=>by
  rw[OP,tO]
  cases hh:mJ t items with
  | true=>exact⟨_,rfl⟩
  | false =>
    have:=hf t hh
    have e:a'.tmps.getD t Go.undef=a.tmps.getD t Go.undef:=by simp only[Array.getD_eq_getD_getElem?,this]
    rw[e];exact h.slots t
 size:=hs
 defers:=hd
 ok:=by rw[tO];exact h.ok
theorem Du{d:Option Nat}{k:Nat}(h:yielded all a.tmps k=none):yielded all (a.put d Go.undef).tmps k=none:=by
 unfold yielded at h⊢
 cases hk:(all[k]?).bind (·.dst) with
 | none=>rfl
 | some dk =>
   rw[hk] at h
   simp only[Option.bind_some] at h⊢
   by_cases e:d=some dk
   ·subst e
    simp only[Act.put]
    rw[Array.getElem?_setIfInBounds]
    simp only[if_true]
    by_cases hs:dk<a.tmps.size
    ·rw[if_pos hs];rfl
    ·rw[if_neg hs]
   ·rw[fu e];exact h
theorem Dv{i:Nat}{o:Oper}(h:all[i]?=some o):yielded all (a.put o.dst Go.undef).tmps i=none:=by
 unfold yielded
 rw[h]
 simp only[Option.bind_some]
 cases hd:o.dst with
 | none=>rfl
 | some d =>
   simp only[Option.bind_some,Act.put]
   rw[Array.getElem?_setIfInBounds]
   simp only[if_true]
   by_cases hs:d<a.tmps.size
   ·rw[if_pos hs];rfl
   ·rw[if_neg hs]
theorem Rv{G:List (Nat×Bool)}{j dj:Nat}{want c:Bool}{Q:Exit→Act→World→Prop}(hj:(all[j]?).bind (·.dst)=some dj)(OQ:c≠want) :
  ∀{items:List (Nat×Oper)} {l:List Oper} {inner:List Nat} {a:Act},qA all G items l→a.tmps[dj]?=some (.bool c)→mJ dj (under j want inner items).1=false→(∀k∈inner,yielded all a.tmps k=none) →
   ∃l1 l2,l=l1++l2∧l1.length=(under j want inner items).1.length∧∀rest,(∀a',Fr (under j want inner items).1 a a'→a'.tmps.size=a.tmps.size→a'.defers=a.defers→wpList P all Q rest a' w) →
    wpList P all Q (l1++rest) a w:=by
 intro items l inner a h
 induction h generalizing inner a with
 | nil=>intro _ _ _;exact⟨[],[],rfl,rfl,fun rest hk=>hk a (fun t _=>rfl) rfl rfl⟩
 | @cons i o o' r l h1 h2 h3 ih =>
   intro hc hh hin
   have one:∀(oo:Oper),oo.dst=o.dst→Region.wanted o (yielded all a.tmps)=false→(under j want inner ((i,o')::r)).1=(i,oo)::(under j want (i::inner) r).1 →
     ∃l1 l2,o::l=l1++l2∧l1.length=(under j want inner ((i,o')::r)).1.length∧∀rest,(∀a',Fr (under j want inner ((i,o')::r)).1 a a'→a'.tmps.size=a.tmps.size→a'.defers=a.defers→wpList P all Q rest a' w) →
     wpList P all Q (l1++rest) a w:=by
    intro oo hoo hw hu
    rw[hu] at hh⊢
    obtain⟨hd1,hd2⟩:=wI hh
    rw[hoo] at hd1
    obtain⟨l1,l2,e1,e2,e3⟩:=ih (inner:=i::inner) (a:=a.put o.dst Go.undef) (by rw[fu hd1];exact hc) hd2 (fun k hk=>by
     rcases List.mem_cons.1 hk with rfl|hk
     ·exact Dv h1
     ·exact Du (hin k hk))
    refine⟨o::l1,l2,by rw[e1];rfl,by simp[e2],fun rest hk=>?_⟩
    show wpList P all Q (o::(l1++rest)) a w
    unfold wpList
    rw[hw]
    simp only[Bool.false_eq_true,if_false]
    refine e3 rest fun a' f1 f2 f3=>hk a' (fun t ht=>?_) (f2.trans (On _ _ _)) (f3.trans (put_defers _ _ _))
    obtain⟨ht1,ht2⟩:=wI ht
    rw[hoo] at ht1
    rw[f1 t ht2,fu ht1]
   cases hg:xC o'.guard j want with
   | true =>
     have ho:o'=o:=by
      rcases h2 with h2|⟨g,k1,k2,k3⟩
      ·exact h2
      ·rw[k3] at hg;cases hg
     subst ho
     have hgd:o'.guard=some (j,want):=by
      unfold xC at hg
      split at hg
      ·rename_i i' b' hgd
       simp only[Bool.and_eq_true] at hg
       have h9:=Nat.eq_of_beq_eq_true hg.1
       have h8:b'=want:=by simpa using hg.2
       rw[hgd,h9,h8]
      ·cases hg
     refine one { o' with guard:=none } rfl ?_ (by simp only[under,hg,cond_true])
     unfold Region.wanted
     rw[hgd]
     simp only[yielded,hj,Option.bind_some,hc]
     cases c<;>cases want<;>first|rfl|exact absurd rfl OQ
   | false =>
     cases hgd:o'.guard with
     | none =>
       have hu:(under j want inner ((i,o')::r)).1=[]:=by
        rw[hgd] at hg
        simp only[under,hgd,hg,cond_false]
       rw[hu]
       exact⟨[],o::l,rfl,rfl,fun rest hk=>hk a (fun t _=>rfl) rfl rfl⟩
     | some g =>
       obtain⟨k,b⟩:=g
       rw[hgd] at hg
       cases hn:inner.any (Nat.beq k) with
       | true =>
         have ho:o'=o:=by
          rcases h2 with h2|⟨g,k1,k2,k3⟩
          ·exact h2
          ·rw[k3] at hgd;cases hgd
         subst ho
         refine one o' rfl ?_ (by simp only[under,hgd,hg,hn,cond_false,cond_true])
         obtain⟨k',hk',hkk⟩:=List.any_eq_true.1 hn
         obtain rfl:=Nat.eq_of_beq_eq_true hkk
         unfold Region.wanted
         rw[hgd]
         simp only[hin k hk']
         rfl
       | false =>
         have hu:(under j want inner ((i,o')::r)).1=[]:=by simp only[under,hgd,hg,hn,cond_false]
         rw[hu]
         exact⟨[],o::l,rfl,rfl,fun rest hk=>hk a (fun t _=>rfl) rfl rfl⟩
end
end Go.Ge
namespace Go.Ge
set_option linter.unusedVariables false
set_option linter.unusedSimpArgs false
open RowKit
section
variable {P:Program} {B:qz} {N:Nat} {γ:Gh} {σ σ':St} {a:Act} {w w':World} {cx:Ctx} {nb:Nat} {bf:List Nat} {inl:Nat→List aS→St→Tree (aS×St)} {all:Array Oper}
theorem Iy(σ:St)(items:List (Nat×Oper)):br σ (σ.undef items):=br.V6 (tO items)
theorem Dw(lf:∀f vals σ v σ',(inl f vals σ).run=some (v,σ')→br σ σ'):∀(n:Nat) (items:List (Nat×Oper)) (σ:St),aq σ (pJ cx nb bf inl all n items σ):=by
 intro n
 induction n with
 | zero=>intro items σ;exact aq.fail
 | succ n ih =>
   intro items σ
   cases items with
   | nil=>exact aq.ret (br.refl _)
   | cons p r =>
     obtain⟨i,o⟩:=p
     unfold pJ
     split
     ·exact aq.bind fun σ1 h1 y hy=>(zn lf σ1 h1).trans (ih _ _ y hy)
     ·rename_i j want hg
      dsimp only
      split
      ·exact aq.fail
      ·rename_i dj hdj
       split
       ·rename_i c ip pk rest Dx oS
        cases hh:mJ dj (under j want [] ((i,o)::r)).1 with
        | true=>exact aq.fail
        | false =>
          simp only[cond_false]
          split
          ·exact aq.fail
          ·cases hin:Ht cx (under j want [] ((i,o)::r)).1 with
           | true =>
             simp only[cond_true]
             intro y hy
             obtain⟨σ2,h1,h2⟩:=bind_some hy
             refine br.trans ?_ (ih _ _ y h2)
             refine(aq.node (σ:=σ) ?_ ?_) σ2 h1
             ·refine aq.bind fun τ hτ=>?_
              split
              ·exact aq.ret ((ih _ _ τ hτ).trans (br.aU _ _ _))
              ·exact aq.fail
             ·split
              ·exact aq.ret ((Iy _ _).trans (br.aU _ _ _))
              ·exact aq.fail
           | false =>
             simp only[cond_false]
             split
             ·intro y hy
              rw[Tree.yT] at hy
              obtain⟨x,h1,h2⟩:=Option.bind_eq_some_iff.1 hy
              exact((Iy _ _).trans (br.put _ _ _)).trans (ih _ _ y h2)
             ·exact aq.fail
       ·exact aq.fail
theorem Tn{mem:Nat→Option bU}{t:Ty}{v:aS}{x:t.den}{val:Value}(h:T0 t v=some x)(hv:cw γ mem w v .val [val]){mem':Nat→Option bU}:cw γ mem' w (.data t x) .val [val]:=by
 unfold T0 at h
 split at h
 ·obtain⟨q,hq⟩:=Ty.jP h
  subst q;subst hq
  exact hv
 ·split at h
  ·obtain rfl:=Option.some.inj h
   obtain rfl:val=_:=by simpa [cw] using hv
   exact⟨[.slice none 0 0],.inl ⟨⟨none,rfl⟩,rfl⟩,rfl⟩
  ·cases h
 ·cases h
theorem qA.length{G:List (Nat×Bool)}{items:List (Nat×Oper)}{l:List Oper}(h:qA all G items l):items.length=l.length:=by
 induction h with
 | nil=>rfl
 | cons _ _ _ ih=>simp[ih]
theorem Rw{pk:Oper}{dj:Nat}{b:Bool}{v:aS}{K:Act→World→Prop}{Q:Exit→Act→World→Prop}(h:cX B N γ σ a w)(hb:a.tmps[dj]?=some (.bool b)){want:Bool}(hw:b=want)
  (hch:xD σ pk dj want=some v) (hK:∀y,cw γ σ.mem w v .val [y]→K (a.put pk.dst y) w):pk.wp P a w K Q:=by
 unfold xD at hch
 split at hch
 ·rename_i c x y hop
  cases hc:Nat.beq c dj with
  | false=>rw[hc] at hch;cases hch
  | true =>
    obtain rfl:=Nat.eq_of_beq_eq_true hc
    rw[hc] at hch
    obtain rfl:=Option.some.inj hch
    subst hw
    have he:a.eval (.tmp c)=.bool b:=by simp[Act.eval,hb]
    unfold Oper.wp
    have hrun:(execOp a.eval pk).run P w=.ok (.value (a.eval (bif b then x else y))) w:=by
     simp only[execOp,hop,he]
     cases b<;>rfl
    rw[hrun]
    exact hK _ (h.cJ _)
 ·cases hch
theorem OO.put{G:List (Nat×Bool)}{i:Nat}{o:Oper}{r:List (Nat×Oper)}(h:OO all G a ((i,o)::r))(v:Value):OO all G (a.put o.dst v) r:=by
 intro g hg
 obtain⟨dj,k1,k2,k3⟩:=h g hg
 obtain⟨t1,t2⟩:=wI k3
 exact⟨dj,k1,by rw[fu t1];exact k2,t2⟩
theorem Rx{d j:Nat}{want:Bool}:∀{items:List (Nat×Oper)} {inner:List Nat},mJ d items=(mJ d (under j want inner items).1||mJ d (under j want inner items).2):=by
 intro items
 induction items with
 | nil=>intro inner;rfl
 | cons p r ih =>
   obtain⟨i,o⟩:=p
   intro inner
   unfold under
   cases hg:xC o.guard j want with
   | true=>simp only[cond_true,mJ,Bool.or_assoc];rw[ih (inner:=i::inner)]
   | false =>
     simp only[cond_false]
     have both:∀c:Bool,mJ d ((i,o)::r)=(mJ d (bif c then((i,o)::(under j want (i::inner) r).1,(under j want (i::inner) r).2) else([],(i,o)::r)).1 ||
       mJ d (bif c then((i,o)::(under j want (i::inner) r).1,(under j want (i::inner) r).2) else([],(i,o)::r)).2):=by
      intro c
      cases c with
      | true=>simp only[cond_true,mJ,Bool.or_assoc];rw[ih (inner:=i::inner)]
      | false=>simp[mJ]
     exact both _
theorem Ry{p:Option Nat→Prop}{j:Nat}{want:Bool}:∀{items:List (Nat×Oper)} {inner:List Nat},(∀i o,(i,o)∈items→p o.dst) →
  (∀i o,(i,o)∈(under j want inner items).1→p o.dst)∧(∀i o,(i,o)∈(under j want inner items).2→p o.dst):=by
 intro items
 induction items with
 | nil=>intro inner h;exact⟨h,h⟩
 | cons q r ih =>
   obtain⟨i0,o0⟩:=q
   intro inner h
   have h0:=h i0 o0 (List.mem_cons_self ..)
   have hr:∀i o,(i,o)∈r→p o.dst:=fun i o hm=>h i o (List.mem_cons_of_mem _ hm)
   unfold under
   cases hg:xC o0.guard j want with
   | true =>
     simp only[cond_true]
     obtain⟨k1,k2⟩:=ih (inner:=i0::inner) hr
     refine⟨fun i o hm=>?_,k2⟩
     rcases List.mem_cons.1 hm with hm|hm
     ·obtain⟨_,rfl⟩:=Prod.mk.inj hm;exact h0
     ·exact k1 i o hm
   | false =>
     simp only[cond_false]
     have both:∀c:Bool,(∀i o,(i,o)∈(bif c then((i0,o0)::(under j want (i0::inner) r).1,(under j want (i0::inner) r).2) else([],(i0,o0)::r)).1→p o.dst) ∧
       (∀i o,(i,o)∈(bif c then((i0,o0)::(under j want (i0::inner) r).1,(under j want (i0::inner) r).2) else([],(i0,o0)::r)).2→p o.dst):=by
      intro c
      cases c with
      | true =>
        obtain⟨k1,k2⟩:=ih (inner:=i0::inner) hr
        refine⟨fun i o hm=>?_,k2⟩
        rcases List.mem_cons.1 hm with hm|hm
        ·obtain⟨_,rfl⟩:=Prod.mk.inj hm;exact h0
        ·exact k1 i o hm
      | false=>exact⟨fun i o hm=>(by cases hm),h⟩
     exact both _
theorem F0{t:Nat}{b:Bool}(h:cX B N γ σ a w)(hs:σ.slots t=.data .bool b):a.tmps[t]?=some (.bool b):=by
 have:=h.slots t
 rw[hs] at this
 have e:=xH this
 rw[Array.getD_eq_getD_getElem?] at e
 cases hq:a.tmps[t]? with
 | none=>rw[hq] at e;cases e
 | some y=>rw[hq] at e;exact congrArg some e
theorem OR{α:Type}{c want:Bool}{t e:Tree α}{y:α}(h:(Tree.node (bif want then c else nt c) t e).run=some y):(c=want∧t.run=some y)∨(c≠want∧c=(!want)∧e.run=some y):=by
 have:=fL h
 cases c<;>cases want
 ·exact .inl ⟨rfl,this⟩
 ·exact .inr ⟨by simp,rfl,this⟩
 ·exact .inr ⟨by simp,rfl,this⟩
 ·exact .inl ⟨rfl,this⟩
theorem Ko(hc:fC P cx)(eg:oR P B.G cx)(lf:uV P B.G inl)(hkeep:∀f vals σ v σ',(inl f vals σ).run=some (v,σ')→br σ σ'){Q:Exit→Act→World→Prop} :
  ∀(n:Nat) {items:List (Nat×Oper)} {l rest:List Oper} {σ σ':St} {γ:Gh} {a:Act} {w:World} {G:List (Nat×Bool)},qA all G items l→OO all G a items→(∀i o,(i,o)∈items→∀k,o.dst=some k→k<N) →
   (pJ cx nb bf inl all n items σ).run=some σ'→cX B N γ σ a w →
   (∀γ' a' w',cX B N γ' σ' a' w'→Ext B γ σ.mem w γ' σ'.mem w'→Fr items a a'→wpList P all Q rest a' w')→wpList P all Q (l++rest) a w:=by
 intro n
 induction n with
 | zero=>intro items l rest σ σ' γ a w G _ _ _ hr;cases hr
 | succ n ih =>
   intro items l rest σ σ' γ a w G hit hG hd hr h hK
   cases hit with
   | nil =>
     obtain rfl:=Option.some.inj hr
     exact hK γ a w h (Ext.refl _ _ _ _) (fun t _=>rfl)
   | @cons i o o' r l h1 h2 h3 =>
     have Rp:o'.dst=o.dst:=by rcases h2 with rfl|⟨_,_,_,rfl⟩<;>rfl
     unfold pJ at hr
     split at hr
     ·rename_i hg
      obtain⟨σ1,r1,r2⟩:=bind_some hr
      have hw:Region.wanted o (yielded all a.tmps)=true:=by
       rcases h2 with rfl|⟨g,k1,k2,k3⟩
       ·unfold Region.wanted;rw[hg]
       ·exact hG.wanted k1 k2
      have r1':(pI cx nb bf inl o σ).run=some σ1:=by
       rcases h2 with rfl|⟨g,k1,k2,rfl⟩
       ·exact r1
       ·exact r1
      show wpList P all Q (o::(l++rest)) a w
      unfold wpList
      rw[hw]
      simp only[if_true]
      refine .inl (Iq hc eg lf h (fun k hk=>hd i o' (List.mem_cons_self ..) k (by rw[Rp];exact hk)) r1' fun jb v w1 s1 x1=>?_)
      have hG':=hG.put v
      rw[Rp] at hG'
      refine ih h3 hG' (fun i o hm=>hd i o (List.mem_cons_of_mem _ hm)) r2 s1 fun EW a2 w2 s2 x2 f2=>hK EW a2 w2 s2 (x1.trans x2) fun t ht=>?_
      obtain⟨t1,t2⟩:=wI ht
      rw[f2 t t2,fu (by rw[←Rp];exact t1)]
     ·rename_i j want hg
      dsimp only at hr
      split at hr
      ·exact absurd hr (by intro k;cases k)
      rename_i dj hdj
      split at hr
      case h_2=>exact absurd hr (by intro k;cases k)
      rename_i c ip pk rest' Dx oS
      change Bool at c
      cases hh:mJ dj (under j want [] ((i,o')::r)).1 with
      | true=>rw[hh] at hr;exact absurd hr (by intro k;cases k)
      | false =>
      rw[hh] at hr
      simp only[cond_false] at hr
      split at hr
      ·exact absurd hr (by intro k;cases k)
      rename_i hpg
      have aae:a.tmps[dj]?=some (.bool c):=F0 h Dx
      obtain⟨l1,l2,e1,I1,I2⟩:=ON (j:=j) (want:=want) (inner:=[]) (qA.cons h1 h2 h3)
      obtain⟨d1,d2⟩:=Ry (p:=fun d=>∀k,d=some k→k<N) (j:=j) (want:=want) (inner:=[]) hd
      have ZH:∀d,mJ d ((i,o')::r)=(mJ d (under j want [] ((i,o')::r)).1||mJ d (under j want [] ((i,o')::r)).2):=fun d=>Rx
      have abU:=fun(OQ:c≠want)=>Rv (P:=P) (w:=w) (Q:=Q) hdj OQ (qA.cons h1 h2 h3) aae hh (fun k hk=>by cases hk)
      generalize QO:(under j want [] ((i,o')::r)).1=g1 at *
      rw[oS] at I2 d2 ZH
      cases I2 with
      | @cons _ VG _ _ l2' p1 p2 p3 =>
      have hpd:pk.dst=VG.dst:=by rcases p2 with rfl|⟨_,_,_,rfl⟩<;>rfl
      have adT:pk.op=VG.op:=by rcases p2 with rfl|⟨_,_,_,rfl⟩<;>rfl
      rw[e1,List.append_assoc]
      have hsplit:∀{d},mJ d ((i,o')::r)=false→mJ d g1=false∧VG.dst≠some d∧mJ d rest'=false:=by
       intro d hd0
       rw[ZH] at hd0
       simp only[Bool.or_eq_false_iff] at hd0
       obtain⟨q1,q2⟩:=wI hd0.2
       exact⟨hd0.1,by rw[←hpd];exact q1,q2⟩
      have tail:∀(jb:Gh) (τ σ2:St) (a1:Act) (w1:World) (v:aS) (b:Bool),cX B N jb τ a1 w1→Fr g1 a a1→c=b→xD τ pk dj b=some v →
        (∀y,cw jb τ.mem w1 v .val [y]→∃EW,cX B N EW σ2 (a1.put VG.dst y) w1∧Ext B γ σ.mem w EW σ2.mem w1)→(pJ cx nb bf inl all n rest' σ2).run=some σ' →
        wpList P all Q (VG::l2'++rest) a1 w1:=by
       intro jb τ σ2 a1 w1 v b s1 f1 hcb hch hy hev
       have hGp:OO all G a1 ((ip,pk)::rest'):=fun g hgm=>by
        obtain⟨dj',k1,k2,k3⟩:=hG g hgm
        obtain⟨q1,q2,q3⟩:=hsplit k3
        refine⟨dj',k1,by rw[f1 dj' q1];exact k2,?_⟩
        simp only[mJ,Bool.or_eq_false_iff]
        refine⟨?_,q3⟩
        cases hpk:pk.dst with
        | none=>rfl
        | some k=>exact gK fun e=>q2 (by rw[←hpd,hpk,e])
       have hwp:Region.wanted VG (yielded all a1.tmps)=true:=by
        rcases p2 with rfl|⟨g,k1,k2,k3⟩
        ·unfold Region.wanted;rw[hpg]
        ·exact hGp.wanted k1 k2
       show wpList P all Q (VG::(l2'++rest)) a1 w1
       unfold wpList
       rw[hwp]
       simp only[if_true]
       have adU:xD τ VG dj b=some v:=by rw[←hch];unfold xD;rw[adT]
       refine .inl (Rw s1 (by rw[f1 dj hh];exact aae) hcb adU fun y hyr=>?_)
       obtain⟨EW,s2,x2⟩:=hy y hyr
       have hGr:=hGp.put y
       rw[hpd] at hGr
       refine ih p3 hGr (fun i o hm=>d2 i o (List.mem_cons_of_mem _ hm)) hev s2 fun γ3 a3 w3 s3 x3 f3=>hK γ3 a3 w3 s3 (x2.trans x3) fun t ht=>?_
       obtain⟨q1,q2,q3⟩:=hsplit ht
       rw[f3 t q3,fu q2,f1 t q1]
      have ZI:∀(τ:St) (d:Option Nat) (v:aS),(τ.aU d v).mem=τ.mem:=fun τ d v=>by cases d<;>rfl
      have hpk:∀k,VG.dst=some k→k<N:=fun k hk=>d2 ip pk (List.mem_cons_self ..) k (by rw[hpd];exact hk)
      have hG1:c=want→OO all ((j,want)::G) a g1:=fun OQ g hgm=>by
       rcases List.mem_cons.1 hgm with rfl|hgm
       ·exact⟨dj,hdj,by rw[←OQ];exact aae,hh⟩
       ·obtain⟨dj',k1,k2,k3⟩:=hG g hgm
        exact⟨dj',k1,k2,(hsplit k3).1⟩
      have gd:c≠want→(∀a1,Fr g1 a a1→a1.tmps.size=a.tmps.size→a1.defers=a.defers→wpList P all Q (VG::l2'++rest) a1 w)→wpList P all Q (l1++(VG::l2'++rest)) a w:=by
       intro OQ hk
       obtain⟨m1,m2,q1,q2,q3⟩:=abU OQ
       rw[e1] at q1
       obtain⟨rfl,rfl⟩:=List.append_inj q1 (by rw[q2,I1.length])
       exact q3 _ hk
      cases hin:Ht cx g1 with
      | true =>
        rw[hin] at hr
        simp only[cond_true] at hr
        obtain⟨σ2,hn,hev⟩:=bind_some hr
        rcases OR (c:=c) (want:=want) hn with ⟨OQ,hn⟩|⟨OQ,hcn,hn⟩
        ·obtain⟨τ,t1,t2⟩:=bind_some hn
         split at t2
         ·rename_i v hch
          obtain rfl:=Option.some.inj t2
          refine ih I1 (hG1 OQ) d1 t1 h fun jb a1 w1 s1 x1 f1=>tail jb τ _ a1 w1 v want s1 f1 OQ hch (fun y hy=>⟨jb,?_,?_⟩) hev
          ·rw[hpd];exact s1.ua hpk hy
          ·rw[ZI];exact x1
         ·exact absurd t2 (by intro k;cases k)
        ·split at hn
         ·rename_i v hch
          obtain rfl:=Option.some.inj hn
          refine gd OQ fun a1 f1 f2 f3=>tail γ (σ.undef g1) _ a1 w v (!want) (h.undef f1 (f2.trans h.size) (f3.trans h.defers)) f1 hcn hch (fun y hy=>⟨γ,?_,?_⟩) hev
          ·rw[hpd];exact(h.undef f1 (f2.trans h.size) (f3.trans h.defers)).ua hpk hy
          ·rw[ZI,tO];exact Ext.refl _ _ _ _
         ·exact absurd hn (by intro k;cases k)
      | false =>
        rw[hin] at hr
        simp only[cond_false] at hr
        split at hr
        case h_2=>exact absurd hr (by intro k;cases k)
        rename_i t dp hT hdp
        rw[Tree.yT] at hr
        obtain⟨x,hn,hev⟩:=Option.bind_eq_some_iff.1 hr
        have YB:VG.dst=some dp:=by rw[←hpd];exact hdp
        rcases OR (c:=c) (want:=want) hn with ⟨OQ,hn⟩|⟨OQ,hcn,hn⟩
        ·obtain⟨τ,t1,t2⟩:=bind_some hn
         split at t2
         ·rename_i x' hch
          obtain rfl:=Option.some.inj t2
          obtain⟨v,hv1,Lv⟩:=Option.bind_eq_some_iff.1 hch
          refine ih I1 (hG1 OQ) d1 t1 h.gW fun jb a1 w1 s1 x1 f1=>tail jb τ _ a1 w1 v want s1 f1 OQ hv1 (fun y hy=>?_) hev
          obtain⟨m1,m2⟩:=h.ok.unlock (MT (Dw hkeep n g1 _ τ t1)) s1.ok x1
          have hS:cX B N jb σ a w1:=h.go m2 m1
          have hS2:=hS.undef f1 s1.size s1.defers
          refine⟨jb,?_,?_⟩
          ·rw[YB];exact hS2.ua (d:=some dp) (fun k hk=>hpk k (by rw[YB];exact hk)) (Tn Lv hy)
          ·show Ext B γ σ.mem w jb (σ.undef g1).mem w1
           rw[tO];exact m2
         ·exact absurd t2 (by intro k;cases k)
        ·split at hn
         ·rename_i x' hch
          obtain rfl:=Option.some.inj hn
          obtain⟨v,hv1,Lv⟩:=Option.bind_eq_some_iff.1 hch
          refine gd OQ fun a1 f1 f2 f3=>tail γ (σ.undef g1) _ a1 w v (!want) (h.undef f1 (f2.trans h.size) (f3.trans h.defers)) f1 hcn hv1 (fun y hy=>⟨γ,?_,?_⟩) hev
          ·rw[YB];exact(h.undef f1 (f2.trans h.size) (f3.trans h.defers)).ua (d:=some dp) (fun k hk=>hpk k (by rw[YB];exact hk)) (Tn Lv hy)
          ·show Ext B γ σ.mem w γ (σ.undef g1).mem w
           rw[tO];exact Ext.refl _ _ _ _
         ·exact absurd hn (by intro k;cases k)
end
end Go.Ge
namespace Go.Ge
set_option linter.unusedVariables false
set_option linter.unusedSimpArgs false
open RowKit
section
variable {P:Program} {B:qz} {N:Nat} {γ:Gh} {σ σ':St} {a:Act} {w w':World} {cx:Ctx} {nb:Nat} {bf:List Nat} {inl:Nat→List aS→St→Tree (aS×St)} {ops:Array Oper}
theorem MU:∀{l:List Oper} {k:Nat},(∀j,l[j]?=ops[k+j]?)→qA ops [] (number k l) l:=by
 intro l
 induction l with
 | nil=>intro k _;exact .nil
 | cons o l ih =>
   intro k h
   refine .cons ?_ (.inl rfl) (ih fun j=>by have:=h (j+1);simpa [Nat.add_assoc,Nat.add_comm 1 j] using this)
   have:=h 0
   simpa using this.symm
theorem Rz:∀{l:List Oper} {k i:Nat} {o:Oper},(i,o)∈number k l→o∈l:=by
 intro l
 induction l with
 | nil=>intro k i o h;cases h
 | cons p l ih =>
   intro k i o h
   rcases List.mem_cons.1 h with h|h
   ·obtain⟨_,rfl⟩:=Prod.mk.inj h;exact List.mem_cons_self ..
   ·exact List.mem_cons_of_mem _ (ih h)
theorem MV(hc:fC P cx)(eg:oR P B.G cx)(lf:uV P B.G inl)(hkeep:∀f vals σ v σ',(inl f vals σ).run=some (v,σ')→br σ σ'){Q:Exit→Act→World→Prop}{id:Nat}
  (hd:∀o∈ops.toList,∀k,o.dst=some k→k<N) (hr:(HQ cx nb bf inl ops σ).run=some σ') (h:cX B N γ σ a w)
  (hK:∀γ' a' w',cX B N γ' σ' a' w'→Ext B γ σ.mem w γ' σ'.mem w'→Fr (number 0 ops.toList) a a'→Q .normal a' w'):(Code.region id ops false).wp P Q a w:=by
 refine wp_region_list ?_
 have:=Ko (all:=ops) (Q:=Q) (rest:=[]) hc eg lf hkeep _ (MU (l:=ops.toList) (k:=0) (fun j=>by simp)) (fun g hg=>by cases hg) (fun i o hm=>hd o (Rz hm)) hr h
  (fun γ' a' w' s x f=>wpList_nil (hK γ' a' w' s x f))
 simpa using this
end
end Go.Ge
namespace Go.Ge
set_option linter.unusedVariables false
set_option linter.unusedSimpArgs false
open RowKit
def iG(p:Nat→Prop)(σ τ:St):Prop:=∀b,τ.mem b=σ.mem b∨(τ.mem b≠none∧p b)
section
variable {p:Nat→Prop} {σ τ ρ:St}
theorem iG.refl(σ:St):iG p σ σ:=fun _=>.inl rfl
theorem iG.V6(h:τ.mem=σ.mem):iG p σ τ:=fun b=>.inl (by rw[h])
theorem iG.trans(h:iG p σ τ)(k:iG p τ ρ):iG p σ ρ:=fun b=>by
 rcases k b with k1|k1
 ·rcases h b with h1|⟨h1,h2⟩
  ·exact .inl (k1.trans h1)
  ·exact .inr ⟨by rw[k1];exact h1,h2⟩
 ·exact .inr k1
theorem iG.aU(σ:St)(d:Option Nat)(v:aS):iG p σ (σ.aU d v):=by cases d<;>exact fun _=>.inl rfl
theorem iG.put(σ:St)(d:Nat)(v:aS):iG p σ (σ.put d v):=fun _=>.inl rfl
theorem iG.cr{b:Nat}{bx:bU}(h:p b):iG p σ (σ.cr b bx):=fun c=>by
 by_cases e:c=b
 ·subst e;exact .inr ⟨by simp[St.cr],h⟩
 ·exact .inl (by rw[uc,aP _ e])
end
def aG(p:Nat→Prop)(σ:St)(T:Tree St):Prop:=∀y,T.run=some y→iG p σ y
section
variable {p:Nat→Prop} {σ:St}
theorem aG.fail:aG p σ .fail:=fun y h=>by cases h
theorem aG.ret{σ':St}(h:iG p σ σ'):aG p σ (.ret σ'):=fun y hy=>by obtain rfl:=Option.some.inj hy;exact h
theorem aG.bif{c:Bool}{t:Tree St}(h:aG p σ t):aG p σ (bif c then t else .fail):=fun y hy=>h y (aD hy).2
theorem aG.need{c:Bool}{t:Tree St}(h:aG p σ t):aG p σ (.need c t):=fun y hy=>h y (cD hy).2
theorem aG.look{T:Type}{o:Option T}{k:T→Tree St}(h:∀x,aG p σ (k x)):aG p σ (.look o k):=fun y hy=>by obtain⟨x,_,h2⟩:=b5 hy;exact h x y h2
theorem aG.node{c:Bool}{t e:Tree St}(h:aG p σ t)(k:aG p σ e):aG p σ (.node c t e):=fun y hy=>by
 have:=fL hy
 cases c with
 | true=>exact h y this
 | false=>exact k y this
theorem aG.bind{α:Type}{t:Tree α}{f:α→Tree St}(h:∀x,t.run=some x→aG p σ (f x)):aG p σ (t.bind f):=fun y hy=>by obtain⟨x,h1,h2⟩:=bind_some hy;exact h x h1 y h2
theorem aG.aO{b:Nat}{val:aS}{tid:TypeId}{buf:Bool}{d:Nat}{v:Nat→aS}(h:p b):aG p σ (σ.aO b val tid buf fun aC σ=>.ret (σ.put d (v aC))):=fun y hy=>by
 obtain⟨aC,k1,k2⟩:=lU hy
 obtain rfl:=Option.some.inj k2
 exact(iG.cr h).trans (iG.put _ _ _)
theorem Iz{σ σ':St}{b:Nat}(hp:∀b,σ.mem b≠none→p b)(h:freeze σ b=some σ'):iG p σ σ':=by
 unfold freeze at h
 split at h
 ·rename_i bx hb
  cases hro:bx.ro with
  | true=>simp only[hro,cond_true,Option.some.injEq] at h;rw[←h];exact iG.refl _
  | false =>
    cases hlk:bx.lk with
    | true=>simp[hro,hlk] at h
    | false =>
      simp only[hro,hlk,cond_false,Option.some.injEq] at h
      rw[←h]
      exact iG.cr (hp b (by rw[hb];simp))
 ·cases h
def Dom(p:Nat→Prop)(σ σ':St):Prop:=(∀b,σ.mem b≠none→p b)→iG p σ σ'∧∀b,σ'.mem b≠none→p b
theorem Dom.refl(σ:St):Dom p σ σ:=fun h=>⟨iG.refl _,h⟩
theorem Dom.trans{σ τ ρ:St}(h:Dom p σ τ)(k:Dom p τ ρ):Dom p σ ρ:=fun hp=>by
 obtain⟨h1,h2⟩:=h hp
 obtain⟨k1,k2⟩:=k h2
 exact⟨h1.trans k1,k2⟩
theorem Dom.of{σ σ':St}(h:(∀b,σ.mem b≠none→p b)→iG p σ σ'):Dom p σ σ':=fun hp=>by
 refine⟨h hp,fun b hb=>?_⟩
 rcases h hp b with k|k
 ·exact hp b (by rw[←k];exact hb)
 ·exact k.2
theorem OS:∀{v:aS} {σ σ':St},gb σ v=some σ'→Dom p σ σ':=by
 intro v
 induction v with
 | mix p q Rb OA =>
   intro σ σ' h
   obtain⟨σ1,h1,h2⟩:=uT h
   exact(Rb h1).trans (OA h2)
 | whole b aC=>intro σ σ' h;exact Dom.of fun hp=>Iz hp h
 | part b aC lo n=>intro σ σ' h;exact Dom.of fun hp=>Iz hp h
 | _=>intro σ σ' h;obtain rfl:=Option.some.inj h;exact Dom.refl _
theorem wJ{t:Ty}{x:t.den}{v:aS}{σ σ':St}(h:yU σ t v=some (x,σ')):Dom p σ σ':=by
 unfold yU at h
 split at h
 ·split at h
  ·obtain⟨_,rfl⟩:=Prod.mk.inj (Option.some.inj h);exact Dom.refl _
  ·cases h
 ·split at h
  ·rename_i y σ1 hl hf
   obtain⟨_,rfl⟩:=Prod.mk.inj (Option.some.inj h)
   exact OS hf
  ·cases h
theorem zo:∀{A:Ty} {x:A.den} {vs:List aS} {σ σ':St},jQ σ A vs=some (x,σ')→Dom p σ σ':=by
 intro A
 induction A with
 | pair t r HN ihr =>
   intro x vs σ σ' hl
   cases vs with
   | nil=>cases hl
   | cons v vs =>
     simp only[jQ] at hl
     split at hl
     ·rename_i p σ1 hp
      split at hl
      ·rename_i q σ2 hq
       obtain⟨_,rfl⟩:=Prod.mk.inj (Option.some.inj hl)
       exact(wJ hp).trans (ihr hq)
      ·cases hl
     ·cases hl
 | unit =>
   intro x vs σ σ' hl
   cases vs with
   | nil=>obtain⟨_,rfl⟩:=Prod.mk.inj (Option.some.inj hl);exact Dom.refl _
   | cons v vs=>cases hl
 | _=>intro x vs σ σ' hl;cases vs<;>cases hl
theorem IA{t:Ty}:∀{parts:List (Nat×Operand)} {x x':t.den} {σ σ':St},fW σ t x parts=some (x',σ')→Dom p σ σ':=by
 intro parts
 induction parts with
 | nil=>intro x x' σ σ' h;obtain⟨_,rfl⟩:=Prod.mk.inj (Option.some.inj h);exact Dom.refl _
 | cons p r ih =>
   obtain⟨k,o⟩:=p
   intro x x' σ σ' h
   simp only[fW] at h
   split at h
   ·split at h
    ·rename_i hg
     split at h
     ·exact(wJ hg).trans (ih h)
     ·cases h
    ·cases h
   ·cases h
theorem Bt{e:Ty}:∀{parts:List (Nat×Operand)} {l l':List e.den} {σ σ':St},fK σ e l parts=some (l',σ')→Dom p σ σ':=by
 intro parts
 induction parts with
 | nil=>intro x x' σ σ' h;obtain⟨_,rfl⟩:=Prod.mk.inj (Option.some.inj h);exact Dom.refl _
 | cons p r ih =>
   obtain⟨k,o⟩:=p
   intro l l' σ σ' h
   simp only[fK] at h
   split at h
   ·rename_i hg
    cases hlt:Nat.blt k l.length with
    | false=>rw[hlt] at h;cases h
    | true=>rw[hlt] at h;exact(wJ hg).trans (ih h)
   ·cases h
theorem F1{b aC:Nat}{p':List FK}{fit:aS→Bool}{u:aS}{σ σ':St}(hr:(storeAt b aC p' fit u σ).run=some σ'):Dom p σ σ':=Dom.of fun hp=>by
 unfold storeAt at hr
 split at hr
 case h_2=>exact absurd hr (by intro k;cases k)
 rename_i bx hb
 obtain⟨hc,hr2⟩:=aD hr
 obtain⟨old,hn,jG⟩:=bind_some hr2
 obtain⟨hfit,td⟩:=aD jG
 obtain⟨c,hs,Rf⟩:=bind_some td
 obtain rfl:=Option.some.inj Rf
 exact iG.cr (hp b (by rw[hb];simp))
theorem Kp{cx:Ctx}{ty:TypeId}{x y:aS}{σ σ':St}(hr:(kO cx ty x y σ).run=some σ'):Dom p σ σ':=by
 unfold kO at hr
 split at hr
 case h_2=>exact absurd hr (by intro k;cases k)
 split at hr
 case h_2=>exact absurd hr (by intro k;cases k)
 obtain⟨bt,hr2⟩:=aD hr
 obtain⟨old,hn,jG⟩:=bind_some hr2
 split at jG
 ·obtain⟨hT,td⟩:=aD jG
  split at td
  ·rename_i hg;exact(wJ hg).trans (F1 td)
  ·exact absurd td (by intro k;cases k)
 ·obtain⟨hT,td⟩:=aD jG
  exact F1 td
theorem zp{cx:Ctx}{nb:Nat}{d:Option Nat}{ty:TypeId}{s x:aS}{σ σ':St}(hn:∀k,d=some k→p (nb+k))(hp:∀b,σ.mem b≠none→p b)(hr:(gJ cx nb d ty s x σ).run=some σ'):iG p σ σ':=by
 unfold gJ at hr
 split at hr
 case h_2=>exact absurd hr (by intro k;cases k)
 split at hr
 case h_2=>exact absurd hr (by intro k;cases k)
 split at hr
 ·obtain⟨hf,hr2⟩:=cD hr
  exact aG.aO (hn _ rfl) _ hr2
 ·split at hr
  case h_2=>exact absurd hr (by intro k;cases k)
  rename_i bx l hb hl
  obtain⟨hlk,kD⟩:=xJ hr
  obtain⟨hf,hr2⟩:=cD kD
  obtain rfl:=Option.some.inj hr2
  exact(iG.cr (hp _ (by rw[hb];simp))).trans (iG.put _ _ _)
 ·exact absurd hr (by intro k;cases k)
theorem RA{b:Nat}{val:aS}{tid:TypeId}{buf:Bool}{d:Nat}{v:Nat→aS}{σ σ':St}(h:p b)(hr:(σ.aO b val tid buf fun aC σ=>.ret (σ.put d (v aC))).run=some σ'):iG p σ σ':=aG.aO h _ hr
theorem Kq{nb:Nat}{e:Ty}{d:Option Nat}{args:List aS}{σ σ':St}(hn:∀k,d=some k→p (nb+k))(hp:∀b,σ.mem b≠none→p b)(hr:(kR nb e d args σ).run=some σ'):iG p σ σ':=by
 unfold kR at hr
 split at hr
 case h_2=>cases hr
 split at hr
 case h_2=>cases hr
 rename_i hg
 obtain⟨_,hr⟩:=aD hr
 obtain⟨_,hr⟩:=cD hr
 exact((wJ hg) hp).1.trans (RA (hn _ rfl) hr)
theorem OT{e A:Ty}{res:Bool}{spec:List e.den→A.den→Option (List e.den)}{d:Option Nat}{args:List aS}{σ σ':St}(hp:∀b,σ.mem b≠none→p b)(hr:(qR e A res spec d args σ).run=some σ'):iG p σ σ':=by
 unfold qR at hr
 split at hr
 case h_2=>cases hr
 split at hr
 case h_2=>cases hr
 rename_i x σ1 hg
 split at hr
 case h_2=>cases hr
 rename_i b aC bx l X7
 obtain⟨l',_,hr⟩:=b5 hr
 obtain⟨hb,_⟩:=rU X7
 obtain⟨g1,g2⟩:=(zo hg) hp
 have key:∀gu,iG p σ1 (σ1.cr b gu):=fun gu=>iG.cr (g2 b (by rw[hb];simp))
 cases res with
 | true =>
   cases d with
   | none=>cases hr
   | some k=>obtain rfl:=Option.some.inj hr;exact(g1.trans (key _)).trans (iG.put _ _ _)
 | false =>
   cases d with
   | none=>obtain⟨_,hr⟩:=aD hr;obtain rfl:=Option.some.inj hr;exact(g1.trans (key _)).trans (iG.aU _ none _)
   | some k=>obtain⟨_,hr⟩:=aD hr;obtain rfl:=Option.some.inj hr;exact(g1.trans (key _)).trans (iG.aU _ (some _) _)
end
section
variable {cx:Ctx} {nb:Nat} {bf:List Nat} {d:Option Nat} {σ:St} {p:Nat→Prop}
theorem MW{c a b:aS}:aG p σ (nI d c a b σ):=by unfold nI;(repeat' (first|exact aG.fail|exact aG.ret (iG.aU _ _ _)|exact aG.ret (iG.put _ _ _)|exact aG.aO (by assumption)|refine aG.bif ?_|refine aG.need ?_|refine aG.look fun _=>?_|refine aG.node ?_ ?_|refine aG.bind fun _ _=>?_|split))
theorem MX{ty:TypeId}{a:aS}:aG p σ (kC cx d ty a σ):=by unfold kC;(repeat' (first|exact aG.fail|exact aG.ret (iG.aU _ _ _)|exact aG.ret (iG.put _ _ _)|exact aG.aO (by assumption)|refine aG.bif ?_|refine aG.need ?_|refine aG.look fun _=>?_|refine aG.node ?_ ?_|refine aG.bind fun _ _=>?_|split))
theorem Kr{ty:TypeId}{x:aS}{lo hi:Option Operand}:aG p σ (kP cx d ty x lo hi σ):=by unfold kP;(repeat' (first|exact aG.fail|exact aG.ret (iG.aU _ _ _)|exact aG.ret (iG.put _ _ _)|exact aG.aO (by assumption)|refine aG.bif ?_|refine aG.need ?_|refine aG.look fun _=>?_|refine aG.node ?_ ?_|refine aG.bind fun _ _=>?_|split))
theorem Uh{b aC:Nat}{i:Int}:∀{m k:Nat},aG p σ (HP d b aC σ i m k):=by
 intro m
 induction m with
 | zero=>intro k;exact aG.fail
 | succ m ih=>intro k;exact aG.node (aG.ret (iG.aU _ _ _)) ih
theorem Dy{ty:TypeId}{x:aS}{i:Int}:aG p σ (eL cx d ty x i σ):=by
 unfold eL
 split
 case h_6=>split
           ·exact aG.bif Uh
           ·exact aG.fail
 all_goals (repeat' (first|exact aG.fail|exact aG.ret (iG.aU _ _ _)|exact aG.ret (iG.put _ _ _)|exact aG.aO (by assumption)|refine aG.bif ?_|refine aG.need ?_|refine aG.look fun _=>?_|refine aG.node ?_ ?_|refine aG.bind fun _ _=>?_|split))
theorem Ks{ty:TypeId}{x:aS}{i:Int}:aG p σ (kQ cx d ty x i σ):=by unfold kQ;(repeat' (first|exact aG.fail|exact aG.ret (iG.aU _ _ _)|exact aG.ret (iG.put _ _ _)|exact aG.aO (by assumption)|refine aG.bif ?_|refine aG.need ?_|refine aG.look fun _=>?_|refine aG.node ?_ ?_|refine aG.bind fun _ _=>?_|split))
theorem Dz{s:TypeId}{x:aS}{k:Nat}:aG p σ (eM cx d s x k σ):=by unfold eM;(repeat' (first|exact aG.fail|exact aG.ret (iG.aU _ _ _)|exact aG.ret (iG.put _ _ _)|exact aG.aO (by assumption)|refine aG.bif ?_|refine aG.need ?_|refine aG.look fun _=>?_|refine aG.node ?_ ?_|refine aG.bind fun _ _=>?_|split))
theorem zq{ty:TypeId}{v:aS}(hn:∀k,d=some k→p (nb+k)):aG p σ (iR cx nb bf d ty v σ):=by
 unfold iR
 split
 ·(repeat' (first|exact aG.fail|exact aG.ret (iG.aU _ _ _)|exact aG.ret (iG.put _ _ _)|exact aG.aO (by assumption)|refine aG.bif ?_|refine aG.need ?_|refine aG.look fun _=>?_|refine aG.node ?_ ?_|refine aG.bind fun _ _=>?_|split))
 ·split
  ·rename_i k e _
   cases dJ bf k with
   | true=>exact aG.aO (hn _ rfl)
   | false=>exact aG.ret (iG.put _ _ _)
  ·exact aG.ret (iG.aU _ _ _)
 ·exact aG.ret (iG.aU _ _ _)
theorem G1{s t:TypeId}{x:aS}(hn:∀k,d=some k→p (nb+k)):aG p σ (gq cx nb d s t x σ):=by
 unfold gq
 split
 ·(repeat' (first|exact aG.fail|exact aG.ret (iG.aU _ _ _)|exact aG.ret (iG.put _ _ _)|exact aG.aO (by assumption)|refine aG.bif ?_|refine aG.need ?_|refine aG.look fun _=>?_|refine aG.node ?_ ?_|refine aG.bind fun _ _=>?_|split))
 ·(repeat' (first|exact aG.fail|exact aG.ret (iG.aU _ _ _)|exact aG.ret (iG.put _ _ _)|exact aG.aO (by assumption)|refine aG.bif ?_|refine aG.need ?_|refine aG.look fun _=>?_|refine aG.node ?_ ?_|refine aG.bind fun _ _=>?_|split))
 ·split
  ·exact aG.need (aG.aO (hn _ rfl))
  ·exact aG.fail
 ·(repeat' (first|exact aG.fail|exact aG.ret (iG.aU _ _ _)|exact aG.ret (iG.put _ _ _)|exact aG.aO (by assumption)|refine aG.bif ?_|refine aG.need ?_|refine aG.look fun _=>?_|refine aG.node ?_ ?_|refine aG.bind fun _ _=>?_|split))
 ·(repeat' (first|exact aG.fail|exact aG.ret (iG.aU _ _ _)|exact aG.ret (iG.put _ _ _)|exact aG.aO (by assumption)|refine aG.bif ?_|refine aG.need ?_|refine aG.look fun _=>?_|refine aG.node ?_ ?_|refine aG.bind fun _ _=>?_|split))
theorem RB{o:Oper}{ge:Option Nat}(hge:nJ o σ=ge)(h3:cls cx ge o≠3)(hn:cls cx ge o≠0→∀k,o.dst=some k→p (nb+k))(hp:cls cx ge o≠0→cls cx ge o≠1→∀b,σ.mem b≠none→p b):aG p σ (pI cx nb bf yX o σ):=by
 unfold pI
 split
 case h_1 x ho=>exact zq (hn (by simp[cls,ho]))
 case h_2 x ho=>exact zq (hn (by simp[cls,ho]))
 case h_3=>exact MW
 case h_4 e ho =>
  split
  ·rename_i k t hk hT
   have h0:cls cx ge o≠0:=by
    cases t<;>simp[cls,ho,hT]
   unfold tM
   split
   ·exact absurd (by simp[cls,ho,hT]) h3
   ·exact aG.aO (hn h0 _ (by assumption))
  ·rename_i hT
   split
   ·rename_i hO
    exact absurd (by simp[cls,ho,hT,hO]) h3
   ·rename_i hO
    exact aG.bif (aG.aO (hn (by simp[cls,ho,hT,hO]) _ (by assumption)))
  ·exact aG.fail
 case h_5 e x ho =>
  unfold CZ
  split
  ·exact aG.fail
  ·exact aG.fail
  ·split
   ·rename_i hO
    exact absurd (by simp[cls,ho,hO]) h3
   ·rename_i hO
    exact aG.aO (hn (by simp[cls,ho,hO]) _ (by assumption))
  ·exact aG.fail
 case h_6 t ps ho =>
  have hp':=hp (by simp[cls,ho]) (by simp[cls,ho])
  split
  ·split
   ·rename_i hb;exact aG.ret ((IA hb hp').1.trans (iG.aU _ _ _))
   ·exact aG.fail
  ·split
   ·rename_i hb;exact aG.ret ((Bt hb hp').1.trans (iG.aU _ _ _))
   ·exact aG.fail
  ·(repeat' (first|exact aG.fail|exact aG.ret (iG.aU _ _ _)|exact aG.ret (iG.put _ _ _)|exact aG.aO (by assumption)|refine aG.bif ?_|refine aG.need ?_|refine aG.look fun _=>?_|refine aG.node ?_ ?_|refine aG.bind fun _ _=>?_|split))
  ·exact aG.fail
 case h_7 t n ps ho =>
  have hp':=hp (by simp[cls,ho]) (by simp[cls,ho])
  split
  ·split
   ·rename_i k bK hparts
    exact aG.aO (hn (by simp[cls,ho]) k (Cm bK).1)
   ·refine aG.bif ?_
    split
    ·rename_i hb;exact aG.ret ((Bt hb hp').1.trans (iG.aU _ _ _))
    ·exact aG.fail
  ·unfold Aw
   split
   ·exact aG.bif (aG.aO (hn (by simp[cls,ho]) _ (by assumption)))
   ·exact aG.fail
  ·exact aG.fail
 case h_8=>exact MX
 case h_9 t a x ho =>
  have hp':=hp (by simp[cls,ho]) (by simp[cls,ho])
  split
  ·exact fun y hy=>(Kp hy hp').1
  ·exact aG.fail
 case h_10=>(repeat' (first|exact aG.fail|exact aG.ret (iG.aU _ _ _)|exact aG.ret (iG.put _ _ _)|exact aG.aO (by assumption)|refine aG.bif ?_|refine aG.need ?_|refine aG.look fun _=>?_|refine aG.node ?_ ?_|refine aG.bind fun _ _=>?_|split))
 case h_11=>(repeat' (first|exact aG.fail|exact aG.ret (iG.aU _ _ _)|exact aG.ret (iG.put _ _ _)|exact aG.aO (by assumption)|refine aG.bif ?_|refine aG.need ?_|refine aG.look fun _=>?_|refine aG.node ?_ ?_|refine aG.bind fun _ _=>?_|split))
 case h_12=>(repeat' (first|exact aG.fail|exact aG.ret (iG.aU _ _ _)|exact aG.ret (iG.put _ _ _)|exact aG.aO (by assumption)|refine aG.bif ?_|refine aG.need ?_|refine aG.look fun _=>?_|refine aG.node ?_ ?_|refine aG.bind fun _ _=>?_|split))
 case h_13 s t x ho=>exact G1 (hn (by simp[cls,ho]))
 case h_14=>(repeat' (first|exact aG.fail|exact aG.ret (iG.aU _ _ _)|exact aG.ret (iG.put _ _ _)|exact aG.aO (by assumption)|refine aG.bif ?_|refine aG.need ?_|refine aG.look fun _=>?_|refine aG.node ?_ ?_|refine aG.bind fun _ _=>?_|split))
 case h_15=>exact Kr
 case h_16=>exact Dz
 case h_17=>(repeat' (first|exact aG.fail|exact aG.ret (iG.aU _ _ _)|exact aG.ret (iG.put _ _ _)|exact aG.aO (by assumption)|refine aG.bif ?_|refine aG.need ?_|refine aG.look fun _=>?_|refine aG.node ?_ ?_|refine aG.bind fun _ _=>?_|split))
 case h_18=>split
            ·exact Dy
            ·exact aG.fail
 case h_19=>split
            ·exact Ks
            ·exact aG.fail
 case h_20 t l c ho =>
  split
  ·exact aG.need (aG.need (aG.aO (hn (by simp[cls,ho]) _ (by assumption))))
  ·exact aG.fail
 case h_21=>(repeat' (first|exact aG.fail|exact aG.ret (iG.aU _ _ _)|exact aG.ret (iG.put _ _ _)|exact aG.aO (by assumption)|refine aG.bif ?_|refine aG.need ?_|refine aG.look fun _=>?_|refine aG.node ?_ ?_|refine aG.bind fun _ _=>?_|split))
 case h_22 c ho =>
  unfold tW
  split
  ·rename_i b hb
   split
   ·(repeat' (first|exact aG.fail|exact aG.ret (iG.aU _ _ _)|exact aG.ret (iG.put _ _ _)|exact aG.aO (by assumption)|refine aG.bif ?_|refine aG.need ?_|refine aG.look fun _=>?_|refine aG.node ?_ ?_|refine aG.bind fun _ _=>?_|split))
   ·have h1:cls cx ge o≠0:=by simp[cls,ho,hb]
    have h2:cls cx ge o≠1:=by simp[cls,ho,hb]
    split
    ·exact fun y hy=>zp (hn h1) (hp h1 h2) hy
    ·exact fun y hy=>zp (hn h1) (hp h1 h2) hy
    ·exact aG.fail
   ·exact absurd (by simp[cls,ho,hb]) h3
   ·exact absurd (by simp[cls,ho,hb]) h3
   ·(repeat' (first|exact aG.fail|exact aG.ret (iG.aU _ _ _)|exact aG.ret (iG.put _ _ _)|exact aG.aO (by assumption)|refine aG.bif ?_|refine aG.need ?_|refine aG.look fun _=>?_|refine aG.node ?_ ?_|refine aG.bind fun _ _=>?_|split))
   ·(repeat' (first|exact aG.fail|exact aG.ret (iG.aU _ _ _)|exact aG.ret (iG.put _ _ _)|exact aG.aO (by assumption)|refine aG.bif ?_|refine aG.need ?_|refine aG.look fun _=>?_|refine aG.node ?_ ?_|refine aG.bind fun _ _=>?_|split))
   ·exact aG.fail
  ·rename_i f hf
   split
   ·rename_i g caps hop
    refine aG.bif ?_
    have heq:ge=some g:=by rw[←hge];simp[nJ,ho,hf,hop]
    unfold s7
    split
    ·rename_i e he
     have key:cls cx ge o=2:=by simp[cls,ho,hf,heq,uW he]
     have h1:cls cx ge o≠0:=by rw[key];simp
     have h2:cls cx ge o≠1:=by rw[key];simp
     exact fun y hy=>Kq (hn h1) (hp h1 h2) hy
    ·rename_i e A r s he
     have key:cls cx ge o=2:=by simp[cls,ho,hf,heq,uW he]
     have h1:cls cx ge o≠0:=by rw[key];simp
     have h2:cls cx ge o≠1:=by rw[key];simp
     exact fun y hy=>OT (hp h1 h2) hy
    rename_i afQ afR
    unfold vA
    split
    ·rename_i cW eg
     split
     ·split
      ·exact aG.look fun _=>aG.ret (iG.aU _ _ _)
      ·exact aG.fail
     ·rename_i hfl
      have key:cls cx ge o=2:=by
       unfold cls
       simp only[ho,hf,heq]
       split
       ·rfl
       ·rfl
       ·simp[eg,hfl]
      have h1:cls cx ge o≠0:=by rw[key];simp
      have h2:cls cx ge o≠1:=by rw[key];simp
      split
      ·rename_i hx
       exact aG.look fun _=>aG.ret ((zo hx (hp h1 h2)).1.trans (iG.aU _ _ _))
      ·exact aG.fail
    ·rename_i eg
     split
     ·rename_i s OU
      unfold Av
      split
      ·exact absurd (by simp[cls,ho,hf,heq,eg,OU]) h3
      ·exact absurd (by simp[cls,ho,hf,heq,eg,OU]) h3
      ·exact aG.fail
     ·rename_i OU
      exact absurd (by simp[cls,ho,hf,heq,eg,OU]) h3
   ·exact aG.fail
  ·rename_i r name hf
   have key:cls cx ge o=2:=by simp[cls,ho,hf]
   have h1:cls cx ge o≠0:=by rw[key];simp
   have h2:cls cx ge o≠1:=by rw[key];simp
   unfold qD
   split
   ·split
    ·rename_i hx
     exact aG.look fun _=>aG.ret ((zo hx (hp h1 h2)).1.trans (iG.aU _ _ _))
    ·exact aG.fail
   ·exact aG.fail
 case h_23 u x ho =>
  have key:cls cx ge o=2:=by simp[cls,ho]
  have h1:cls cx ge o≠0:=by rw[key];simp
  have h2:cls cx ge o≠1:=by rw[key];simp
  unfold qC
  split
  ·split
   ·split
    ·rename_i hx
     exact aG.ret ((wJ hx (hp h1 h2)).1.trans (iG.aU _ _ _))
    ·exact aG.fail
   ·exact aG.fail
  ·exact aG.fail
 case h_24=>exact aG.fail
end
end Go.Ge
namespace Go.Ge
set_option linter.unusedVariables false
set_option linter.unusedSimpArgs false
open RowKit
def Le(σ1 σ2:St):Prop:=∀b bx,σ1.mem b=some bx→σ2.mem b=some bx
structure Rel (σ1 σ2 oU oL:St):Prop where
 s1:oU.slots=σ1.slots
 s2:oL.slots=σ2.slots
 m:∀b,oL.mem b=match oU.mem b with|some x=>some x|none=>σ2.mem b
 nv:∀b,oU.mem b=none→σ1.mem b=none
section
variable {σ1 σ2 oU oL ZJ ρ2:St}
theorem Rel.refl(h:Le σ1 σ2):Rel σ1 σ2 σ1 σ2 where
 s1:=rfl
 s2:=rfl
 m:=fun b=>by
  cases hb:σ1.mem b with
  | none=>rfl
  | some x=>exact h b x hb
 nv:=fun _ h=>h
theorem Rel.le(h:Rel σ1 σ2 oU oL):Le oU oL:=fun b bx hb=>by rw[h.m,hb]
theorem Rel.trans(h:Rel σ1 σ2 oU oL)(k:Rel oU oL ZJ ρ2):Rel σ1 σ2 ZJ ρ2 where
 s1:=k.s1.trans h.s1
 s2:=k.s2.trans h.s2
 m:=fun b=>by
  rw[k.m b]
  cases hb:ZJ.mem b with
  | some x=>rfl
  | none=>simp only;rw[h.m b,k.nv b hb]
 nv:=fun b hb=>h.nv b (k.nv b hb)
theorem Rel.cr(hle:Le σ1 σ2){b:Nat}{bx:bU}:Rel σ1 σ2 (σ1.cr b bx) (σ2.cr b bx) where
 s1:=rfl
 s2:=rfl
 m:=fun c=>by
  by_cases e:c=b
  ·subst e;simp[St.cr]
  ·rw[uc,uc,aP _ e,aP _ e]
   exact(Rel.refl hle).m c
 nv:=fun c hc=>by
  by_cases e:c=b
  ·subst e;simp[St.cr] at hc
  ·rw[uc,aP _ e] at hc;exact hc
theorem AB{σ τ:St}(h:τ.slots=σ.slots)(x:Operand):cJ τ x=cJ σ x:=by
 cases x<;>simp[cJ,h]
theorem AD(h:Le σ1 σ2){e:Ty}{v:aS}{l:List e.den}(hl:fV e σ1 v=some l):fV e σ2 v=some l:=by
 unfold fV at hl⊢
 cases v with
 | whole b aC =>
   simp only at hl⊢
   cases hb:σ1.mem b with
   | none=>rw[hb] at hl;cases hl
   | some bx=>rw[hb] at hl;rw[h b bx hb];exact hl
 | part b aC lo n =>
   simp only at hl⊢
   cases hb:σ1.mem b with
   | none=>rw[hb] at hl;cases hl
   | some bx=>rw[hb] at hl;rw[h b bx hb];exact hl
 | data u y=>cases u<;>exact hl
 | _=>exact hl
theorem To(h:Le σ1 σ2):∀{t:Ty} {v:aS} {x:t.den},qx σ1 t v=some x→qx σ2 t v=some x:=by
 intro t
 induction t with
 | slice e ih=>intro v x hl;exact AD h hl
 | pair a b jE nr =>
   intro v x hl
   cases v with
   | mix p q =>
     obtain⟨y,z,h1,h2,rfl⟩:=Dg hl
     exact Lu (jE h1) (nr h2)
   | data u y=>exact hl
   | _=>cases hl
 | alt u a r jE ihr =>
   intro v x hl
   cases v with
   | rO=>exact(oQ hl).2.1 _
   | _=>exact hl
 | _=>intro v x hl;cases v<;>exact hl
theorem qW(h:Le σ1 σ2){b aC:Nat}(hl:live σ1 b aC=true):live σ2 b aC=true:=by
 unfold live at hl⊢
 cases hb:σ1.mem b with
 | none=>rw[hb] at hl;cases hl
 | some bx=>rw[hb] at hl;rw[h b bx hb];exact hl
theorem V7(h:Le σ1 σ2){v:aS}{n:Int}(hl:lenOf σ1 v=some n):lenOf σ2 v=some n:=by
 unfold lenOf at hl⊢
 cases v with
 | whole b aC =>
   simp only at hl⊢
   cases hb:σ1.mem b with
   | none=>rw[hb] at hl;cases hl
   | some bx=>rw[hb] at hl;rw[h b bx hb];exact hl
 | part b aC lo n' =>
   simp only at hl⊢
   cases hv:live σ1 b aC with
   | false=>rw[hv] at hl;cases hl
   | true=>rw[hv] at hl;rw[qW h hv];exact hl
 | data u y=>cases u<;>exact hl
 | _=>exact hl
theorem Ui(h:Le σ1 σ2){e:Ty}{v:aS}{l:List e.den}(hl:tV e σ1 v=some l):tV e σ2 v=some l:=by
 unfold tV at hl⊢
 split at hl
 ·exact hl
 ·exact AD h hl
theorem IB(h:Le σ1 σ2){b aC:Nat}{r:Ty×Int}(hl:xz σ1 b aC=some r):xz σ2 b aC=some r:=by
 unfold xz at hl⊢
 cases hb:σ1.mem b with
 | none=>rw[hb] at hl;cases hl
 | some bx=>rw[hb] at hl;rw[h b bx hb];exact hl
theorem LA(h:Le σ1 σ2){b:Nat}(hf:freeze σ1 b=some oU):∃oL,freeze σ2 b=some oL∧Rel σ1 σ2 oU oL:=by
 unfold freeze at hf⊢
 cases hb:σ1.mem b with
 | none=>rw[hb] at hf;cases hf
 | some bx =>
   rw[hb] at hf
   rw[h b bx hb]
   simp only at hf⊢
   cases hro:bx.ro with
   | true =>
     simp only[hro,cond_true,Option.some.injEq] at hf⊢
     subst hf
     exact⟨_,rfl,Rel.refl h⟩
   | false =>
     cases hlk:bx.lk with
     | true=>simp[hro,hlk] at hf
     | false =>
       simp only[hro,hlk,cond_false,Option.some.injEq] at hf⊢
       subst hf
       exact⟨_,rfl,Rel.cr h⟩
theorem RC:∀{v:aS} {σ1 σ2 oU:St},Le σ1 σ2→gb σ1 v=some oU→∃oL,gb σ2 v=some oL∧Rel σ1 σ2 oU oL:=by
 intro v
 induction v with
 | mix p q Rb OA =>
   intro σ1 σ2 oU h hf
   obtain⟨ZJ,h1,h2⟩:=uT hf
   obtain⟨ρ2,k1,k2⟩:=Rb h h1
   obtain⟨oL,k3,k4⟩:=OA k2.le h2
   exact⟨oL,by simp only[gb,k1,k3],k2.trans k4⟩
 | whole b aC=>intro σ1 σ2 oU h hf;exact LA h hf
 | part b aC lo n=>intro σ1 σ2 oU h hf;exact LA h hf
 | _=>intro σ1 σ2 oU h hf;obtain rfl:=Option.some.inj hf;exact⟨_,rfl,Rel.refl h⟩
theorem AE(h:Le σ1 σ2){t:Ty}{x:t.den}{v:aS}(hg:yU σ1 t v=some (x,oU)):∃oL,yU σ2 t v=some (x,oL)∧Rel σ1 σ2 oU oL:=by
 unfold yU at hg⊢
 cases v with
 | data u y =>
   simp only at hg⊢
   split at hg
   ·rename_i z hz
    obtain⟨rfl,rfl⟩:=Prod.mk.inj (Option.some.inj hg)
    exact⟨_,rfl,Rel.refl h⟩
   ·cases hg
 | _ =>
   simp only at hg⊢
   split at hg
   ·rename_i y ZJ hl hf
    obtain⟨rfl,rfl⟩:=Prod.mk.inj (Option.some.inj hg)
    obtain⟨oL,k1,k2⟩:=RC h hf
    rw[To h hl,k1]
    exact⟨oL,rfl,k2⟩
   ·cases hg
theorem Cp:∀{A:Ty} {x:A.den} {vs:List aS} {σ1 σ2 oU:St},Le σ1 σ2→jQ σ1 A vs=some (x,oU)→∃oL,jQ σ2 A vs=some (x,oL)∧Rel σ1 σ2 oU oL:=by
 intro A
 induction A with
 | pair t r HN ihr =>
   intro x vs σ1 σ2 oU h hl
   cases vs with
   | nil=>cases hl
   | cons v vs =>
     simp only[jQ] at hl⊢
     split at hl
     ·rename_i p ZJ hp
      obtain⟨ρ2,k1,k2⟩:=AE h hp
      split at hl
      ·rename_i q afS hq
       obtain⟨rfl,rfl⟩:=Prod.mk.inj (Option.some.inj hl)
       obtain⟨oL,k3,k4⟩:=ihr k2.le hq
       exact⟨oL,by simp only[k1,k3],k2.trans k4⟩
      ·cases hl
     ·cases hl
 | unit =>
   intro x vs σ1 σ2 oU h hl
   cases vs with
   | nil=>obtain⟨rfl,rfl⟩:=Prod.mk.inj (Option.some.inj hl);exact⟨_,rfl,Rel.refl h⟩
   | cons v vs=>cases hl
 | _=>intro x vs σ1 σ2 oU h hl;cases vs<;>cases hl
theorem Kt{t:Ty}:∀{parts:List (Nat×Operand)} {x x':t.den} {σ1 σ2 oU:St},Le σ1 σ2→(∀o∈parts.map (·.2),cJ σ1 o=cJ σ2 o)→fW σ1 t x parts=some (x',oU) →
  ∃oL,fW σ2 t x parts=some (x',oL)∧Rel σ1 σ2 oU oL:=by
 intro parts
 induction parts with
 | nil=>intro x x' σ1 σ2 oU h ho hl;obtain⟨rfl,rfl⟩:=Prod.mk.inj (Option.some.inj hl);exact⟨_,rfl,Rel.refl h⟩
 | cons p r ih =>
   obtain⟨k,o⟩:=p
   intro x x' σ1 σ2 oU h ho hl
   have h0:cJ σ1 o=cJ σ2 o:=ho o (by simp)
   simp only[fW] at hl⊢
   split at hl
   ·rename_i u hu
    split at hl
    ·rename_i y ZJ hg
     rw[h0] at hg
     obtain⟨ρ2,k1,k2⟩:=AE h hg
     split at hl
     ·rename_i z hz
      obtain⟨oL,k3,k4⟩:=ih k2.le (fun o' ho'=>by rw[AB k2.s1,AB k2.s2];exact ho o' (by simp at ho'⊢;exact .inr ho')) hl
      exact⟨oL,by simp only[k1,hz,k3],k2.trans k4⟩
     ·cases hl
    ·cases hl
   ·cases hl
theorem DA{e:Ty}:∀{parts:List (Nat×Operand)} {l l':List e.den} {σ1 σ2 oU:St},Le σ1 σ2→(∀o∈parts.map (·.2),cJ σ1 o=cJ σ2 o)→fK σ1 e l parts=some (l',oU) →
  ∃oL,fK σ2 e l parts=some (l',oL)∧Rel σ1 σ2 oU oL:=by
 intro parts
 induction parts with
 | nil=>intro x x' σ1 σ2 oU h ho hl;obtain⟨rfl,rfl⟩:=Prod.mk.inj (Option.some.inj hl);exact⟨_,rfl,Rel.refl h⟩
 | cons p r ih =>
   obtain⟨k,o⟩:=p
   intro l l' σ1 σ2 oU h ho hl
   have h0:cJ σ1 o=cJ σ2 o:=ho o (by simp)
   simp only[fK] at hl⊢
   split at hl
   ·rename_i y ZJ hg
    rw[h0] at hg
    obtain⟨ρ2,k1,k2⟩:=AE h hg
    cases hlt:Nat.blt k l.length with
    | false=>rw[hlt] at hl;cases hl
    | true =>
      rw[hlt] at hl
      obtain⟨oL,k3,k4⟩:=ih k2.le (fun o' ho'=>by rw[AB k2.s1,AB k2.s2];exact ho o' (by simp at ho'⊢;exact .inr ho')) hl
      exact⟨oL,by simp only[k1,cond_true,k3],k2.trans k4⟩
   ·cases hl
def lift(σ2:St)(d:Option Nat)(y:St):St :=
 { slots:=match d with|some d=>fun t=>bif Nat.beq t d then y.slots d else σ2.slots t|none=>σ2.slots
   mem:=fun b=>match y.mem b with|some x=>some x|none=>σ2.mem b }
theorem Uj(R:Rel σ1 σ2 oU oL)(d:Option Nat)(v:aS):lift σ2 d (oU.aU d v)=oL.aU d v:=by
 have hm:(fun b=>match oU.mem b with|some x=>some x|none=>σ2.mem b)=oL.mem:=funext fun b=>(R.m b).symm
 cases d with
 | none=>simp only[lift,St.aU,hm,←R.s2]
 | some d =>
   simp only[lift,St.aU,St.put,hm,←R.s2]
   congr 1
   funext t
   cases hb:Nat.beq t d with
   | true=>simp
   | false=>simp
def LT(σ2:St)(d:Option Nat)(T1 T2:Tree St):Prop:=∀y,T1.run=some y→T2.run=some (lift σ2 d y)
variable {d:Option Nat}
theorem LT.fail{T:Tree St}:LT σ2 d .fail T:=fun y h=>by cases h
theorem LT.ret(R:Rel σ1 σ2 oU oL){v:aS}:LT σ2 d (.ret (oU.aU d v)) (.ret (oL.aU d v)):=fun y h=>by
 obtain rfl:=Option.some.inj h
 rw[Uj R];rfl
theorem LT.RD(R:Rel σ1 σ2 oU oL){k:Nat}{v:aS}:LT σ2 (some k) (.ret (oU.put k v)) (.ret (oL.put k v)):=LT.ret (d:=some k) R
theorem LT.store(R:Rel σ1 σ2 oU oL):LT σ2 none (.ret oU) (.ret oL):=LT.ret (d:=none) (v:=.undef) R
theorem LT.bif{c:Bool}{t u:Tree St}(h:LT σ2 d t u):LT σ2 d (bif c then t else .fail) (bif c then u else .fail):=by cases c<;>first|exact LT.fail|exact h
theorem LT.RE{c c':Bool}{t u:Tree St}(hc:c=true→c'=true)(h:LT σ2 d t u):LT σ2 d (bif c then t else .fail) (bif c' then u else .fail):=by
 cases c with
 | false=>exact LT.fail
 | true=>rw[hc rfl];exact h
theorem LT.need{c:Bool}{t u:Tree St}(h:LT σ2 d t u):LT σ2 d (.need c t) (.need c u):=fun y hy=>by
 obtain⟨rfl,h2⟩:=cD hy
 exact h y h2
theorem LT.look{T:Type}{o:Option T}{k k':T→Tree St}(h:∀x,LT σ2 d (k x) (k' x)):LT σ2 d (.look o k) (.look o k'):=fun y hy=>by
 obtain⟨x,rfl,h2⟩:=b5 hy
 exact h x y h2
theorem LT.node{c:Bool}{t e t' e':Tree St}(h:LT σ2 d t t')(k:LT σ2 d e e'):LT σ2 d (.node c t e) (.node c t' e'):=fun y hy=>by
 have:=fL hy
 cases c with
 | true=>exact h y this
 | false=>exact k y this
theorem LT.bind{α:Type}{t:Tree α}{f g:α→Tree St}(h:∀x,t.run=some x→LT σ2 d (f x) (g x)):LT σ2 d (t.bind f) (t.bind g):=fun y hy=>by
 obtain⟨x,h1,h2⟩:=bind_some hy
 rw[Tree.run_bind,h1]
 exact h x h1 y h2
theorem LT.aO(hle:Le σ1 σ2){k:Nat}{b:Nat}(hb:σ1.mem b=σ2.mem b){val:aS}{tid:TypeId}{buf:Bool}{v:Nat→aS} :
  LT σ2 (some k) (σ1.aO b val tid buf fun aC σ=>.ret (σ.put k (v aC))) (σ2.aO b val tid buf fun aC σ=>.ret (σ.put k (v aC))):=by
 unfold St.aO
 rw[←hb]
 cases hq:σ1.mem b with
 | none=>exact LT.RD (Rel.cr hle)
 | some bx =>
   simp only
   cases bx.lk with
   | true=>exact LT.fail
   | false=>exact LT.RD (Rel.cr hle)
theorem LT.mem(hle:Le σ1 σ2){b:Nat}{f g:Option bU→Tree St}(h0:f none=.fail)(h:∀bx,σ1.mem b=some bx→LT σ2 d (f (some bx)) (g (some bx))):LT σ2 d (f (σ1.mem b)) (g (σ2.mem b)):=by
 cases hb:σ1.mem b with
 | none=>rw[h0];exact LT.fail
 | some bx=>rw[hle b bx hb];exact h bx hb
end
end Go.Ge
namespace Go.Ge
set_option linter.unusedVariables false
set_option linter.unusedSimpArgs false
open RowKit
section
variable {σ1 σ2:St} {d:Option Nat} {cx:Ctx} {nb:Nat} {bf:List Nat} {inl:Nat→List aS→St→Tree (aS×St)}
theorem Bu(hle:Le σ1 σ2)(hb:∀k,d=some k→σ1.mem (nb+k)=σ2.mem (nb+k)){ty:TypeId}{v:aS}:LT σ2 d (iR cx nb bf d ty v σ1) (iR cx nb bf d ty v σ2):=by
 have R:=Rel.refl hle
 unfold iR
 cases v with
 | undef=>exact LT.bif (LT.ret R)
 | nH =>
   simp only
   split
   ·rename_i k e _
    cases dJ bf k with
    | true=>exact LT.aO hle (hb k rfl)
    | false=>exact LT.RD R
   ·exact LT.ret R
 | _=>exact LT.ret R
theorem OV(hle:Le σ1 σ2){c a b:aS}:LT σ2 d (nI d c a b σ1) (nI d c a b σ2):=by
 have R:=Rel.refl hle
 unfold nI
 split
 ·split
  ·split
   ·exact LT.ret R
   ·exact LT.fail
  ·exact LT.node (LT.ret R) (LT.ret R)
 ·exact LT.fail
theorem OW(hle:Le σ1 σ2){ty:TypeId}{a:aS}:LT σ2 d (kC cx d ty a σ1) (kC cx d ty a σ2):=by
 have R:=Rel.refl hle
 unfold kC
 cases a with
 | cell u x=>exact LT.bif (LT.ret R)
 | ptr b aC p =>
   ((try dsimp only);split<;>first|exact LT.fail|(rename_i hq;rw[(hle b) _ hq];try dsimp only))
   exact LT.bif (LT.bind fun x _=>LT.bif (LT.ret R))
 | _=>exact LT.fail
theorem IC{oU oL:St}(R:Rel σ1 σ2 oU oL){b aC:Nat}{p:List FK}{fit:aS→Bool}{v:aS}:LT σ2 none (storeAt b aC p fit v oU) (storeAt b aC p fit v oL):=by
 unfold storeAt
 ((try dsimp only);split<;>first|exact LT.fail|(rename_i hq;rw[(R.le b) _ hq];try dsimp only))
 exact LT.bif (LT.bind fun x _=>LT.bif (LT.bind fun c _=>LT.store (R.trans (Rel.cr R.le))))
theorem MY(hle:Le σ1 σ2){ty:TypeId}{a v:aS}:LT σ2 none (kO cx ty a v σ1) (kO cx ty a v σ2):=by
 have R:=Rel.refl hle
 unfold kO
 cases a with
 | ptr b aC p =>
   ((try dsimp only);split<;>first|exact LT.fail|(rename_i hq;rw[(hle b) _ hq];try dsimp only))
   refine LT.bif (LT.bind fun old _=>?_)
   split
   ·refine LT.bif ?_
    split
    ·rename_i y oU hg
     obtain⟨oL,k1,k2⟩:=AE hle hg
     rw[k1]
     exact IC k2
    ·exact LT.fail
   ·exact LT.bif (IC R)
 | _=>exact LT.fail
theorem Uk{n:Int}{lo hi:Option Operand}(ho:∀x∈lo.toList++hi.toList,cJ σ1 x=cJ σ2 x):bounds σ1 n lo hi=bounds σ2 n lo hi:=by
 unfold bounds
 cases lo<;>cases hi<;>simp only<;>simp at ho<;>simp[ho]
theorem MZ(hle:Le σ1 σ2){ty:TypeId}{x:aS}{lo hi:Option Operand}(ho:∀x∈lo.toList++hi.toList,cJ σ1 x=cJ σ2 x):LT σ2 d (kP cx d ty x lo hi σ1) (kP cx d ty x lo hi σ2):=by
 have R:=Rel.refl hle
 have hbd:∀n,bounds σ1 n lo hi=bounds σ2 n lo hi:=fun n=>Uk ho
 unfold kP
 split
 ·rename_i s _
  rw[hbd]
  ((try dsimp only);split<;>first|exact LT.fail|skip)
  exact LT.need (LT.ret R)
 ·rw[hbd]
  refine LT.bif ?_
  ((try dsimp only);split<;>first|exact LT.fail|skip)
  exact LT.need (LT.ret R)
 ·rename_i u c aC l n _
  ((try dsimp only);split<;>first|exact LT.fail|(rename_i hq;rw[(hle c) _ hq];try dsimp only))
  refine LT.bif ?_
  rw[hbd]
  ((try dsimp only);split<;>first|exact LT.fail|skip)
  exact LT.need (LT.ret R)
 ·rename_i u c aC _
  ((try dsimp only);split<;>first|exact LT.fail|(rename_i hq;rw[(hle c) _ hq];try dsimp only))
  refine LT.bif ?_
  split
  ·refine LT.bif ?_
   split
   ·exact LT.ret R
   ·rw[hbd]
    ((try dsimp only);split<;>first|exact LT.fail|skip)
    exact LT.need (LT.ret R)
  ·exact LT.fail
 ·rw[hbd]
  refine LT.RE (fun h=>?_) ?_
  ·simp only[Bool.and_eq_true] at h⊢
   exact⟨qW hle h.1,h.2⟩
  ·((try dsimp only);split<;>first|exact LT.fail|skip)
   exact LT.need (LT.ret R)
 ·rename_i m u c aC _
  ((try dsimp only);split<;>first|exact LT.fail|(rename_i hq;rw[(hle c) _ hq];try dsimp only))
  refine LT.bif ?_
  split
  ·rw[hbd]
   refine LT.bif ?_
   ((try dsimp only);split<;>first|exact LT.fail|skip)
   exact LT.need (LT.ret R)
  ·exact LT.fail
 ·exact LT.fail
theorem V8(hle:Le σ1 σ2){b aC:Nat}{i:Int}:∀{m k:Nat},LT σ2 d (HP d b aC σ1 i m k) (HP d b aC σ2 i m k):=by
 intro m
 induction m with
 | zero=>intro k;exact LT.fail
 | succ m ih=>intro k;exact LT.node (LT.ret (Rel.refl hle)) ih
theorem E4(hle:Le σ1 σ2){ty:TypeId}{x:aS}{i:Int}:LT σ2 d (eL cx d ty x i σ1) (eL cx d ty x i σ2):=by
 have R:=Rel.refl hle
 unfold eL
 split
 ·exact LT.bif (LT.look fun _=>LT.ret R)
 ·exact LT.bif (LT.look fun _=>LT.ret R)
 ·((try dsimp only);split<;>first|exact LT.fail|(rename_i hq;rw[((fun r (hr:_=some r)=>IB hle hr)) _ hq];try dsimp only))
  exact LT.bif (LT.need (LT.ret R))
 ·((try dsimp only);split<;>first|exact LT.fail|(rename_i hq;rw[((fun r (hr:_=some r)=>IB hle hr)) _ hq];try dsimp only))
  exact LT.bif (LT.need (LT.ret R))
 ·exact LT.RE (fun h=>qW hle h) (LT.need (LT.ret R))
 ·split
  ·refine LT.RE (fun h=>?_) (V8 hle)
   simp only[Bool.and_eq_true] at h⊢
   exact⟨h.1,qW hle h.2⟩
  ·exact LT.fail
 ·exact LT.fail
theorem M0(hle:Le σ1 σ2){ty:TypeId}{x:aS}{i:Int}:LT σ2 d (kQ cx d ty x i σ1) (kQ cx d ty x i σ2):=by
 have R:=Rel.refl hle
 unfold kQ
 split
 ·exact LT.look fun _=>LT.ret R
 ·exact LT.bif (LT.look fun _=>LT.ret R)
 ·exact LT.fail
theorem E5(hle:Le σ1 σ2){s:TypeId}{x:aS}{k:Nat}:LT σ2 d (eM cx d s x k σ1) (eM cx d s x k σ2):=by
 have R:=Rel.refl hle
 unfold eM
 split
 ·refine LT.bif ?_
  split
  ·exact LT.ret R
  ·exact LT.fail
 ·refine LT.RE (fun h=>qW hle h) ?_
  split
  ·split
   ·exact LT.ret R
   ·exact LT.fail
  ·split
   ·split
    ·exact LT.ret R
    ·exact LT.fail
   ·exact LT.fail
 ·exact LT.fail
theorem ID(hle:Le σ1 σ2)(hb:∀k,d=some k→σ1.mem (nb+k)=σ2.mem (nb+k)){s t:TypeId}{x:aS}:LT σ2 d (gq cx nb d s t x σ1) (gq cx nb d s t x σ2):=by
 have R:=Rel.refl hle
 unfold gq
 split
 ·exact LT.ret R
 ·exact LT.ret R
 ·split
  ·exact LT.need (LT.aO hle (hb _ rfl))
  ·exact LT.fail
 ·((try dsimp only);split<;>first|exact LT.fail|(rename_i hq;rw[((fun r (hr:_=some r)=>AD hle hr)) _ hq];try dsimp only))
  exact LT.ret R
 ·exact LT.fail
theorem Bw(hle:Le σ1 σ2)(hb:∀k,d=some k→σ1.mem (nb+k)=σ2.mem (nb+k)){ty:TypeId}{s x:aS}:LT σ2 d (gJ cx nb d ty s x σ1) (gJ cx nb d ty s x σ2):=by
 have R:=Rel.refl hle
 unfold gJ
 split
 ·rename_i k e _
  ((try dsimp only);split<;>first|exact LT.fail|(rename_i hq;rw[((fun r (hr:_=some r)=>Ui hle hr)) _ hq];try dsimp only))
  split
  ·exact LT.need (LT.aO hle (hb _ rfl))
  ·rename_i b aC
   cases hq:σ1.mem b with
   | none=>exact LT.fail
   | some bx =>
     rw[hle b bx hq]
     cases hl:fV e σ1 (.whole b aC) with
     | none=>exact LT.fail
     | some l =>
       rw[AD hle hl]
       simp only
       cases (bx.lk||!ZW cx ty bx.tid) with
       | true=>exact LT.fail
       | false=>exact LT.need (LT.RD (Rel.cr hle))
  ·exact LT.fail
 ·exact LT.fail
theorem Ul(hle:Le σ1 σ2){f:Nat}{args:List aS}(ZE:find cx.cW f≠none):LT σ2 d (vA cx yX d f args σ1) (vA cx inl d f args σ2):=by
 have R:=Rel.refl hle
 unfold vA
 split
 ·split
  ·have key:∀{A:Ty} {vs:List aS} {x:A.den},gV σ1 A vs=some x→gV σ2 A vs=some x:=by
    intro A
    induction A with
    | pair t r HN ihr =>
      intro vs x hl
      cases vs with
      | nil=>cases hl
      | cons v vs =>
        simp only[gV] at hl⊢
        split at hl
        ·rename_i p q hp hq
         rw[To hle hp,ihr hq]
         exact hl
        ·cases hl
    | unit=>intro vs x hl;cases vs<;>exact hl
    | _=>intro vs x hl;cases vs<;>cases hl
   ((try dsimp only);split<;>first|exact LT.fail|(rename_i hq;rw[((fun r (hr:_=some r)=>key hr)) _ hq];try dsimp only))
   exact LT.look fun _=>LT.ret R
  ·split
   ·rename_i x oU hg
    obtain⟨oL,k1,k2⟩:=Cp hle hg
    rw[k1]
    exact LT.look fun _=>LT.ret k2
   ·exact LT.fail
 ·rename_i hn;exact absurd hn ZE
theorem LT.YC{oU oL:St}(R:Rel σ1 σ2 oU oL){k:Nat}{b:Nat}(hb:σ1.mem b=σ2.mem b){val:aS}{tid:TypeId}{buf:Bool}{v:Nat→aS} :
  LT σ2 (some k) (oU.aO b val tid buf fun aC σ=>.ret (σ.put k (v aC))) (oL.aO b val tid buf fun aC σ=>.ret (σ.put k (v aC))):=by
 have hq:oU.mem b=oL.mem b:=by
  rw[R.m b]
  cases h:oU.mem b with
  | some x=>rfl
  | none=>simp only;rw[←hb,R.nv b h]
 unfold St.aO
 rw[←hq]
 cases oU.mem b with
 | none=>exact LT.RD (R.trans (Rel.cr R.le))
 | some bx =>
   simp only
   cases bx.lk with
   | true=>exact LT.fail
   | false=>exact LT.RD (R.trans (Rel.cr R.le))
theorem M1(hle:Le σ1 σ2)(hb:∀k,d=some k→σ1.mem (nb+k)=σ2.mem (nb+k)){e:Ty}{args:List aS}:LT σ2 d (kR nb e d args σ1) (kR nb e d args σ2):=by
 unfold kR
 split
 ·split
  ·rename_i l oU hg
   obtain⟨oL,k1,k2⟩:=AE hle hg
   rw[k1]
   exact LT.bif (LT.need (LT.YC k2 (hb _ rfl)))
  ·exact LT.fail
 ·exact LT.fail
theorem Um{oU oL:St}(h:Le oU oL){e:Ty}{v:aS}{r:Nat×Nat×bU×List e.den}(hl:xB e oU v=some r):xB e oL v=some r:=by
 cases v with
 | part b aC lo n =>
   simp only[xB] at hl⊢
   cases hb:oU.mem b with
   | none=>rw[hb] at hl;cases hl
   | some bx=>rw[hb] at hl;rw[h b bx hb];exact hl
 | whole b aC =>
   simp only[xB] at hl⊢
   cases hb:oU.mem b with
   | none=>rw[hb] at hl;cases hl
   | some bx=>rw[hb] at hl;rw[h b bx hb];exact hl
 | _=>cases hl
theorem RF(hle:Le σ1 σ2){e A:Ty}{res:Bool}{spec:List e.den→A.den→Option (List e.den)}{args:List aS}:LT σ2 d (qR e A res spec d args σ1) (qR e A res spec d args σ2):=by
 unfold qR
 split
 ·split
  ·rename_i x oU hg
   obtain⟨oL,k1,k2⟩:=Cp hle hg
   rw[k1]
   simp only
   split
   ·rename_i b aC bx l X7
    rw[Um k2.le X7]
    simp only
    refine LT.look fun l'=>?_
    cases res with
    | true =>
      cases d with
      | none=>exact LT.fail
      | some k=>exact LT.RD (k2.trans (Rel.cr k2.le))
    | false=>cases d<;>exact LT.bif (LT.ret (k2.trans (Rel.cr k2.le)))
   ·exact LT.fail
  ·exact LT.fail
 ·exact LT.fail
theorem RG(hle:Le σ1 σ2)(hb:∀k,d=some k→σ1.mem (nb+k)=σ2.mem (nb+k)){f:Nat}{args:List aS}(ZE:vz cx bf d f=none→find cx.cW f≠none∨(find cx.cW f=none∧∃e,find cx.QX f=some (.clone e)))(hcs:∀s,vz cx bf d f=some s→(∃e,s=.clone e)∨∃e A r q,s=.own e A r q) :
  LT σ2 d (s7 cx nb bf yX d f args σ1) (s7 cx nb bf inl d f args σ2):=by
 unfold s7
 split
 ·exact M1 hle hb
 ·exact RF hle
 ·rename_i h1 h2
  have hn:vz cx bf d f=none:=by
   cases hq:vz cx bf d f with
   | none=>rfl
   | some s =>
     rcases hcs s hq with ⟨e,rfl⟩|⟨e,A,r,q,rfl⟩
     ·exact absurd hq (h1 e)
     ·exact absurd hq (h2 e A r q)
  rcases ZE hn with hc|⟨hc,e,he⟩
  ·exact Ul hle hc
  ·unfold vA
   rw[hc,he]
   exact LT.fail
theorem OX{s:Vz}{f:Nat}(h:vz cx bf d f=some s):(∃e,s=.clone e)∨∃e A r q,s=.own e A r q:=by
 unfold vz at h
 split at h
 ·rename_i e he
  split at h
  ·obtain rfl:=Option.some.inj h;exact .inl ⟨e,rfl⟩
  ·cases h
 ·obtain rfl:=Option.some.inj h;exact .inr ⟨_,_,_,_,rfl⟩
 ·cases h
theorem Un:∀{ps:List (Nat×Operand)} {k:Nat},(∀x∈ps.map (·.2),cJ σ1 x=cJ σ2 x)→yW σ1 k ps=yW σ2 k ps:=by
 intro ps
 induction ps with
 | nil=>intro k _;rfl
 | cons p r ih =>
   obtain⟨j,x⟩:=p
   intro k h
   simp only[yW]
   rw[h x (by simp),ih (k:=k+1) fun y hy=>h y (by simp at hy⊢;exact .inr hy)]
theorem OY{fs:List nw}:∀{ps:List (Nat×Operand)} {v:aS},(∀x∈ps.map (·.2),cJ σ1 x=cJ σ2 x)→lP σ1 fs v ps=lP σ2 fs v ps:=by
 intro ps
 induction ps with
 | nil=>intro v _;rfl
 | cons p r ih =>
   obtain⟨k,x⟩:=p
   intro v h
   simp only[lP]
   rw[h x (by simp)]
   have hr:∀u,lP σ1 fs u r=lP σ2 fs u r:=fun u=>ih (v:=u) fun y hy=>h y (by simp at hy⊢;exact .inr hy)
   simp only[hr]
theorem Uo(hle:Le σ1 σ2){o:Oper}{ge:Option Nat}(hge:nJ o σ2=ge)(h3:cls cx ge o≠3)(hop:∀x∈eO o.op,cJ σ1 x=cJ σ2 x)(hb:∀k,o.dst=some k→σ1.mem (nb+k)=σ2.mem (nb+k)) :
  LT σ2 o.dst (pI cx nb bf yX o σ1) (pI cx nb bf inl o σ2):=by
 have R:=Rel.refl hle
 unfold pI
 cases ho:o.op with
 | move x=>simp only[ho,eO] at hop⊢;rw[hop x (by simp)];exact Bu hle hb
 | assign x=>simp only[ho,eO] at hop⊢;rw[hop x (by simp)];exact Bu hle hb
 | pick c a b=>simp only[ho,eO] at hop⊢;rw[hop c (by simp),hop a (by simp),hop b (by simp)];exact OV hle
 | alloc e =>
   simp only
   split
   ·rename_i k t hk hT
    rw[hk]
    unfold tM
    split
    ·exact absurd (by simp[cls,ho,hT]) h3
    ·exact LT.aO hle (hb k hk)
   ·rename_i k hk hT
    rw[hk]
    split
    ·rename_i hO
     exact absurd (by simp[cls,ho,hT,hO]) h3
    ·exact LT.bif (LT.aO hle (hb k hk))
   ·exact LT.fail
 | box e x =>
   simp only[ho,eO] at hop⊢
   rw[hop x (by simp)]
   cases hk:o.dst with
   | none=>exact LT.fail
   | some k =>
     have hO:find cx.sY e=none:=by
      cases hO:find cx.sY e with
      | none=>rfl
      | some fs=>exact absurd (by simp[cls,ho,hO]) h3
     cases cJ σ2 x<;>simp only[CZ,hO]<;>first|exact LT.fail|exact LT.aO hle (hb k hk)
 | build t ps =>
   simp only[ho,eO] at hop⊢
   split
   ·split
    ·rename_i hg
     obtain⟨oL,k1,k2⟩:=Kt hle hop hg
     rw[k1]
     exact LT.ret k2
    ·exact LT.fail
   ·split
    ·rename_i hg
     obtain⟨oL,k1,k2⟩:=DA hle hop hg
     rw[k1]
     exact LT.ret k2
    ·exact LT.fail
   ·split
    ·split
     ·rw[OY hop]
      split
      ·exact LT.ret R
      ·exact LT.ret R
      ·exact LT.fail
     ·exact LT.fail
    ·exact LT.fail
   ·exact LT.fail
 | buildSlice t n ps =>
   simp only[ho,eO] at hop⊢
   split
   ·split
    ·rename_i k bK hparts
     have hk:=(Cm bK).1
     rw[hk]
     exact LT.aO hle (hb k hk)
    ·refine LT.bif ?_
     split
     ·rename_i hg
      obtain⟨oL,k1,k2⟩:=DA hle hop hg
      rw[k1]
      exact LT.ret k2
     ·exact LT.fail
   ·unfold Aw
    rw[Un hop]
    split
    ·rename_i k e v hk _ _
     rw[hk]
     exact LT.bif (LT.aO hle (hb _ hk))
    ·exact LT.fail
   ·exact LT.fail
 | load t a=>simp only[ho,eO] at hop⊢;rw[hop a (by simp)];exact OW hle
 | store t a x =>
   simp only[ho,eO] at hop⊢
   rw[hop a (by simp),hop x (by simp)]
   cases hk:o.dst with
   | none=>exact MY hle
   | some k=>exact LT.fail
 | nilCheck x =>
   simp only[ho,eO] at hop⊢
   rw[hop x (by simp)]
   cases cJ σ2 x with
   | ptr b aC p=>exact LT.RE (fun h=>qW hle h) (LT.ret R)
   | cell t x=>exact LT.ret R
   | fn f c=>exact LT.ret R
   | _=>exact LT.fail
 | binOp op xt x y yt =>
   simp only[ho,eO] at hop⊢
   rw[hop x (by simp),hop y (by simp)]
   intro z hz
   obtain⟨v,h1,h2⟩:=bind_some hz
   have hb:(VI σ2 (find cx.T xt) (dJ cx.AX xt) op (cJ σ2 x) (cJ σ2 y)).run=some v:=by
    unfold VI at h1⊢
    split at h1
    ·obtain⟨hc,h3⟩:=aD h1
     simp only[Bool.and_eq_true] at hc
     rw[qW hle hc.1,hc.2]
     exact h3
    ·obtain⟨hc,h3⟩:=aD h1
     simp only[Bool.and_eq_true] at hc
     rw[qW hle hc.1,hc.2]
     exact h3
    ·exact h1
   rw[Tree.run_bind,hb]
   exact LT.ret R z h2
 | unOp op t x=>simp only[ho,eO] at hop⊢;rw[hop x (by simp)];exact LT.bind fun _ _=>LT.ret R
 | convert s t x=>simp only[ho,eO] at hop⊢;rw[hop x (by simp)];exact ID hle hb
 | makeFunc fn first caps =>
   simp only[ho,eO] at hop⊢
   cases fn with
   | func f =>
     simp only
     have:caps.toList.map (cJ σ1)=caps.toList.map (cJ σ2):=List.map_congr_left fun x hx=>hop x (List.mem_append_right _ hx)
     rw[this]
     split
     ·exact LT.ret R
     ·exact LT.fail
   | _=>exact LT.fail
 | slice t x lo hi m =>
   simp only[ho,eO] at hop⊢
   cases m with
   | some m=>exact LT.fail
   | none =>
     simp only
     rw[hop x (by simp)]
     exact MZ hle fun y hy=>hop y (List.mem_cons_of_mem _ hy)
 | fieldAddr s x k=>simp only[ho,eO] at hop⊢;rw[hop x (by simp)];exact E5 hle
 | field xt x k =>
   simp only[ho,eO] at hop⊢
   rw[hop x (by simp)]
   split
   ·refine LT.bif ?_
    split
    ·exact LT.ret R
    ·exact LT.fail
   ·exact LT.fail
 | indexAddr t x i =>
   simp only[ho,eO] at hop⊢
   rw[hop x (by simp),hop i (by simp)]
   split
   ·exact E4 hle
   ·exact LT.fail
 | index t x i =>
   simp only[ho,eO] at hop⊢
   rw[hop x (by simp),hop i (by simp)]
   split
   ·exact M0 hle
   ·exact LT.fail
 | makeSlice t l c =>
   simp only[ho,eO] at hop⊢
   rw[hop l (by simp),hop c (by simp)]
   cases hk:o.dst with
   | none=>exact LT.fail
   | some k =>
     split
     ·rename_i k' _ _ _ _ _ hk' _ _ _
      obtain rfl:=Option.some.inj hk'
      exact LT.need (LT.need (LT.aO hle (hb k hk)))
     ·exact LT.fail
 | extract t k =>
   simp only[ho,eO] at hop⊢
   rw[hop t (by simp)]
   split
   ·((try dsimp only);split<;>first|exact LT.fail|skip)
    exact LT.ret R
   ·exact LT.fail
 | call c =>
   simp only[ho,eO] at hop⊢
   have hargs:c.args.toList.map (cJ σ1)=c.args.toList.map (cJ σ2):=List.map_congr_left fun x hx=>hop x (List.mem_append_right _ hx)
   unfold tW
   rw[hargs]
   cases hc:c.callee with
   | builtin b =>
     simp only
     split
     ·rename_i x t _ _
      cases Th (find cx.T t) x with
      | true =>
        simp only[cond_true]
        ((try dsimp only);split<;>first|exact LT.fail|(rename_i hq;rw[((fun r (hr:_=some r)=>V7 hle hr)) _ hq];try dsimp only))
        exact LT.ret R
      | false =>
        simp only[cond_false]
        split
        ·refine LT.RE (fun h=>?_) (LT.ret R)
         simp only[Bool.and_eq_true] at h⊢
         exact⟨qW hle h.1,h.2⟩
        ·exact LT.fail
     ·split
      ·exact Bw hle hb
      ·exact Bw hle hb
      ·exact LT.fail
     ·exact absurd (by simp[cls,ho,hc]) h3
     ·exact absurd (by simp[cls,ho,hc]) h3
     ·exact LT.bind fun _ _=>LT.ret R
     ·exact LT.bind fun _ _=>LT.ret R
     ·exact LT.fail
   | value f =>
     simp only
     rw[hop f (by rw[hc];simp)]
     split
     ·rename_i g caps hop
      have V5:(caps.all fun b=>live σ1 b.1 b.2)=true→(caps.all fun b=>live σ2 b.1 b.2)=true:=fun h=>by
       rw[List.all_eq_true] at h⊢
       exact fun b hm=>qW hle (h b hm)
      refine LT.RE V5 (RG hle hb (fun hq=>?_) fun s hs=>OX hs)
      have heq:ge=some g:=by rw[←hge];simp[nJ,ho,hc,hop]
      cases eg:find cx.cW g with
      | some c=>exact .inl (by simp)
      | none =>
        refine .inr ⟨rfl,?_⟩
        cases OU:find cx.QX g with
        | none=>exact absurd (by simp[cls,ho,hc,heq,eg,OU]) h3
        | some s =>
          cases s with
          | clone e=>exact⟨e,rfl⟩
          | own e A r q=>simp[vz,OU] at hq
          | _=>exact absurd (by simp[cls,ho,hc,heq,eg,OU]) h3
     ·exact LT.fail
   | invoke r m =>
     simp only
     rw[hop r (by rw[hc];simp)]
     unfold qD
     split
     ·split
      ·rename_i hg
       obtain⟨oL,k1,k2⟩:=Cp hle hg
       rw[k1]
       exact LT.look fun _=>LT.ret k2
      ·exact LT.fail
     ·exact LT.fail
 | makeInterface u x =>
   simp only[ho,eO] at hop⊢
   rw[hop x (by simp)]
   unfold qC
   split
   ·split
    ·split
     ·rename_i hg
      obtain⟨oL,k1,k2⟩:=AE hle hg
      rw[k1]
      exact LT.ret k2
     ·exact LT.fail
    ·exact LT.fail
   ·exact LT.fail
 | _=>exact LT.fail
end
end Go.Ge
