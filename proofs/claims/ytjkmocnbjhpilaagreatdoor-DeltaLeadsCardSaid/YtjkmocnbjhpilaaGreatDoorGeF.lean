/- A ghost interpreter of the model's code, and that it tells the truth: part 6. It says of a function of plain data what a call of it comes to. -/
import Derived.Test.YtjkmocnbjhpilaaGreatDoorGeE
import Derived.Tactics
namespace Go.Ge
set_option linter.unusedVariables false
set_option linter.unusedSimpArgs false
open RowKit
def aq(σ:St)(T:Tree St):Prop:=∀y,T.run=some y→aY σ y
theorem aq.fail{σ:St}:aq σ .fail:=fun y h=>by cases h
theorem aq.ret{σ σ':St}(h:aY σ σ'):aq σ (.ret σ'):=fun y hy=>by obtain rfl:=Option.some.inj hy;exact h
theorem aq.bif{σ:St}{c:Bool}{t:Tree St}(h:aq σ t):aq σ (bif c then t else .fail):=fun y hy=>h y (aA hy).2
theorem aq.need{σ:St}{c:Bool}{t:Tree St}(h:aq σ t):aq σ (.need c t):=fun y hy=>h y (b9 hy).2
theorem aq.look{σ:St}{T:Type}{o:Option T}{k:T→Tree St}(h:∀x,aq σ (k x)):aq σ (.look o k):=fun y hy=>by obtain⟨x,_,h2⟩:=bR hy;exact h x y h2
theorem aq.node{σ:St}{c:Bool}{t e:Tree St}(h:aq σ t)(k:aq σ e):aq σ (.node c t e):=fun y hy=>by
 have:=eU hy
 cases c with
 | true=>exact h y this
 | false=>exact k y this
theorem aq.bind{σ:St}{α:Type}{t:Tree α}{f:α→Tree St}(h:∀x,t.run=some x→aq σ (f x)):aq σ (t.bind f):=fun y hy=>by obtain⟨x,h1,h2⟩:=bind_some hy;exact h x h1 y h2
theorem aq.aL{σ:St}{b:Nat}{val:aQ}{tid:TypeId}{buf:Bool}{d:Nat}{v:Nat→aQ}:aq σ (σ.aL b val tid buf fun ax σ=>.ret (σ.put d (v ax))):=fun y hy=>by
 obtain⟨ax,k1,k2⟩:=j8 hy
 obtain rfl:=Option.some.inj k2
 exact k1.trans (aY.put _ _ _)
section
variable {cx:Ctx} {nb:Nat} {bf:List Nat} {inl:Nat→List aQ→St→Tree (aQ×St)} {d:Option Nat} {σ:St}
theorem vC{ty:TypeId}{v:aQ}:aq σ (gS cx nb bf d ty v σ):=by
 unfold gS
 split
 ·(repeat' (first|exact aq.fail|exact aq.ret (aY.aR _ _ _)|exact aq.ret (aY.put _ _ _)|exact aq.aL|refine aq.bif ?_|refine aq.need ?_|refine aq.look fun _=>?_|refine aq.node ?_ ?_|refine aq.bind fun _ _=>?_|split))
 ·split
  ·rename_i k e _
   cases cT bf k with
   | true=>exact aq.aL
   | false=>exact aq.ret (aY.put _ _ _)
  ·exact aq.ret (aY.aR _ _ _)
 ·exact aq.ret (aY.aR _ _ _)
theorem Gy{c a b:aQ}:aq σ (lA d c a b σ):=by unfold lA;(repeat' (first|exact aq.fail|exact aq.ret (aY.aR _ _ _)|exact aq.ret (aY.put _ _ _)|exact aq.aL|refine aq.bif ?_|refine aq.need ?_|refine aq.look fun _=>?_|refine aq.node ?_ ?_|refine aq.bind fun _ _=>?_|split))
theorem Gz{ty:TypeId}{a:aQ}:aq σ (jk cx d ty a σ):=by unfold jk;(repeat' (first|exact aq.fail|exact aq.ret (aY.aR _ _ _)|exact aq.ret (aY.put _ _ _)|exact aq.aL|refine aq.bif ?_|refine aq.need ?_|refine aq.look fun _=>?_|refine aq.node ?_ ?_|refine aq.bind fun _ _=>?_|split))
theorem ED{ty:TypeId}{x:aQ}{lo hi:Option Operand}:aq σ (jA cx d ty x lo hi σ):=by unfold jA;(repeat' (first|exact aq.fail|exact aq.ret (aY.aR _ _ _)|exact aq.ret (aY.put _ _ _)|exact aq.aL|refine aq.bif ?_|refine aq.need ?_|refine aq.look fun _=>?_|refine aq.node ?_ ?_|refine aq.bind fun _ _=>?_|split))
theorem MD{b ax:Nat}{i:Int}:∀{m k:Nat},aq σ (D5 d b ax σ i m k):=by
 intro m
 induction m with
 | zero=>intro k;exact aq.fail
 | succ m ih=>intro k;exact aq.node (aq.ret (aY.aR _ _ _)) ih
theorem zi{ty:TypeId}{x:aQ}{i:Int}:aq σ (dU cx d ty x i σ):=by
 unfold dU
 split
 case h_6=>split
           ·exact aq.bif MD
           ·exact aq.fail
 all_goals (repeat' (first|exact aq.fail|exact aq.ret (aY.aR _ _ _)|exact aq.ret (aY.put _ _ _)|exact aq.aL|refine aq.bif ?_|refine aq.need ?_|refine aq.look fun _=>?_|refine aq.node ?_ ?_|refine aq.bind fun _ _=>?_|split))
theorem EE{ty:TypeId}{x:aQ}{i:Int}:aq σ (jB cx d ty x i σ):=by unfold jB;(repeat' (first|exact aq.fail|exact aq.ret (aY.aR _ _ _)|exact aq.ret (aY.put _ _ _)|exact aq.aL|refine aq.bif ?_|refine aq.need ?_|refine aq.look fun _=>?_|refine aq.node ?_ ?_|refine aq.bind fun _ _=>?_|split))
theorem zj{s:TypeId}{x:aQ}{k:Nat}:aq σ (dV cx d s x k σ):=by unfold dV;(repeat' (first|exact aq.fail|exact aq.ret (aY.aR _ _ _)|exact aq.ret (aY.put _ _ _)|exact aq.aL|refine aq.bif ?_|refine aq.need ?_|refine aq.look fun _=>?_|refine aq.node ?_ ?_|refine aq.bind fun _ _=>?_|split))
theorem BK{s t:TypeId}{x:aQ}:aq σ (fI cx nb d s t x σ):=by unfold fI;(repeat' (first|exact aq.fail|exact aq.ret (aY.aR _ _ _)|exact aq.ret (aY.put _ _ _)|exact aq.aL|refine aq.bif ?_|refine aq.need ?_|refine aq.look fun _=>?_|refine aq.node ?_ ?_|refine aq.bind fun _ _=>?_|split))
theorem yw{ty:TypeId}{t x:aQ}:aq σ (tQ cx d ty t x σ):=by
 unfold tQ
 split
 ·split
  ·exact aq.fail
  ·exact aq.bind fun r hr=>aq.ret ((Cw hr).trans (aY.aR _ _ _))
 ·exact aq.fail
theorem EF{ty:TypeId}{t:aQ}:aq σ (tT cx ty t σ):=by
 unfold tT
 split
 ·exact aq.bind fun r hr=>aq.ret (Cw hr)
 ·exact aq.fail
theorem Ds{name:String}{args:List aQ}:aq σ (oC cx d name args σ):=by
 intro σ' hr
 unfold oC at hr
 split at hr
 ·split at hr
  ·rename_i hx
   obtain⟨y,hy,hr2⟩:=bR hr
   obtain rfl:=Option.some.inj hr2
   exact(nw hx).trans (aY.aR _ _ _)
  ·exact absurd hr (by intro k;cases k)
 ·exact absurd hr (by intro k;cases k)
theorem EG{ty u:TypeId}{x:aQ}:aq σ (oB cx d ty u x σ):=by
 intro σ' hr
 unfold oB at hr
 split at hr
 ·split at hr
  ·split at hr
   ·rename_i hx
    obtain rfl:=Option.some.inj hr
    exact(mD hx).trans (aY.aR _ _ _)
   ·exact absurd hr (by intro k;cases k)
  ·exact absurd hr (by intro k;cases k)
 ·exact absurd hr (by intro k;cases k)
theorem GA(jK:∀f vals σ v σ',(inl f vals σ).run=some (v,σ')→aY σ σ'){ty:TypeId}{c:Call}:aq σ (rJ cx nb bf inl d ty c σ):=by
 unfold rJ
 split
 ·split
  ·(repeat' (first|exact aq.fail|exact aq.ret (aY.aR _ _ _)|exact aq.ret (aY.put _ _ _)|exact aq.aL|refine aq.bif ?_|refine aq.need ?_|refine aq.look fun _=>?_|refine aq.node ?_ ?_|refine aq.bind fun _ _=>?_|split))
  ·split
   ·exact fun y hy=>vB hy
   ·exact fun y hy=>vB hy
   ·exact aq.fail
  ·split
   ·exact yw
   ·exact yw
   ·exact aq.fail
  ·split
   ·exact EF
   ·exact aq.fail
  ·(repeat' (first|exact aq.fail|exact aq.ret (aY.aR _ _ _)|exact aq.ret (aY.put _ _ _)|exact aq.aL|refine aq.bif ?_|refine aq.need ?_|refine aq.look fun _=>?_|refine aq.node ?_ ?_|refine aq.bind fun _ _=>?_|split))
  ·(repeat' (first|exact aq.fail|exact aq.ret (aY.aR _ _ _)|exact aq.ret (aY.put _ _ _)|exact aq.aL|refine aq.bif ?_|refine aq.need ?_|refine aq.look fun _=>?_|refine aq.node ?_ ?_|refine aq.bind fun _ _=>?_|split))
  ·exact aq.fail
 ·split
  ·exact aq.bif fun y hy=>IU jK hy
  ·exact aq.fail
 ·exact Ds
theorem wH(jK:∀f vals σ v σ',(inl f vals σ).run=some (v,σ')→aY σ σ'){o:Oper}:aq σ (mW cx nb bf inl o σ):=by
 unfold mW
 split
 case h_1=>exact vC
 case h_2=>exact vC
 case h_3=>exact Gy
 case h_4 =>
  split
  ·unfold rq
   split
   ·refine aq.bif fun y hy=>?_
    obtain⟨ax,k1,k2⟩:=j8 hy
    exact k1.trans (aq.aL y k2)
   ·exact aq.aL
  ·split
   ·refine aq.bind fun r hr=>?_
    exact fun y hy=>(MC hr).trans (aq.aL y hy)
   ·exact aq.bif aq.aL
  ·exact aq.fail
 case h_5 =>
  unfold zQ
  split
  ·exact aq.fail
  ·exact aq.fail
  ·split
   ·refine aq.bind fun r hr=>?_
    exact fun y hy=>(IP hr).trans (aq.aL y hy)
   ·exact aq.aL
  ·exact aq.fail
 case h_6 =>
  split
  ·split
   ·rename_i hb;exact aq.ret ((Dr hb).trans (aY.aR _ _ _))
   ·exact aq.fail
  ·split
   ·rename_i hb;exact aq.ret ((wG hb).trans (aY.aR _ _ _))
   ·exact aq.fail
  ·(repeat' (first|exact aq.fail|exact aq.ret (aY.aR _ _ _)|exact aq.ret (aY.put _ _ _)|exact aq.aL|refine aq.bif ?_|refine aq.need ?_|refine aq.look fun _=>?_|refine aq.node ?_ ?_|refine aq.bind fun _ _=>?_|split))
  ·exact aq.fail
 case h_7 =>
  split
  ·split
   ·exact aq.aL
   ·refine aq.bif ?_
    split
    ·rename_i hb;exact aq.ret ((wG hb).trans (aY.aR _ _ _))
    ·exact aq.fail
  ·unfold xI;(repeat' (first|exact aq.fail|exact aq.ret (aY.aR _ _ _)|exact aq.ret (aY.put _ _ _)|exact aq.aL|refine aq.bif ?_|refine aq.need ?_|refine aq.look fun _=>?_|refine aq.node ?_ ?_|refine aq.bind fun _ _=>?_|split))
  ·exact aq.fail
 case h_8=>exact Gz
 case h_9=>split
           ·exact fun y hy=>EB hy
           ·exact aq.fail
 case h_10=>(repeat' (first|exact aq.fail|exact aq.ret (aY.aR _ _ _)|exact aq.ret (aY.put _ _ _)|exact aq.aL|refine aq.bif ?_|refine aq.need ?_|refine aq.look fun _=>?_|refine aq.node ?_ ?_|refine aq.bind fun _ _=>?_|split))
 case h_11=>(repeat' (first|exact aq.fail|exact aq.ret (aY.aR _ _ _)|exact aq.ret (aY.put _ _ _)|exact aq.aL|refine aq.bif ?_|refine aq.need ?_|refine aq.look fun _=>?_|refine aq.node ?_ ?_|refine aq.bind fun _ _=>?_|split))
 case h_12=>(repeat' (first|exact aq.fail|exact aq.ret (aY.aR _ _ _)|exact aq.ret (aY.put _ _ _)|exact aq.aL|refine aq.bif ?_|refine aq.need ?_|refine aq.look fun _=>?_|refine aq.node ?_ ?_|refine aq.bind fun _ _=>?_|split))
 case h_13=>exact BK
 case h_14=>(repeat' (first|exact aq.fail|exact aq.ret (aY.aR _ _ _)|exact aq.ret (aY.put _ _ _)|exact aq.aL|refine aq.bif ?_|refine aq.need ?_|refine aq.look fun _=>?_|refine aq.node ?_ ?_|refine aq.bind fun _ _=>?_|split))
 case h_15=>exact ED
 case h_16=>exact zj
 case h_17=>(repeat' (first|exact aq.fail|exact aq.ret (aY.aR _ _ _)|exact aq.ret (aY.put _ _ _)|exact aq.aL|refine aq.bif ?_|refine aq.need ?_|refine aq.look fun _=>?_|refine aq.node ?_ ?_|refine aq.bind fun _ _=>?_|split))
 case h_18=>split
            ·exact zi
            ·exact aq.fail
 case h_19=>split
            ·exact EE
            ·exact aq.fail
 case h_20=>(repeat' (first|exact aq.fail|exact aq.ret (aY.aR _ _ _)|exact aq.ret (aY.put _ _ _)|exact aq.aL|refine aq.bif ?_|refine aq.need ?_|refine aq.look fun _=>?_|refine aq.node ?_ ?_|refine aq.bind fun _ _=>?_|split))
 case h_21=>(repeat' (first|exact aq.fail|exact aq.ret (aY.aR _ _ _)|exact aq.ret (aY.put _ _ _)|exact aq.aL|refine aq.bif ?_|refine aq.need ?_|refine aq.look fun _=>?_|refine aq.node ?_ ?_|refine aq.bind fun _ _=>?_|split))
 case h_22=>exact GA jK
 case h_23=>exact EG
 case h_24=>exact aq.fail
end
end Go.Ge
namespace Go.Ge
set_option linter.unusedVariables false
set_option linter.unusedSimpArgs false
open RowKit
theorem jX.shrink{mem mem':Nat→Option bL}(hm:∀b bx,mem b=some bx→mem' b=some { bx with lk:=true }){b ax:Nat}{K0 K:bL→Prop}(h0:jX mem b ax K0)(h:jX mem' b ax K)
  (hK:∀bx,K { bx with lk:=true }→K bx):jX mem b ax K:=by
 obtain⟨bx,h1,h2,_⟩:=h0
 obtain⟨fJ,k1,k2,k3⟩:=h
 rw[hm b bx h1] at k1
 obtain rfl:=Option.some.inj k1
 exact⟨bx,h1,h2,fun e=>hK bx (k3 e)⟩
theorem b8.shrink{γ γ':Gh}{mem mem':Nat→Option bL}{w w':World}(hm:∀b bx,mem b=some bx→mem' b=some { bx with lk:=true }):∀{v:aQ} {m:Mode} {us vs:List Value},
  b8 γ mem w v m us→b8 γ' mem' w' v m vs→b8 γ' mem w' v m vs:=by
 intro v
 induction v with
 | undef=>intro m us vs _ r;cases m<;>exact r
 | data t x=>intro m us vs _ r;cases m<;>exact r
 | lz=>intro m us vs _ r;cases m<;>exact r
 | oA=>intro m us vs _ r;cases m<;>exact r
 | cell t x=>intro m us vs _ r;cases m<;>exact r
 | nl=>intro m us vs _ r;cases m<;>exact r
 | pN=>intro m us vs _ r;cases m<;>exact r
 | sF b ax =>
   intro m us vs r0 r
   cases m with
   | many=>exact r
   | cells=>exact⟨r.1,r0.2.shrink hm r.2 fun _ k=>k⟩
   | val=>exact⟨r.1,r0.2.shrink hm r.2 fun _ k=>k⟩
 | ptr b ax p =>
   intro m us vs r0 r
   cases m with
   | many=>exact r
   | cells=>exact⟨r.1,r0.2.shrink hm r.2 fun _ k=>k⟩
   | val=>exact⟨r.1,r0.2.shrink hm r.2 fun _ k=>k⟩
 | whole b ax =>
   intro m us vs r0 r
   cases m with
   | many=>exact r
   | cells=>exact⟨r.1,r0.2.shrink hm r.2 fun _ k=>k⟩
   | val=>exact⟨r.1,r0.2.shrink hm r.2 fun _ k=>k⟩
 | part b ax lo n =>
   intro m us vs r0 r
   cases m with
   | many=>exact r
   | cells=>exact⟨r.1,r0.2.shrink hm r.2 fun _ k=>k⟩
   | val=>exact⟨r.1,r0.2.shrink hm r.2 fun _ k=>k⟩
 | win b ax q e k lo n =>
   intro m us vs r0 r
   cases m with
   | many=>exact r
   | cells=>exact⟨r.1,r0.2.shrink hm r.2 fun _ k=>k⟩
   | val=>exact⟨r.1,r0.2.shrink hm r.2 fun _ k=>k⟩
 | fn f caps =>
   intro m us vs r0 r
   cases m with
   | many=>exact r
   | cells=>obtain⟨_,_,_,s⟩:=r0;obtain⟨arr,r1,r2,r3⟩:=r;exact⟨arr,r1,r2,fun i b ax hc=>(s i b ax hc).shrink hm (r3 i b ax hc) fun _ k=>k⟩
   | val=>obtain⟨_,_,_,s⟩:=r0;obtain⟨arr,r1,r2,r3⟩:=r;exact⟨arr,r1,r2,fun i b ax hc=>(s i b ax hc).shrink hm (r3 i b ax hc) fun _ k=>k⟩
 | mix a b iQ kX =>
   intro m us vs r0 r
   cases m with
   | cells=>obtain⟨_,_,_,s1,s2⟩:=r0;obtain⟨c1,c2,r0,r1,r2⟩:=r;exact⟨c1,c2,r0,iQ s1 r1,kX s2 r2⟩
   | val=>obtain⟨_,_,_,s1,s2⟩:=r0;obtain⟨c1,c2,r0,r1,r2⟩:=r;exact⟨c1,c2,r0,iQ s1 r1,kX s2 r2⟩
   | many=>obtain⟨_,_,_,s1,s2⟩:=r0;obtain⟨c1,c2,r0,r1,r2⟩:=r;exact⟨c1,c2,r0,iQ s1 r1,kX s2 r2⟩
 | yT u ih =>
   intro m us vs r0 r
   cases m with
   | val=>obtain⟨_,_,s⟩:=r0;obtain⟨arr,r1,r2⟩:=r;exact⟨arr,r1,ih s r2⟩
   | cells=>exact r
   | many=>exact r
theorem bz.unlock{B:nY}{γ γ':Gh}{mem mem':Nat→Option bL}{w w':World}(h:bz B γ mem w)(hm:∀b bx,mem b=some bx→mem' b=some { bx with lk:=true })
  (h':bz B γ' mem' w') (hx:Ext B γ (fun i=>match mem i with|some b=>some { b with lk:=true }|none=>none) w γ' mem' w'):bz B γ' mem w'∧Ext B γ mem w γ' mem w':=by
 have Mv:∀b bx,mem b=some bx→γ'.loc b=γ.loc b:=by
  intro b bx hb
  obtain⟨fJ,k1,k2,k3⟩:=hx.boxes b { bx with lk:=true } (by simp[hb])
  rw[hm b bx hb] at k1
  obtain rfl:=Option.some.inj k1
  exact(k3 rfl).1
 have hne:∀b,mem b≠none→mem' b≠none:=by
  intro b hb
  cases hq:mem b with
  | none=>exact absurd hq hb
  | some bx=>rw[hm b bx hq];simp
 refine⟨?_,⟨hx.below,hx.I,hx.nh,hx.cells,fun b bx hb=>⟨bx,hb,Nat.le_refl _,fun _=>⟨Mv b bx hb,rfl,rfl⟩⟩⟩⟩
 exact
  { aU:=h'.aU
    base:=h'.base
    boxes:=fun b bx hb=>by
     have h1:=h.boxes b bx hb
     have h2:=h'.boxes b _ (hm b bx hb)
     unfold cw at h1 h2⊢
     cases bF:bx.buf with
     | true=>rw[bF] at h2;exact h2
     | false =>
       rw[bF] at h1 h2
       obtain⟨_,_,_,_,_,_,_,_,_,r0⟩:=h1
       obtain⟨blk,cap,cur,tid,fr,k1,k2,k3,gk,k4⟩:=h2
       exact⟨blk,cap,cur,tid,fr,k1,k2,k3,gk,r0.shrink hm k4⟩
    inj:=fun b c blk k k' hb hc h1 h2=>h'.inj b c blk k k' (hne b hb) (hne c hc) h1 h2
    fresh:=fun b blk k hb h1=>h'.fresh b blk k (hne b hb) h1
    qu:=h'.qu
    sep:=fun b bx blk k off hb h1 hi=>by
     have:=h'.sep b _ blk k off (hm b bx hb) h1 hi
     exact this }
theorem Ext.fY{B:nY}{γ:Gh}{σ:St}{w:World}:Ext B γ σ.mem w γ σ.fY.mem w where
 below:=rM.refl _ _
 I:=fun _ _ h=>h
 nh:=fun _ _ h=>.inl h
 cells:=fun _ _ _=>rfl
 boxes:=fun b bx hb=>⟨{ bx with lk:=true },by simp[St.fY,hb],Nat.le_refl _,fun _=>⟨rfl,rfl,rfl⟩⟩
theorem bz.fY{B:nY}{γ:Gh}{σ:St}{w:World}(h:bz B γ σ.mem w):bz B γ σ.fY.mem w:=by
 have inv:∀{b bx},σ.fY.mem b=some bx→∃cK,σ.mem b=some cK∧bx={ cK with lk:=true }:=by
  intro b bx hb
  simp only[St.fY] at hb
  split at hb
  ·rename_i cK h0;exact⟨cK,h0,(Option.some.inj hb).symm⟩
  ·cases hb
 have hne:∀{b},σ.fY.mem b≠none→σ.mem b≠none:=by
  intro b hb hq
  apply hb
  simp[St.fY,hq]
 exact
  { aU:=h.aU
    base:=h.base
    boxes:=fun b bx hb=>by
     obtain⟨cK,h0,rfl⟩:=inv hb
     have:=(h.boxes b cK h0).keep (Ext.fY (B:=B) (γ:=γ) (σ:=σ) (w:=w)) rfl (fun _ _ _=>rfl)
     exact this
    inj:=fun b c blk k k' hb hc h1 h2=>h.inj b c blk k k' (hne hb) (hne hc) h1 h2
    fresh:=fun b blk k hb h1=>h.fresh b blk k (hne hb) h1
    qu:=h.qu
    sep:=fun b bx blk k off hb h1 hi=>by
     obtain⟨cK,h0,rfl⟩:=inv hb
     exact h.sep b cK blk k off h0 h1 hi }
theorem cG.fY{B:nY}{N:Nat}{γ:Gh}{σ:St}{a:Act}{w:World}(h:cG B N γ σ a w):cG B N γ σ.fY a w where
 slots:=fun t=>(h.slots t).ext (Ext.fY (B:=B))
 size:=h.size
 defers:=h.defers
 ok:=h.ok.fY
theorem IV{σ τ:St}(h:aY σ.fY τ):∀b bx,σ.mem b=some bx→τ.mem b=some { bx with lk:=true }:=fun b bx hb=>h b _ (by simp[St.fY,hb]) rfl
end Go.Ge
namespace Go.Ge
set_option linter.unusedVariables false
set_option linter.unusedSimpArgs false
open RowKit
inductive nZ (all:Array Oper) (G:List (Nat×Bool)):List (Nat×Oper)→List Oper→Prop
 | nil:nZ all G [] []
 | cons {i:Nat} {o o':Oper} {r:List (Nat×Oper)} {l:List Oper}:all[i]?=some o→(o'=o∨∃g,o.guard=some g∧g∈G∧o'={ o with guard:=none })→nZ all G r l→nZ all G ((i,o')::r) (o::l)
theorem nZ.mono{all:Array Oper}{G G':List (Nat×Bool)}(hG:∀g∈G,g∈G'){items:List (Nat×Oper)}{l:List Oper}(h:nZ all G items l):nZ all G' items l:=by
 induction h with
 | nil=>exact .nil
 | cons h1 h2 _ ih=>exact .cons h1 (h2.imp id fun⟨g,k1,k2,k3⟩=>⟨g,k1,hG g k2,k3⟩) ih
theorem Km{all:Array Oper}{G:List (Nat×Bool)}{j:Nat}{want:Bool}:∀{items:List (Nat×Oper)} {l:List Oper} {inner:List Nat},nZ all G items l →
  ∃l1 l2,l=l1++l2∧nZ all ((j,want)::G) (under j want inner items).1 l1∧nZ all G (under j want inner items).2 l2:=by
 intro items l inner h
 induction h generalizing inner with
 | nil=>exact⟨[],[],rfl,.nil,.nil⟩
 | @cons i o o' r l h1 h2 h3 ih =>
   unfold under
   cases hg:uK o'.guard j want with
   | true =>
     simp only[cond_true]
     obtain⟨l1,l2,e1,e2,e3⟩:=ih (inner:=i::inner)
     refine⟨o::l1,l2,by rw[e1];rfl,.cons h1 (.inr ?_) e2,e3⟩
     have ho:o'=o:=by
      rcases h2 with h2|⟨g,k1,k2,k3⟩
      ·exact h2
      ·rw[k3] at hg;cases hg
     subst ho
     unfold uK at hg
     split at hg
     ·rename_i i' b' hgd
      simp only[Bool.and_eq_true] at hg
      have h9:=Nat.eq_of_beq_eq_true hg.1
      have h8:b'=want:=by simpa using hg.2
      subst h9;subst h8
      exact⟨(i',b'),hgd,List.mem_cons_self ..,rfl⟩
     ·cases hg
   | false =>
     simp only[cond_false]
     have both:∀c:Bool,∃l1 l2,o::l=l1++l2 ∧
       nZ all ((j,want)::G) (bif c then((i,o')::(under j want (i::inner) r).1,(under j want (i::inner) r).2) else([],(i,o')::r)).1 l1 ∧
       nZ all G (bif c then((i,o')::(under j want (i::inner) r).1,(under j want (i::inner) r).2) else([],(i,o')::r)).2 l2:=by
      intro c
      cases c with
      | true =>
        obtain⟨l1,l2,e1,e2,e3⟩:=ih (inner:=i::inner)
        exact⟨o::l1,l2,by rw[e1];rfl,.cons h1 (h2.imp id fun⟨g,k1,k2,k3⟩=>⟨g,k1,List.mem_cons_of_mem _ k2,k3⟩) e2,e3⟩
      | false=>exact⟨[],o::l,rfl,.nil,.cons h1 h2 h3⟩
     exact both _
theorem ME{d:Nat}:∀{items:List (Nat×Oper)},kM d items=false→∀i o,(i,o)∈items→o.dst≠some d:=by
 intro items
 induction items with
 | nil=>intro _ i o h;cases h
 | cons p r ih =>
   obtain⟨i0,o0⟩:=p
   intro h i o hm
   simp only[kM,Bool.or_eq_false_iff] at h
   rcases List.mem_cons.1 hm with hm|hm
   ·obtain⟨rfl,rfl⟩:=Prod.mk.inj hm
    intro e
    rw[e] at h
    simp at h
   ·exact ih h.2 i o hm
section
variable {P:Program} {B:nY} {N:Nat} {γ:Gh} {σ σ':St} {a:Act} {w w':World} {cx:Ctx} {nb:Nat} {bf:List Nat} {inl:Nat→List aQ→St→Tree (aQ×St)} {all:Array Oper}
def Kn(all:Array Oper)(G:List (Nat×Bool))(a:Act)(items:List (Nat×Oper)):Prop :=
 ∀g∈G,∃dj,(all[g.1]?).bind (·.dst)=some dj∧a.tmps[dj]?=some (.bool g.2)∧kM dj items=false
theorem Kn.wanted{G:List (Nat×Bool)}{items:List (Nat×Oper)}(h:Kn all G a items){o:Oper}{g:Nat×Bool}(ho:o.guard=some g)(hg:g∈G):Region.wanted o (yielded all a.tmps)=true:=by
 obtain⟨dj,h1,h2,_⟩:=h g hg
 obtain⟨j,want⟩:=g
 unfold Region.wanted
 rw[ho]
 simp only[yielded,h1,Option.bind_some,h2]
 simp
def Fr(items:List (Nat×Oper))(a a':Act):Prop:=∀t,kM t items=false→a'.tmps[t]?=a.tmps[t]?
theorem eL{a:Act}{d:Option Nat}{v:Value}{t:Nat}(h:d≠some t):(a.put d v).tmps[t]?=a.tmps[t]?:=by
 cases d with
 | none=>rfl
 | some k =>
   have:k≠t:=fun e=>h (by rw[e])
   simp[Act.put,Array.getElem?_setIfInBounds_ne this]
theorem uf{d i:Nat}{o:Oper}{r:List (Nat×Oper)}(h:kM d ((i,o)::r)=false):o.dst≠some d∧kM d r=false:=by
 simp only[kM,Bool.or_eq_false_iff] at h
 refine⟨fun e=>?_,h.2⟩
 rw[e] at h
 simp at h
theorem Ko(t:Nat):∀(items:List (Nat×Oper)),(σ.undef items).slots t=bif kM t items then .undef else σ.slots t:=by
 intro items
 induction items with
 | nil=>rfl
 | cons p r ih =>
   obtain⟨i,o⟩:=p
   simp only[St.undef,kM]
   cases hd:o.dst with
   | none=>simp only[St.aR,Bool.false_or];exact ih
   | some k =>
     simp only[St.aR,St.put]
     cases hk:Nat.beq k t with
     | true=>obtain rfl:=Nat.eq_of_beq_eq_true hk;simp
     | false =>
       have:Nat.beq t k=false:=fQ (fun e=>by subst e;simp at hk)
       rw[this];simp only[cond_false,Bool.false_or];exact ih
theorem ry:∀(items:List (Nat×Oper)),(σ.undef items).mem=σ.mem:=by
 intro items
 induction items with
 | nil=>rfl
 | cons p r ih =>
   obtain⟨i,o⟩:=p
   simp only[St.undef]
   cases o.dst<;>exact ih
theorem cG.undef(h:cG B N γ σ a w){items:List (Nat×Oper)}{a':Act}(hf:Fr items a a')(hs:a'.tmps.size=N)(hd:a'.defers=[]):cG B N γ (σ.undef items) a' w where
 slots:=fun t=>by
  rw[Ko,ry]
  cases hh:kM t items with
  | true=>exact⟨_,rfl⟩
  | false =>
    have:=hf t hh
    have e:a'.tmps.getD t Go.undef=a.tmps.getD t Go.undef:=by simp only[Array.getD_eq_getD_getElem?,this]
    rw[e];exact h.slots t
 size:=hs
 defers:=hd
 ok:=by rw[ry];exact h.ok
theorem Ao{d:Option Nat}{k:Nat}(h:yielded all a.tmps k=none):yielded all (a.put d Go.undef).tmps k=none:=by
 unfold yielded at h⊢
 cases hk:(all[k]?).bind (·.dst) with
 | none=>rfl
 | some dk =>
   rw[hk] at h
   simp only[Option.bind_some] at h⊢
   by_cases e:d=some dk
   ·subst e
    simp only[Act.put]
    rw[Array.getElem?_setIfInBounds]
    simp only[if_true]
    by_cases hs:dk<a.tmps.size
    ·rw[if_pos hs];rfl
    ·rw[if_neg hs]
   ·rw[eL e];exact h
theorem Ap{i:Nat}{o:Oper}(h:all[i]?=some o):yielded all (a.put o.dst Go.undef).tmps i=none:=by
 unfold yielded
 rw[h]
 simp only[Option.bind_some]
 cases hd:o.dst with
 | none=>rfl
 | some d =>
   simp only[Option.bind_some,Act.put]
   rw[Array.getElem?_setIfInBounds]
   simp only[if_true]
   by_cases hs:d<a.tmps.size
   ·rw[if_pos hs];rfl
   ·rw[if_neg hs]
theorem MF{G:List (Nat×Bool)}{j dj:Nat}{want c:Bool}{Q:Exit→Act→World→Prop}(hj:(all[j]?).bind (·.dst)=some dj)(Kp:c≠want) :
  ∀{items:List (Nat×Oper)} {l:List Oper} {inner:List Nat} {a:Act},nZ all G items l→a.tmps[dj]?=some (.bool c)→kM dj (under j want inner items).1=false→(∀k∈inner,yielded all a.tmps k=none) →
   ∃l1 l2,l=l1++l2∧l1.length=(under j want inner items).1.length∧∀rest,(∀a',Fr (under j want inner items).1 a a'→a'.tmps.size=a.tmps.size→a'.defers=a.defers→wpList P all Q rest a' w) →
    wpList P all Q (l1++rest) a w:=by
 intro items l inner a h
 induction h generalizing inner a with
 | nil=>intro _ _ _;exact⟨[],[],rfl,rfl,fun rest hk=>hk a (fun t _=>rfl) rfl rfl⟩
 | @cons i o o' r l h1 h2 h3 ih =>
   intro hc hh hin
   have one:∀(oo:Oper),oo.dst=o.dst→Region.wanted o (yielded all a.tmps)=false→(under j want inner ((i,o')::r)).1=(i,oo)::(under j want (i::inner) r).1 →
     ∃l1 l2,o::l=l1++l2∧l1.length=(under j want inner ((i,o')::r)).1.length∧∀rest,(∀a',Fr (under j want inner ((i,o')::r)).1 a a'→a'.tmps.size=a.tmps.size→a'.defers=a.defers→wpList P all Q rest a' w) →
     wpList P all Q (l1++rest) a w:=by
    intro oo YR hw hu
    rw[hu] at hh⊢
    obtain⟨hd1,YS⟩:=uf hh
    rw[YR] at hd1
    obtain⟨l1,l2,e1,e2,e3⟩:=ih (inner:=i::inner) (a:=a.put o.dst Go.undef) (by rw[eL hd1];exact hc) YS (fun k hk=>by
     rcases List.mem_cons.1 hk with rfl|hk
     ·exact Ap h1
     ·exact Ao (hin k hk))
    refine⟨o::l1,l2,by rw[e1];rfl,by simp[e2],fun rest hk=>?_⟩
    show wpList P all Q (o::(l1++rest)) a w
    unfold wpList
    rw[hw]
    simp only[Bool.false_eq_true,if_false]
    refine e3 rest fun a' f1 f2 f3=>hk a' (fun t ht=>?_) (f2.trans (JZ _ _ _)) (f3.trans (put_defers _ _ _))
    obtain⟨Wn,ZP⟩:=uf ht
    rw[YR] at Wn
    rw[f1 t ZP,eL Wn]
   cases hg:uK o'.guard j want with
   | true =>
     have ho:o'=o:=by
      rcases h2 with h2|⟨g,k1,k2,k3⟩
      ·exact h2
      ·rw[k3] at hg;cases hg
     subst ho
     have hgd:o'.guard=some (j,want):=by
      unfold uK at hg
      split at hg
      ·rename_i i' b' hgd
       simp only[Bool.and_eq_true] at hg
       have h9:=Nat.eq_of_beq_eq_true hg.1
       have h8:b'=want:=by simpa using hg.2
       rw[hgd,h9,h8]
      ·cases hg
     refine one { o' with guard:=none } rfl ?_ (by simp only[under,hg,cond_true])
     unfold Region.wanted
     rw[hgd]
     simp only[yielded,hj,Option.bind_some,hc]
     cases c<;>cases want<;>first|rfl|exact absurd rfl Kp
   | false =>
     cases hgd:o'.guard with
     | none =>
       have hu:(under j want inner ((i,o')::r)).1=[]:=by
        rw[hgd] at hg
        simp only[under,hgd,hg,cond_false]
       rw[hu]
       exact⟨[],o::l,rfl,rfl,fun rest hk=>hk a (fun t _=>rfl) rfl rfl⟩
     | some g =>
       obtain⟨k,b⟩:=g
       rw[hgd] at hg
       cases hn:inner.any (Nat.beq k) with
       | true =>
         have ho:o'=o:=by
          rcases h2 with h2|⟨g,k1,k2,k3⟩
          ·exact h2
          ·rw[k3] at hgd;cases hgd
         subst ho
         refine one o' rfl ?_ (by simp only[under,hgd,hg,hn,cond_false,cond_true])
         obtain⟨k',hk',hkk⟩:=List.any_eq_true.1 hn
         obtain rfl:=Nat.eq_of_beq_eq_true hkk
         unfold Region.wanted
         rw[hgd]
         simp only[hin k hk']
         rfl
       | false =>
         have hu:(under j want inner ((i,o')::r)).1=[]:=by simp only[under,hgd,hg,hn,cond_false]
         rw[hu]
         exact⟨[],o::l,rfl,rfl,fun rest hk=>hk a (fun t _=>rfl) rfl rfl⟩
end
end Go.Ge
namespace Go.Ge
set_option linter.unusedVariables false
set_option linter.unusedSimpArgs false
open RowKit
section
variable {P:Program} {B:nY} {N:Nat} {γ:Gh} {σ σ':St} {a:Act} {w w':World} {cx:Ctx} {nb:Nat} {bf:List Nat} {inl:Nat→List aQ→St→Tree (aQ×St)} {all:Array Oper}
theorem EH(σ:St)(items:List (Nat×Oper)):aY σ (σ.undef items):=aY.QX (ry items)
theorem Aq(jK:∀f vals σ v σ',(inl f vals σ).run=some (v,σ')→aY σ σ'):∀(n:Nat) (items:List (Nat×Oper)) (σ:St),aq σ (mX cx nb bf inl all n items σ):=by
 intro n
 induction n with
 | zero=>intro items σ;exact aq.fail
 | succ n ih =>
   intro items σ
   cases items with
   | nil=>exact aq.ret (aY.refl _)
   | cons p r =>
     obtain⟨i,o⟩:=p
     unfold mX
     split
     ·exact aq.bind fun σ1 h1 y hy=>(wH jK σ1 h1).trans (ih _ _ y hy)
     ·rename_i j want hg
      dsimp only
      split
      ·exact aq.fail
      ·rename_i dj XT
       split
       ·rename_i c ip pk rest Ar sJ
        cases hh:kM dj (under j want [] ((i,o)::r)).1 with
        | true=>exact aq.fail
        | false =>
          simp only[cond_false]
          split
          ·exact aq.fail
          ·cases hin:DK cx (under j want [] ((i,o)::r)).1 with
           | true =>
             simp only[cond_true]
             intro y hy
             obtain⟨σ2,h1,h2⟩:=bind_some hy
             refine aY.trans ?_ (ih _ _ y h2)
             refine(aq.node (σ:=σ) ?_ ?_) σ2 h1
             ·refine aq.bind fun τ ZQ=>?_
              split
              ·exact aq.ret ((ih _ _ τ ZQ).trans (aY.aR _ _ _))
              ·exact aq.fail
             ·split
              ·exact aq.ret ((EH _ _).trans (aY.aR _ _ _))
              ·exact aq.fail
           | false =>
             simp only[cond_false]
             split
             ·intro y hy
              rw[Tree.vY] at hy
              obtain⟨x,h1,h2⟩:=Option.bind_eq_some_iff.1 hy
              exact((EH _ _).trans (aY.put _ _ _)).trans (ih _ _ y h2)
             ·exact aq.fail
       ·exact aq.fail
theorem N7{mem:Nat→Option bL}{t:Ty}{v:aQ}{x:t.den}{val:Value}(h:ON t v=some x)(hv:b8 γ mem w v .val [val]){mem':Nat→Option bL}:b8 γ mem' w (.data t x) .val [val]:=by
 unfold ON at h
 split at h
 ·obtain⟨q,hq⟩:=Ty.iY h
  subst q;subst hq
  exact hv
 ·split at h
  ·obtain rfl:=Option.some.inj h
   obtain rfl:val=_:=by simpa [b8] using hv
   exact⟨[.slice none 0 0],.inl ⟨⟨none,rfl⟩,rfl⟩,rfl⟩
  ·cases h
 ·cases h
theorem nZ.length{G:List (Nat×Bool)}{items:List (Nat×Oper)}{l:List Oper}(h:nZ all G items l):items.length=l.length:=by
 induction h with
 | nil=>rfl
 | cons _ _ _ ih=>simp[ih]
theorem MG{pk:Oper}{dj:Nat}{b:Bool}{v:aQ}{K:Act→World→Prop}{Q:Exit→Act→World→Prop}(h:cG B N γ σ a w)(hb:a.tmps[dj]?=some (.bool b)){want:Bool}(hw:b=want)
  (Kq:uL σ pk dj want=some v) (hK:∀y,b8 γ σ.mem w v .val [y]→K (a.put pk.dst y) w):pk.wp P a w K Q:=by
 unfold uL at Kq
 split at Kq
 ·rename_i c x y hop
  cases hc:Nat.beq c dj with
  | false=>rw[hc] at Kq;cases Kq
  | true =>
    obtain rfl:=Nat.eq_of_beq_eq_true hc
    rw[hc] at Kq
    obtain rfl:=Option.some.inj Kq
    subst hw
    have he:a.eval (.tmp c)=.bool b:=by simp[Act.eval,hb]
    unfold Oper.wp
    have hrun:(execOp a.eval pk).run P w=.ok (.value (a.eval (bif b then x else y))) w:=by
     simp only[execOp,hop,he]
     cases b<;>rfl
    rw[hrun]
    exact hK _ (h.cq _)
 ·cases Kq
theorem Kn.put{G:List (Nat×Bool)}{i:Nat}{o:Oper}{r:List (Nat×Oper)}(h:Kn all G a ((i,o)::r))(v:Value):Kn all G (a.put o.dst v) r:=by
 intro g hg
 obtain⟨dj,k1,k2,k3⟩:=h g hg
 obtain⟨t1,t2⟩:=uf k3
 exact⟨dj,k1,by rw[eL t1];exact k2,t2⟩
theorem MH{d j:Nat}{want:Bool}:∀{items:List (Nat×Oper)} {inner:List Nat},kM d items=(kM d (under j want inner items).1||kM d (under j want inner items).2):=by
 intro items
 induction items with
 | nil=>intro inner;rfl
 | cons p r ih =>
   obtain⟨i,o⟩:=p
   intro inner
   unfold under
   cases hg:uK o.guard j want with
   | true=>simp only[cond_true,kM,Bool.or_assoc];rw[ih (inner:=i::inner)]
   | false =>
     simp only[cond_false]
     have both:∀c:Bool,kM d ((i,o)::r)=(kM d (bif c then((i,o)::(under j want (i::inner) r).1,(under j want (i::inner) r).2) else([],(i,o)::r)).1 ||
       kM d (bif c then((i,o)::(under j want (i::inner) r).1,(under j want (i::inner) r).2) else([],(i,o)::r)).2):=by
      intro c
      cases c with
      | true=>simp only[cond_true,kM,Bool.or_assoc];rw[ih (inner:=i::inner)]
      | false=>simp[kM]
     exact both _
theorem MI{p:Option Nat→Prop}{j:Nat}{want:Bool}:∀{items:List (Nat×Oper)} {inner:List Nat},(∀i o,(i,o)∈items→p o.dst) →
  (∀i o,(i,o)∈(under j want inner items).1→p o.dst)∧(∀i o,(i,o)∈(under j want inner items).2→p o.dst):=by
 intro items
 induction items with
 | nil=>intro inner h;exact⟨h,h⟩
 | cons q r ih =>
   obtain⟨i0,o0⟩:=q
   intro inner h
   have h0:=h i0 o0 (List.mem_cons_self ..)
   have hr:∀i o,(i,o)∈r→p o.dst:=fun i o hm=>h i o (List.mem_cons_of_mem _ hm)
   unfold under
   cases hg:uK o0.guard j want with
   | true =>
     simp only[cond_true]
     obtain⟨k1,k2⟩:=ih (inner:=i0::inner) hr
     refine⟨fun i o hm=>?_,k2⟩
     rcases List.mem_cons.1 hm with hm|hm
     ·obtain⟨_,rfl⟩:=Prod.mk.inj hm;exact h0
     ·exact k1 i o hm
   | false =>
     simp only[cond_false]
     have both:∀c:Bool,(∀i o,(i,o)∈(bif c then((i0,o0)::(under j want (i0::inner) r).1,(under j want (i0::inner) r).2) else([],(i0,o0)::r)).1→p o.dst) ∧
       (∀i o,(i,o)∈(bif c then((i0,o0)::(under j want (i0::inner) r).1,(under j want (i0::inner) r).2) else([],(i0,o0)::r)).2→p o.dst):=by
      intro c
      cases c with
      | true =>
        obtain⟨k1,k2⟩:=ih (inner:=i0::inner) hr
        refine⟨fun i o hm=>?_,k2⟩
        rcases List.mem_cons.1 hm with hm|hm
        ·obtain⟨_,rfl⟩:=Prod.mk.inj hm;exact h0
        ·exact k1 i o hm
      | false=>exact⟨fun i o hm=>(by cases hm),h⟩
     exact both _
theorem Cx{t:Nat}{b:Bool}(h:cG B N γ σ a w)(hs:σ.slots t=.data .bool b):a.tmps[t]?=some (.bool b):=by
 have:=h.slots t
 rw[hs] at this
 have e:=uO this
 rw[Array.getD_eq_getD_getElem?] at e
 cases hq:a.tmps[t]? with
 | none=>rw[hq] at e;cases e
 | some y=>rw[hq] at e;exact congrArg some e
theorem Kr{α:Type}{c want:Bool}{t e:Tree α}{y:α}(h:(Tree.node (bif want then c else nt c) t e).run=some y):(c=want∧t.run=some y)∨(c≠want∧c=(!want)∧e.run=some y):=by
 have:=eU h
 cases c<;>cases want
 ·exact .inl ⟨rfl,this⟩
 ·exact .inr ⟨by simp,rfl,this⟩
 ·exact .inr ⟨by simp,rfl,this⟩
 ·exact .inl ⟨rfl,this⟩
theorem GB(hc:eG P cx)(dG:mC P B.G cx)(jK:sI P B.G inl)(hkeep:∀f vals σ v σ',(inl f vals σ).run=some (v,σ')→aY σ σ'){Q:Exit→Act→World→Prop} :
  ∀(n:Nat) {items:List (Nat×Oper)} {l rest:List Oper} {σ σ':St} {γ:Gh} {a:Act} {w:World} {G:List (Nat×Bool)},nZ all G items l→Kn all G a items→(∀i o,(i,o)∈items→∀k,o.dst=some k→k<N) →
   (mX cx nb bf inl all n items σ).run=some σ'→cG B N γ σ a w →
   (∀γ' a' w',cG B N γ' σ' a' w'→Ext B γ σ.mem w γ' σ'.mem w'→Fr items a a'→wpList P all Q rest a' w')→wpList P all Q (l++rest) a w:=by
 intro n
 induction n with
 | zero=>intro items l rest σ σ' γ a w G _ _ _ hr;cases hr
 | succ n ih =>
   intro items l rest σ σ' γ a w G hit hG hd hr h hK
   cases hit with
   | nil =>
     obtain rfl:=Option.some.inj hr
     exact hK γ a w h (Ext.refl _ _ _ _) (fun t _=>rfl)
   | @cons i o o' r l h1 h2 h3 =>
     have Mz:o'.dst=o.dst:=by rcases h2 with rfl|⟨_,_,_,rfl⟩<;>rfl
     unfold mX at hr
     split at hr
     ·rename_i hg
      obtain⟨σ1,r1,r2⟩:=bind_some hr
      have hw:Region.wanted o (yielded all a.tmps)=true:=by
       rcases h2 with rfl|⟨g,k1,k2,k3⟩
       ·unfold Region.wanted;rw[hg]
       ·exact hG.wanted k1 k2
      have XU:(mW cx nb bf inl o σ).run=some σ1:=by
       rcases h2 with rfl|⟨g,k1,k2,rfl⟩
       ·exact r1
       ·exact r1
      show wpList P all Q (o::(l++rest)) a w
      unfold wpList
      rw[hw]
      simp only[if_true]
      refine .inl (EA hc dG jK h (fun k hk=>hd i o' (List.mem_cons_self ..) k (by rw[Mz];exact hk)) XU fun ij v w1 s1 x1=>?_)
      have YT:=hG.put v
      rw[Mz] at YT
      refine ih h3 YT (fun i o hm=>hd i o (List.mem_cons_of_mem _ hm)) r2 s1 fun BD a2 w2 s2 x2 f2=>hK BD a2 w2 s2 (x1.trans x2) fun t ht=>?_
      obtain⟨t1,t2⟩:=uf ht
      rw[f2 t t2,eL (by rw[←Mz];exact t1)]
     ·rename_i j want hg
      dsimp only at hr
      split at hr
      ·exact absurd hr (by intro k;cases k)
      rename_i dj XT
      split at hr
      case h_2=>exact absurd hr (by intro k;cases k)
      rename_i c ip pk rest' Ar sJ
      change Bool at c
      cases hh:kM dj (under j want [] ((i,o')::r)).1 with
      | true=>rw[hh] at hr;exact absurd hr (by intro k;cases k)
      | false =>
      rw[hh] at hr
      simp only[cond_false] at hr
      split at hr
      ·exact absurd hr (by intro k;cases k)
      rename_i ZR
      have UR:a.tmps[dj]?=some (.bool c):=Cx h Ar
      obtain⟨l1,l2,e1,I1,I2⟩:=Km (j:=j) (want:=want) (inner:=[]) (nZ.cons h1 h2 h3)
      obtain⟨d1,d2⟩:=MI (p:=fun d=>∀k,d=some k→k<N) (j:=j) (want:=want) (inner:=[]) hd
      have Ug:∀d,kM d ((i,o')::r)=(kM d (under j want [] ((i,o')::r)).1||kM d (under j want [] ((i,o')::r)).2):=fun d=>MH
      have Wo:=fun(Kp:c≠want)=>MF (P:=P) (w:=w) (Q:=Q) XT Kp (nZ.cons h1 h2 h3) UR hh (fun k hk=>by cases hk)
      generalize QY:(under j want [] ((i,o')::r)).1=g1 at *
      rw[sJ] at I2 d2 Ug
      cases I2 with
      | @cons _ Qk _ _ Xg p1 p2 p3 =>
      have Uh:pk.dst=Qk.dst:=by rcases p2 with rfl|⟨_,_,_,rfl⟩<;>rfl
      have XV:pk.op=Qk.op:=by rcases p2 with rfl|⟨_,_,_,rfl⟩<;>rfl
      rw[e1,List.append_assoc]
      have hsplit:∀{d},kM d ((i,o')::r)=false→kM d g1=false∧Qk.dst≠some d∧kM d rest'=false:=by
       intro d hd0
       rw[Ug] at hd0
       simp only[Bool.or_eq_false_iff] at hd0
       obtain⟨q1,q2⟩:=uf hd0.2
       exact⟨hd0.1,by rw[←Uh];exact q1,q2⟩
      have tail:∀(ij:Gh) (τ σ2:St) (a1:Act) (w1:World) (v:aQ) (b:Bool),cG B N ij τ a1 w1→Fr g1 a a1→c=b→uL τ pk dj b=some v →
        (∀y,b8 ij τ.mem w1 v .val [y]→∃BD,cG B N BD σ2 (a1.put Qk.dst y) w1∧Ext B γ σ.mem w BD σ2.mem w1)→(mX cx nb bf inl all n rest' σ2).run=some σ' →
        wpList P all Q (Qk::Xg++rest) a1 w1:=by
       intro ij τ σ2 a1 w1 v b s1 f1 hcb Kq hy hev
       have YU:Kn all G a1 ((ip,pk)::rest'):=fun g Wp=>by
        obtain⟨Xh,k1,k2,k3⟩:=hG g Wp
        obtain⟨q1,q2,q3⟩:=hsplit k3
        refine⟨Xh,k1,by rw[f1 Xh q1];exact k2,?_⟩
        simp only[kM,Bool.or_eq_false_iff]
        refine⟨?_,q3⟩
        cases hpk:pk.dst with
        | none=>rfl
        | some k=>exact fQ fun e=>q2 (by rw[←Uh,hpk,e])
       have hwp:Region.wanted Qk (yielded all a1.tmps)=true:=by
        rcases p2 with rfl|⟨g,k1,k2,k3⟩
        ·unfold Region.wanted;rw[ZR]
        ·exact YU.wanted k1 k2
       show wpList P all Q (Qk::(Xg++rest)) a1 w1
       unfold wpList
       rw[hwp]
       simp only[if_true]
       have XW:uL τ Qk dj b=some v:=by rw[←Kq];unfold uL;rw[XV]
       refine .inl (MG s1 (by rw[f1 dj hh];exact UR) hcb XW fun y Xd=>?_)
       obtain⟨BD,s2,x2⟩:=hy y Xd
       have YV:=YU.put y
       rw[Uh] at YV
       refine ih p3 YV (fun i o hm=>d2 i o (List.mem_cons_of_mem _ hm)) hev s2 fun XX a3 w3 s3 x3 f3=>hK XX a3 w3 s3 (x2.trans x3) fun t ht=>?_
       obtain⟨q1,q2,q3⟩:=hsplit ht
       rw[f3 t q3,eL q2,f1 t q1]
      have Ui:∀(τ:St) (d:Option Nat) (v:aQ),(τ.aR d v).mem=τ.mem:=fun τ d v=>by cases d<;>rfl
      have hpk:∀k,Qk.dst=some k→k<N:=fun k hk=>d2 ip pk (List.mem_cons_self ..) k (by rw[Uh];exact hk)
      have Wq:c=want→Kn all ((j,want)::G) a g1:=fun Kp g Wp=>by
       rcases List.mem_cons.1 Wp with rfl|Wp
       ·exact⟨dj,XT,by rw[←Kp];exact UR,hh⟩
       ·obtain⟨Xh,k1,k2,k3⟩:=hG g Wp
        exact⟨Xh,k1,k2,(hsplit k3).1⟩
      have fy:c≠want→(∀a1,Fr g1 a a1→a1.tmps.size=a.tmps.size→a1.defers=a.defers→wpList P all Q (Qk::Xg++rest) a1 w)→wpList P all Q (l1++(Qk::Xg++rest)) a w:=by
       intro Kp hk
       obtain⟨m1,m2,q1,q2,q3⟩:=Wo Kp
       rw[e1] at q1
       obtain⟨rfl,rfl⟩:=List.append_inj q1 (by rw[q2,I1.length])
       exact q3 _ hk
      cases hin:DK cx g1 with
      | true =>
        rw[hin] at hr
        simp only[cond_true] at hr
        obtain⟨σ2,hn,hev⟩:=bind_some hr
        rcases Kr (c:=c) (want:=want) hn with ⟨Kp,hn⟩|⟨Kp,Wm,hn⟩
        ·obtain⟨τ,t1,t2⟩:=bind_some hn
         split at t2
         ·rename_i v Kq
          obtain rfl:=Option.some.inj t2
          refine ih I1 (Wq Kp) d1 t1 h fun ij a1 w1 s1 x1 f1=>tail ij τ _ a1 w1 v want s1 f1 Kp Kq (fun y hy=>⟨ij,?_,?_⟩) hev
          ·rw[Uh];exact s1.rN hpk hy
          ·rw[Ui];exact x1
         ·exact absurd t2 (by intro k;cases k)
        ·split at hn
         ·rename_i v Kq
          obtain rfl:=Option.some.inj hn
          refine fy Kp fun a1 f1 f2 f3=>tail γ (σ.undef g1) _ a1 w v (!want) (h.undef f1 (f2.trans h.size) (f3.trans h.defers)) f1 Wm Kq (fun y hy=>⟨γ,?_,?_⟩) hev
          ·rw[Uh];exact(h.undef f1 (f2.trans h.size) (f3.trans h.defers)).rN hpk hy
          ·rw[Ui,ry];exact Ext.refl _ _ _ _
         ·exact absurd hn (by intro k;cases k)
      | false =>
        rw[hin] at hr
        simp only[cond_false] at hr
        split at hr
        case h_2=>exact absurd hr (by intro k;cases k)
        rename_i t dp hT ZS
        rw[Tree.vY] at hr
        obtain⟨x,hn,hev⟩:=Option.bind_eq_some_iff.1 hr
        have Th:Qk.dst=some dp:=by rw[←Uh];exact ZS
        rcases Kr (c:=c) (want:=want) hn with ⟨Kp,hn⟩|⟨Kp,Wm,hn⟩
        ·obtain⟨τ,t1,t2⟩:=bind_some hn
         split at t2
         ·rename_i x' Kq
          obtain rfl:=Option.some.inj t2
          obtain⟨v,hv1,Gi⟩:=Option.bind_eq_some_iff.1 Kq
          refine ih I1 (Wq Kp) d1 t1 h.fY fun ij a1 w1 s1 x1 f1=>tail ij τ _ a1 w1 v want s1 f1 Kp hv1 (fun y hy=>?_) hev
          obtain⟨m1,m2⟩:=h.ok.unlock (IV (Aq hkeep n g1 _ τ t1)) s1.ok x1
          have hS:cG B N ij σ a w1:=h.go m2 m1
          have ZT:=hS.undef f1 s1.size s1.defers
          refine⟨ij,?_,?_⟩
          ·rw[Th];exact ZT.rN (d:=some dp) (fun k hk=>hpk k (by rw[Th];exact hk)) (N7 Gi hy)
          ·show Ext B γ σ.mem w ij (σ.undef g1).mem w1
           rw[ry];exact m2
         ·exact absurd t2 (by intro k;cases k)
        ·split at hn
         ·rename_i x' Kq
          obtain rfl:=Option.some.inj hn
          obtain⟨v,hv1,Gi⟩:=Option.bind_eq_some_iff.1 Kq
          refine fy Kp fun a1 f1 f2 f3=>tail γ (σ.undef g1) _ a1 w v (!want) (h.undef f1 (f2.trans h.size) (f3.trans h.defers)) f1 Wm hv1 (fun y hy=>⟨γ,?_,?_⟩) hev
          ·rw[Th];exact(h.undef f1 (f2.trans h.size) (f3.trans h.defers)).rN (d:=some dp) (fun k hk=>hpk k (by rw[Th];exact hk)) (N7 Gi hy)
          ·show Ext B γ σ.mem w γ (σ.undef g1).mem w
           rw[ry];exact Ext.refl _ _ _ _
         ·exact absurd hn (by intro k;cases k)
end
end Go.Ge
namespace Go.Ge
set_option linter.unusedVariables false
set_option linter.unusedSimpArgs false
open RowKit
section
variable {P:Program} {B:nY} {N:Nat} {γ:Gh} {σ σ':St} {a:Act} {w w':World} {cx:Ctx} {nb:Nat} {bf:List Nat} {inl:Nat→List aQ→St→Tree (aQ×St)} {ops:Array Oper}
theorem IW:∀{l:List Oper} {k:Nat},(∀j,l[j]?=ops[k+j]?)→nZ ops [] (number k l) l:=by
 intro l
 induction l with
 | nil=>intro k _;exact .nil
 | cons o l ih =>
   intro k h
   refine .cons ?_ (.inl rfl) (ih fun j=>by have:=h (j+1);simpa [Nat.add_assoc,Nat.add_comm 1 j] using this)
   have:=h 0
   simpa using this.symm
theorem MJ:∀{l:List Oper} {k i:Nat} {o:Oper},(i,o)∈number k l→o∈l:=by
 intro l
 induction l with
 | nil=>intro k i o h;cases h
 | cons p l ih =>
   intro k i o h
   rcases List.mem_cons.1 h with h|h
   ·obtain⟨_,rfl⟩:=Prod.mk.inj h;exact List.mem_cons_self ..
   ·exact List.mem_cons_of_mem _ (ih h)
theorem IX(hc:eG P cx)(dG:mC P B.G cx)(jK:sI P B.G inl)(hkeep:∀f vals σ v σ',(inl f vals σ).run=some (v,σ')→aY σ σ'){Q:Exit→Act→World→Prop}{id:Nat}
  (hd:∀o∈ops.toList,∀k,o.dst=some k→k<N) (hr:(D6 cx nb bf inl ops σ).run=some σ') (h:cG B N γ σ a w)
  (hK:∀γ' a' w',cG B N γ' σ' a' w'→Ext B γ σ.mem w γ' σ'.mem w'→Fr (number 0 ops.toList) a a'→Q .normal a' w'):(Code.region id ops false).wp P Q a w:=by
 refine wp_region_list ?_
 have:=GB (all:=ops) (Q:=Q) (rest:=[]) hc dG jK hkeep _ (IW (l:=ops.toList) (k:=0) (fun j=>by simp)) (fun g hg=>by cases hg) (fun i o hm=>hd o (MJ hm)) hr h
  (fun γ' a' w' s x f=>wpList_nil (hK γ' a' w' s x f))
 simpa using this
end
end Go.Ge
namespace Go.Ge
set_option linter.unusedVariables false
set_option linter.unusedSimpArgs false
open RowKit
def gB(p:Nat→Prop)(σ τ:St):Prop:=∀b,τ.mem b=σ.mem b∨(τ.mem b≠none∧p b)
section
variable {p:Nat→Prop} {σ τ ρ:St}
theorem gB.refl(σ:St):gB p σ σ:=fun _=>.inl rfl
theorem gB.QX(h:τ.mem=σ.mem):gB p σ τ:=fun b=>.inl (by rw[h])
theorem gB.trans(h:gB p σ τ)(k:gB p τ ρ):gB p σ ρ:=fun b=>by
 rcases k b with k1|k1
 ·rcases h b with h1|⟨h1,h2⟩
  ·exact .inl (k1.trans h1)
  ·exact .inr ⟨by rw[k1];exact h1,h2⟩
 ·exact .inr k1
theorem gB.aR(σ:St)(d:Option Nat)(v:aQ):gB p σ (σ.aR d v):=by cases d<;>exact fun _=>.inl rfl
theorem gB.put(σ:St)(d:Nat)(v:aQ):gB p σ (σ.put d v):=fun _=>.inl rfl
theorem gB.bX{b:Nat}{bx:bL}(h:p b):gB p σ (σ.bX b bx):=fun c=>by
 by_cases e:c=b
 ·subst e;exact .inr ⟨by simp[St.bX],h⟩
 ·exact .inl (by rw[rO,aM _ e])
end
def aD(p:Nat→Prop)(σ:St)(T:Tree St):Prop:=∀y,T.run=some y→gB p σ y
section
variable {p:Nat→Prop} {σ:St}
theorem aD.fail:aD p σ .fail:=fun y h=>by cases h
theorem aD.ret{σ':St}(h:gB p σ σ'):aD p σ (.ret σ'):=fun y hy=>by obtain rfl:=Option.some.inj hy;exact h
theorem aD.bif{c:Bool}{t:Tree St}(h:aD p σ t):aD p σ (bif c then t else .fail):=fun y hy=>h y (aA hy).2
theorem aD.need{c:Bool}{t:Tree St}(h:aD p σ t):aD p σ (.need c t):=fun y hy=>h y (b9 hy).2
theorem aD.look{T:Type}{o:Option T}{k:T→Tree St}(h:∀x,aD p σ (k x)):aD p σ (.look o k):=fun y hy=>by obtain⟨x,_,h2⟩:=bR hy;exact h x y h2
theorem aD.node{c:Bool}{t e:Tree St}(h:aD p σ t)(k:aD p σ e):aD p σ (.node c t e):=fun y hy=>by
 have:=eU hy
 cases c with
 | true=>exact h y this
 | false=>exact k y this
theorem aD.bind{α:Type}{t:Tree α}{f:α→Tree St}(h:∀x,t.run=some x→aD p σ (f x)):aD p σ (t.bind f):=fun y hy=>by obtain⟨x,h1,h2⟩:=bind_some hy;exact h x h1 y h2
theorem aD.aL{b:Nat}{val:aQ}{tid:TypeId}{buf:Bool}{d:Nat}{v:Nat→aQ}(h:p b):aD p σ (σ.aL b val tid buf fun ax σ=>.ret (σ.put d (v ax))):=fun y hy=>by
 obtain⟨ax,k1,k2⟩:=j8 hy
 obtain rfl:=Option.some.inj k2
 exact(gB.bX h).trans (gB.put _ _ _)
theorem EI{σ σ':St}{b:Nat}(hp:∀b,σ.mem b≠none→p b)(h:freeze σ b=some σ'):gB p σ σ':=by
 unfold freeze at h
 split at h
 ·rename_i bx hb
  cases hro:bx.ro with
  | true=>simp only[hro,cond_true,Option.some.injEq] at h;rw[←h];exact gB.refl _
  | false =>
    cases hlk:bx.lk with
    | true=>simp[hro,hlk] at h
    | false =>
      simp only[hro,hlk,cond_false,Option.some.injEq] at h
      rw[←h]
      exact gB.bX (hp b (by rw[hb];simp))
 ·cases h
def Dom(p:Nat→Prop)(σ σ':St):Prop:=(∀b,σ.mem b≠none→p b)→gB p σ σ'∧∀b,σ'.mem b≠none→p b
theorem Dom.refl(σ:St):Dom p σ σ:=fun h=>⟨gB.refl _,h⟩
theorem Dom.trans{σ τ ρ:St}(h:Dom p σ τ)(k:Dom p τ ρ):Dom p σ ρ:=fun hp=>by
 obtain⟨h1,h2⟩:=h hp
 obtain⟨k1,k2⟩:=k h2
 exact⟨h1.trans k1,k2⟩
theorem Dom.of{σ σ':St}(h:(∀b,σ.mem b≠none→p b)→gB p σ σ'):Dom p σ σ':=fun hp=>by
 refine⟨h hp,fun b hb=>?_⟩
 rcases h hp b with k|k
 ·exact hp b (by rw[←k];exact hb)
 ·exact k.2
theorem Ks:∀{v:aQ} {σ σ':St},fu σ v=some σ'→Dom p σ σ':=by
 intro v
 induction v with
 | mix p q Mn Ka =>
   intro σ σ' h
   obtain⟨σ1,h1,h2⟩:=sH h
   exact(Mn h1).trans (Ka h2)
 | whole b ax=>intro σ σ' h;exact Dom.of fun hp=>EI hp h
 | part b ax lo n=>intro σ σ' h;exact Dom.of fun hp=>EI hp h
 | _=>intro σ σ' h;obtain rfl:=Option.some.inj h;exact Dom.refl _
theorem ug{t:Ty}{x:t.den}{v:aQ}{σ σ':St}(h:vZ σ t v=some (x,σ')):Dom p σ σ':=by
 unfold vZ at h
 split at h
 ·split at h
  ·obtain⟨_,rfl⟩:=Prod.mk.inj (Option.some.inj h);exact Dom.refl _
  ·cases h
 ·split at h
  ·rename_i y σ1 hl hf
   obtain⟨_,rfl⟩:=Prod.mk.inj (Option.some.inj h)
   exact Ks hf
  ·cases h
theorem wI:∀{A:Ty} {x:A.den} {vs:List aQ} {σ σ':St},iZ σ A vs=some (x,σ')→Dom p σ σ':=by
 intro A
 induction A with
 | pair t r D3 ihr =>
   intro x vs σ σ' hl
   cases vs with
   | nil=>cases hl
   | cons v vs =>
     simp only[iZ] at hl
     split at hl
     ·rename_i p σ1 hp
      split at hl
      ·rename_i q σ2 hq
       obtain⟨_,rfl⟩:=Prod.mk.inj (Option.some.inj hl)
       exact(ug hp).trans (ihr hq)
      ·cases hl
     ·cases hl
 | unit =>
   intro x vs σ σ' hl
   cases vs with
   | nil=>obtain⟨_,rfl⟩:=Prod.mk.inj (Option.some.inj hl);exact Dom.refl _
   | cons v vs=>cases hl
 | _=>intro x vs σ σ' hl;cases vs<;>cases hl
theorem EJ{t:Ty}:∀{parts:List (Nat×Operand)} {x x':t.den} {σ σ':St},eY σ t x parts=some (x',σ')→Dom p σ σ':=by
 intro parts
 induction parts with
 | nil=>intro x x' σ σ' h;obtain⟨_,rfl⟩:=Prod.mk.inj (Option.some.inj h);exact Dom.refl _
 | cons p r ih =>
   obtain⟨k,o⟩:=p
   intro x x' σ σ' h
   simp only[eY] at h
   split at h
   ·split at h
    ·rename_i hg
     split at h
     ·exact(ug hg).trans (ih h)
     ·cases h
    ·cases h
   ·cases h
theorem yx{e:Ty}:∀{parts:List (Nat×Operand)} {l l':List e.den} {σ σ':St},eT σ e l parts=some (l',σ')→Dom p σ σ':=by
 intro parts
 induction parts with
 | nil=>intro x x' σ σ' h;obtain⟨_,rfl⟩:=Prod.mk.inj (Option.some.inj h);exact Dom.refl _
 | cons p r ih =>
   obtain⟨k,o⟩:=p
   intro l l' σ σ' h
   simp only[eT] at h
   split at h
   ·rename_i hg
    cases hlt:Nat.blt k l.length with
    | false=>rw[hlt] at h;cases h
    | true=>rw[hlt] at h;exact(ug hg).trans (ih h)
   ·cases h
theorem Cy{b ax:Nat}{p':List Ci}{fit:aQ→Bool}{u:aQ}{σ σ':St}(hr:(storeAt b ax p' fit u σ).run=some σ'):Dom p σ σ':=Dom.of fun hp=>by
 unfold storeAt at hr
 split at hr
 case h_2=>exact absurd hr (by intro k;cases k)
 rename_i bx hb
 obtain⟨hc,hr2⟩:=aA hr
 obtain⟨old,hn,iR⟩:=bind_some hr2
 obtain⟨hfit,qM⟩:=aA iR
 obtain⟨c,hs,Mq⟩:=bind_some qM
 obtain rfl:=Option.some.inj Mq
 exact gB.bX (hp b (by rw[hb];simp))
theorem GC{cx:Ctx}{ty:TypeId}{x y:aQ}{σ σ':St}(hr:(jz cx ty x y σ).run=some σ'):Dom p σ σ':=by
 unfold jz at hr
 split at hr
 case h_2=>exact absurd hr (by intro k;cases k)
 split at hr
 case h_2=>exact absurd hr (by intro k;cases k)
 obtain⟨aZ,hr2⟩:=aA hr
 obtain⟨old,hn,iR⟩:=bind_some hr2
 split at iR
 ·obtain⟨hT,qM⟩:=aA iR
  split at qM
  ·rename_i hg;exact(ug hg).trans (Cy qM)
  ·exact absurd qM (by intro k;cases k)
 ·obtain⟨hT,qM⟩:=aA iR
  exact Cy qM
theorem wJ{cx:Ctx}{nb:Nat}{d:Option Nat}{ty:TypeId}{s x:aQ}{σ σ':St}(hn:∀k,d=some k→p (nb+k))(hp:∀b,σ.mem b≠none→p b)(hr:(fP cx nb d ty s x σ).run=some σ'):gB p σ σ':=by
 unfold fP at hr
 split at hr
 case h_2=>exact absurd hr (by intro k;cases k)
 split at hr
 case h_2=>exact absurd hr (by intro k;cases k)
 split at hr
 ·obtain⟨hf,hr2⟩:=b9 hr
  exact aD.aL (hn _ rfl) _ hr2
 ·split at hr
  case h_2=>exact absurd hr (by intro k;cases k)
  rename_i bx l hb hl
  obtain⟨hlk,jl⟩:=uR hr
  obtain⟨hf,hr2⟩:=b9 jl
  obtain rfl:=Option.some.inj hr2
  exact(gB.bX (hp _ (by rw[hb];simp))).trans (gB.put _ _ _)
 ·exact absurd hr (by intro k;cases k)
theorem MK{b:Nat}{val:aQ}{tid:TypeId}{buf:Bool}{d:Nat}{v:Nat→aQ}{σ σ':St}(h:p b)(hr:(σ.aL b val tid buf fun ax σ=>.ret (σ.put d (v ax))).run=some σ'):gB p σ σ':=aD.aL h _ hr
theorem GD{nb:Nat}{e:Ty}{d:Option Nat}{args:List aQ}{σ σ':St}(hn:∀k,d=some k→p (nb+k))(hp:∀b,σ.mem b≠none→p b)(hr:(jC nb e d args σ).run=some σ'):gB p σ σ':=by
 unfold jC at hr
 split at hr
 case h_2=>cases hr
 split at hr
 case h_2=>cases hr
 rename_i hg
 obtain⟨_,hr⟩:=aA hr
 obtain⟨_,hr⟩:=b9 hr
 exact((ug hg) hp).1.trans (MK (hn _ rfl) hr)
theorem Kt{e A:Ty}{res:Bool}{spec:List e.den→A.den→Option (List e.den)}{d:Option Nat}{args:List aQ}{σ σ':St}(hp:∀b,σ.mem b≠none→p b)(hr:(oV e A res spec d args σ).run=some σ'):gB p σ σ':=by
 unfold oV at hr
 split at hr
 case h_2=>cases hr
 split at hr
 case h_2=>cases hr
 rename_i x σ1 hg
 split at hr
 case h_2=>cases hr
 rename_i b ax bx l Ue
 obtain⟨l',_,hr⟩:=bR hr
 obtain⟨hb,_⟩:=pT Ue
 obtain⟨g1,g2⟩:=(wI hg) hp
 have key:∀fJ,gB p σ1 (σ1.bX b fJ):=fun fJ=>gB.bX (g2 b (by rw[hb];simp))
 cases res with
 | true =>
   cases d with
   | none=>cases hr
   | some k=>obtain rfl:=Option.some.inj hr;exact(g1.trans (key _)).trans (gB.put _ _ _)
 | false =>
   cases d with
   | none=>obtain⟨_,hr⟩:=aA hr;obtain rfl:=Option.some.inj hr;exact(g1.trans (key _)).trans (gB.aR _ none _)
   | some k=>obtain⟨_,hr⟩:=aA hr;obtain rfl:=Option.some.inj hr;exact(g1.trans (key _)).trans (gB.aR _ (some _) _)
end
section
variable {cx:Ctx} {nb:Nat} {bf:List Nat} {d:Option Nat} {σ:St} {p:Nat→Prop}
theorem IY{c a b:aQ}:aD p σ (lA d c a b σ):=by unfold lA;(repeat' (first|exact aD.fail|exact aD.ret (gB.aR _ _ _)|exact aD.ret (gB.put _ _ _)|exact aD.aL (by assumption)|refine aD.bif ?_|refine aD.need ?_|refine aD.look fun _=>?_|refine aD.node ?_ ?_|refine aD.bind fun _ _=>?_|split))
theorem IZ{ty:TypeId}{a:aQ}:aD p σ (jk cx d ty a σ):=by unfold jk;(repeat' (first|exact aD.fail|exact aD.ret (gB.aR _ _ _)|exact aD.ret (gB.put _ _ _)|exact aD.aL (by assumption)|refine aD.bif ?_|refine aD.need ?_|refine aD.look fun _=>?_|refine aD.node ?_ ?_|refine aD.bind fun _ _=>?_|split))
theorem GF{ty:TypeId}{x:aQ}{lo hi:Option Operand}:aD p σ (jA cx d ty x lo hi σ):=by unfold jA;(repeat' (first|exact aD.fail|exact aD.ret (gB.aR _ _ _)|exact aD.ret (gB.put _ _ _)|exact aD.aL (by assumption)|refine aD.bif ?_|refine aD.need ?_|refine aD.look fun _=>?_|refine aD.node ?_ ?_|refine aD.bind fun _ _=>?_|split))
theorem O1{b ax:Nat}{i:Int}:∀{m k:Nat},aD p σ (D5 d b ax σ i m k):=by
 intro m
 induction m with
 | zero=>intro k;exact aD.fail
 | succ m ih=>intro k;exact aD.node (aD.ret (gB.aR _ _ _)) ih
theorem As{ty:TypeId}{x:aQ}{i:Int}:aD p σ (dU cx d ty x i σ):=by
 unfold dU
 split
 case h_6=>split
           ·exact aD.bif O1
           ·exact aD.fail
 all_goals (repeat' (first|exact aD.fail|exact aD.ret (gB.aR _ _ _)|exact aD.ret (gB.put _ _ _)|exact aD.aL (by assumption)|refine aD.bif ?_|refine aD.need ?_|refine aD.look fun _=>?_|refine aD.node ?_ ?_|refine aD.bind fun _ _=>?_|split))
theorem GG{ty:TypeId}{x:aQ}{i:Int}:aD p σ (jB cx d ty x i σ):=by unfold jB;(repeat' (first|exact aD.fail|exact aD.ret (gB.aR _ _ _)|exact aD.ret (gB.put _ _ _)|exact aD.aL (by assumption)|refine aD.bif ?_|refine aD.need ?_|refine aD.look fun _=>?_|refine aD.node ?_ ?_|refine aD.bind fun _ _=>?_|split))
theorem At{s:TypeId}{x:aQ}{k:Nat}:aD p σ (dV cx d s x k σ):=by unfold dV;(repeat' (first|exact aD.fail|exact aD.ret (gB.aR _ _ _)|exact aD.ret (gB.put _ _ _)|exact aD.aL (by assumption)|refine aD.bif ?_|refine aD.need ?_|refine aD.look fun _=>?_|refine aD.node ?_ ?_|refine aD.bind fun _ _=>?_|split))
theorem wK{ty:TypeId}{v:aQ}(hn:∀k,d=some k→p (nb+k)):aD p σ (gS cx nb bf d ty v σ):=by
 unfold gS
 split
 ·(repeat' (first|exact aD.fail|exact aD.ret (gB.aR _ _ _)|exact aD.ret (gB.put _ _ _)|exact aD.aL (by assumption)|refine aD.bif ?_|refine aD.need ?_|refine aD.look fun _=>?_|refine aD.node ?_ ?_|refine aD.bind fun _ _=>?_|split))
 ·split
  ·rename_i k e _
   cases cT bf k with
   | true=>exact aD.aL (hn _ rfl)
   | false=>exact aD.ret (gB.put _ _ _)
  ·exact aD.ret (gB.aR _ _ _)
 ·exact aD.ret (gB.aR _ _ _)
theorem Dt{s t:TypeId}{x:aQ}(hn:∀k,d=some k→p (nb+k)):aD p σ (fI cx nb d s t x σ):=by
 unfold fI
 split
 ·(repeat' (first|exact aD.fail|exact aD.ret (gB.aR _ _ _)|exact aD.ret (gB.put _ _ _)|exact aD.aL (by assumption)|refine aD.bif ?_|refine aD.need ?_|refine aD.look fun _=>?_|refine aD.node ?_ ?_|refine aD.bind fun _ _=>?_|split))
 ·(repeat' (first|exact aD.fail|exact aD.ret (gB.aR _ _ _)|exact aD.ret (gB.put _ _ _)|exact aD.aL (by assumption)|refine aD.bif ?_|refine aD.need ?_|refine aD.look fun _=>?_|refine aD.node ?_ ?_|refine aD.bind fun _ _=>?_|split))
 ·split
  ·exact aD.need (aD.aL (hn _ rfl))
  ·exact aD.fail
 ·(repeat' (first|exact aD.fail|exact aD.ret (gB.aR _ _ _)|exact aD.ret (gB.put _ _ _)|exact aD.aL (by assumption)|refine aD.bif ?_|refine aD.need ?_|refine aD.look fun _=>?_|refine aD.node ?_ ?_|refine aD.bind fun _ _=>?_|split))
 ·(repeat' (first|exact aD.fail|exact aD.ret (gB.aR _ _ _)|exact aD.ret (gB.put _ _ _)|exact aD.aL (by assumption)|refine aD.bif ?_|refine aD.need ?_|refine aD.look fun _=>?_|refine aD.node ?_ ?_|refine aD.bind fun _ _=>?_|split))
theorem ML{o:Oper}{ge:Option Nat}(hge:lB o σ=ge)(h3:cls cx ge o≠3)(hn:cls cx ge o≠0→∀k,o.dst=some k→p (nb+k))(hp:cls cx ge o≠0→cls cx ge o≠1→∀b,σ.mem b≠none→p b):aD p σ (mW cx nb bf we o σ):=by
 unfold mW
 split
 case h_1 x ho=>exact wK (hn (by simp[cls,ho]))
 case h_2 x ho=>exact wK (hn (by simp[cls,ho]))
 case h_3=>exact IY
 case h_4 e ho =>
  split
  ·rename_i k t hk hT
   have h0:cls cx ge o≠0:=by
    cases t<;>simp[cls,ho,hT]
   unfold rq
   split
   ·exact absurd (by simp[cls,ho,hT]) h3
   ·exact aD.aL (hn h0 _ (by assumption))
  ·rename_i hT
   split
   ·rename_i hO
    exact absurd (by simp[cls,ho,hT,hO]) h3
   ·rename_i hO
    exact aD.bif (aD.aL (hn (by simp[cls,ho,hT,hO]) _ (by assumption)))
  ·exact aD.fail
 case h_5 e x ho =>
  unfold zQ
  split
  ·exact aD.fail
  ·exact aD.fail
  ·split
   ·rename_i hO
    exact absurd (by simp[cls,ho,hO]) h3
   ·rename_i hO
    exact aD.aL (hn (by simp[cls,ho,hO]) _ (by assumption))
  ·exact aD.fail
 case h_6 t ps ho =>
  have hp':=hp (by simp[cls,ho]) (by simp[cls,ho])
  split
  ·split
   ·rename_i hb;exact aD.ret ((EJ hb hp').1.trans (gB.aR _ _ _))
   ·exact aD.fail
  ·split
   ·rename_i hb;exact aD.ret ((yx hb hp').1.trans (gB.aR _ _ _))
   ·exact aD.fail
  ·(repeat' (first|exact aD.fail|exact aD.ret (gB.aR _ _ _)|exact aD.ret (gB.put _ _ _)|exact aD.aL (by assumption)|refine aD.bif ?_|refine aD.need ?_|refine aD.look fun _=>?_|refine aD.node ?_ ?_|refine aD.bind fun _ _=>?_|split))
  ·exact aD.fail
 case h_7 t n ps ho =>
  have hp':=hp (by simp[cls,ho]) (by simp[cls,ho])
  split
  ·split
   ·rename_i k bF hparts
    exact aD.aL (hn (by simp[cls,ho]) k (zh bF).1)
   ·refine aD.bif ?_
    split
    ·rename_i hb;exact aD.ret ((yx hb hp').1.trans (gB.aR _ _ _))
    ·exact aD.fail
  ·unfold xI
   split
   ·exact aD.bif (aD.aL (hn (by simp[cls,ho]) _ (by assumption)))
   ·exact aD.fail
  ·exact aD.fail
 case h_8=>exact IZ
 case h_9 t a x ho =>
  have hp':=hp (by simp[cls,ho]) (by simp[cls,ho])
  split
  ·exact fun y hy=>(GC hy hp').1
  ·exact aD.fail
 case h_10=>(repeat' (first|exact aD.fail|exact aD.ret (gB.aR _ _ _)|exact aD.ret (gB.put _ _ _)|exact aD.aL (by assumption)|refine aD.bif ?_|refine aD.need ?_|refine aD.look fun _=>?_|refine aD.node ?_ ?_|refine aD.bind fun _ _=>?_|split))
 case h_11=>(repeat' (first|exact aD.fail|exact aD.ret (gB.aR _ _ _)|exact aD.ret (gB.put _ _ _)|exact aD.aL (by assumption)|refine aD.bif ?_|refine aD.need ?_|refine aD.look fun _=>?_|refine aD.node ?_ ?_|refine aD.bind fun _ _=>?_|split))
 case h_12=>(repeat' (first|exact aD.fail|exact aD.ret (gB.aR _ _ _)|exact aD.ret (gB.put _ _ _)|exact aD.aL (by assumption)|refine aD.bif ?_|refine aD.need ?_|refine aD.look fun _=>?_|refine aD.node ?_ ?_|refine aD.bind fun _ _=>?_|split))
 case h_13 s t x ho=>exact Dt (hn (by simp[cls,ho]))
 case h_14=>(repeat' (first|exact aD.fail|exact aD.ret (gB.aR _ _ _)|exact aD.ret (gB.put _ _ _)|exact aD.aL (by assumption)|refine aD.bif ?_|refine aD.need ?_|refine aD.look fun _=>?_|refine aD.node ?_ ?_|refine aD.bind fun _ _=>?_|split))
 case h_15=>exact GF
 case h_16=>exact At
 case h_17=>(repeat' (first|exact aD.fail|exact aD.ret (gB.aR _ _ _)|exact aD.ret (gB.put _ _ _)|exact aD.aL (by assumption)|refine aD.bif ?_|refine aD.need ?_|refine aD.look fun _=>?_|refine aD.node ?_ ?_|refine aD.bind fun _ _=>?_|split))
 case h_18=>split
            ·exact As
            ·exact aD.fail
 case h_19=>split
            ·exact GG
            ·exact aD.fail
 case h_20 t l c ho =>
  split
  ·exact aD.need (aD.need (aD.aL (hn (by simp[cls,ho]) _ (by assumption))))
  ·exact aD.fail
 case h_21=>(repeat' (first|exact aD.fail|exact aD.ret (gB.aR _ _ _)|exact aD.ret (gB.put _ _ _)|exact aD.aL (by assumption)|refine aD.bif ?_|refine aD.need ?_|refine aD.look fun _=>?_|refine aD.node ?_ ?_|refine aD.bind fun _ _=>?_|split))
 case h_22 c ho =>
  unfold rJ
  split
  ·rename_i b hb
   split
   ·(repeat' (first|exact aD.fail|exact aD.ret (gB.aR _ _ _)|exact aD.ret (gB.put _ _ _)|exact aD.aL (by assumption)|refine aD.bif ?_|refine aD.need ?_|refine aD.look fun _=>?_|refine aD.node ?_ ?_|refine aD.bind fun _ _=>?_|split))
   ·have h1:cls cx ge o≠0:=by simp[cls,ho,hb]
    have h2:cls cx ge o≠1:=by simp[cls,ho,hb]
    split
    ·exact fun y hy=>wJ (hn h1) (hp h1 h2) hy
    ·exact fun y hy=>wJ (hn h1) (hp h1 h2) hy
    ·exact aD.fail
   ·exact absurd (by simp[cls,ho,hb]) h3
   ·exact absurd (by simp[cls,ho,hb]) h3
   ·(repeat' (first|exact aD.fail|exact aD.ret (gB.aR _ _ _)|exact aD.ret (gB.put _ _ _)|exact aD.aL (by assumption)|refine aD.bif ?_|refine aD.need ?_|refine aD.look fun _=>?_|refine aD.node ?_ ?_|refine aD.bind fun _ _=>?_|split))
   ·(repeat' (first|exact aD.fail|exact aD.ret (gB.aR _ _ _)|exact aD.ret (gB.put _ _ _)|exact aD.aL (by assumption)|refine aD.bif ?_|refine aD.need ?_|refine aD.look fun _=>?_|refine aD.node ?_ ?_|refine aD.bind fun _ _=>?_|split))
   ·exact aD.fail
  ·rename_i f hf
   split
   ·rename_i g caps hop
    refine aD.bif ?_
    have heq:ge=some g:=by rw[←hge];simp[lB,ho,hf,hop]
    unfold qK
    split
    ·rename_i e he
     have key:cls cx ge o=2:=by simp[cls,ho,hf,heq,sK he]
     have h1:cls cx ge o≠0:=by rw[key];simp
     have h2:cls cx ge o≠1:=by rw[key];simp
     exact fun y hy=>GD (hn h1) (hp h1 h2) hy
    ·rename_i e A r s he
     have key:cls cx ge o=2:=by simp[cls,ho,hf,heq,sK he]
     have h1:cls cx ge o≠0:=by rw[key];simp
     have h2:cls cx ge o≠1:=by rw[key];simp
     exact fun y hy=>Kt (hp h1 h2) hy
    rename_i ZU ZV
    unfold s9
    split
    ·rename_i cF dG
     split
     ·split
      ·exact aD.look fun _=>aD.ret (gB.aR _ _ _)
      ·exact aD.fail
     ·rename_i hfl
      have key:cls cx ge o=2:=by
       unfold cls
       simp only[ho,hf,heq]
       split
       ·rfl
       ·rfl
       ·simp[dG,hfl]
      have h1:cls cx ge o≠0:=by rw[key];simp
      have h2:cls cx ge o≠1:=by rw[key];simp
      split
      ·rename_i hx
       exact aD.look fun _=>aD.ret ((wI hx (hp h1 h2)).1.trans (gB.aR _ _ _))
      ·exact aD.fail
    ·rename_i dG
     split
     ·rename_i s Ku
      unfold xH
      split
      ·exact absurd (by simp[cls,ho,hf,heq,dG,Ku]) h3
      ·exact absurd (by simp[cls,ho,hf,heq,dG,Ku]) h3
      ·exact aD.fail
     ·rename_i Ku
      exact absurd (by simp[cls,ho,hf,heq,dG,Ku]) h3
   ·exact aD.fail
  ·rename_i r name hf
   have key:cls cx ge o=2:=by simp[cls,ho,hf]
   have h1:cls cx ge o≠0:=by rw[key];simp
   have h2:cls cx ge o≠1:=by rw[key];simp
   unfold oC
   split
   ·split
    ·rename_i hx
     exact aD.look fun _=>aD.ret ((wI hx (hp h1 h2)).1.trans (gB.aR _ _ _))
    ·exact aD.fail
   ·exact aD.fail
 case h_23 u x ho =>
  have key:cls cx ge o=2:=by simp[cls,ho]
  have h1:cls cx ge o≠0:=by rw[key];simp
  have h2:cls cx ge o≠1:=by rw[key];simp
  unfold oB
  split
  ·split
   ·split
    ·rename_i hx
     exact aD.ret ((ug hx (hp h1 h2)).1.trans (gB.aR _ _ _))
    ·exact aD.fail
   ·exact aD.fail
  ·exact aD.fail
 case h_24=>exact aD.fail
end
end Go.Ge
namespace Go.Ge
set_option linter.unusedVariables false
set_option linter.unusedSimpArgs false
open RowKit
def Le(σ1 σ2:St):Prop:=∀b bx,σ1.mem b=some bx→σ2.mem b=some bx
structure Rel (σ1 σ2 mE mh:St):Prop where
 s1:mE.slots=σ1.slots
 s2:mh.slots=σ2.slots
 m:∀b,mh.mem b=match mE.mem b with|some x=>some x|none=>σ2.mem b
 nv:∀b,mE.mem b=none→σ1.mem b=none
section
variable {σ1 σ2 mE mh Uj VN:St}
theorem Rel.refl(h:Le σ1 σ2):Rel σ1 σ2 σ1 σ2 where
 s1:=rfl
 s2:=rfl
 m:=fun b=>by
  cases hb:σ1.mem b with
  | none=>rfl
  | some x=>exact h b x hb
 nv:=fun _ h=>h
theorem Rel.le(h:Rel σ1 σ2 mE mh):Le mE mh:=fun b bx hb=>by rw[h.m,hb]
theorem Rel.trans(h:Rel σ1 σ2 mE mh)(k:Rel mE mh Uj VN):Rel σ1 σ2 Uj VN where
 s1:=k.s1.trans h.s1
 s2:=k.s2.trans h.s2
 m:=fun b=>by
  rw[k.m b]
  cases hb:Uj.mem b with
  | some x=>rfl
  | none=>simp only;rw[h.m b,k.nv b hb]
 nv:=fun b hb=>h.nv b (k.nv b hb)
theorem Rel.bX(hle:Le σ1 σ2){b:Nat}{bx:bL}:Rel σ1 σ2 (σ1.bX b bx) (σ2.bX b bx) where
 s1:=rfl
 s2:=rfl
 m:=fun c=>by
  by_cases e:c=b
  ·subst e;simp[St.bX]
  ·rw[rO,rO,aM _ e,aM _ e]
   exact(Rel.refl hle).m c
 nv:=fun c hc=>by
  by_cases e:c=b
  ·subst e;simp[St.bX] at hc
  ·rw[rO,aM _ e] at hc;exact hc
theorem xN{σ τ:St}(h:τ.slots=σ.slots)(x:Operand):cq τ x=cq σ x:=by
 cases x<;>simp[cq,h]
theorem xO(h:Le σ1 σ2){e:Ty}{v:aQ}{l:List e.den}(hl:eX e σ1 v=some l):eX e σ2 v=some l:=by
 unfold eX at hl⊢
 cases v with
 | whole b ax =>
   simp only at hl⊢
   cases hb:σ1.mem b with
   | none=>rw[hb] at hl;cases hl
   | some bx=>rw[hb] at hl;rw[h b bx hb];exact hl
 | part b ax lo n =>
   simp only at hl⊢
   cases hb:σ1.mem b with
   | none=>rw[hb] at hl;cases hl
   | some bx=>rw[hb] at hl;rw[h b bx hb];exact hl
 | data u y=>cases u<;>exact hl
 | _=>exact hl
theorem N8(h:Le σ1 σ2):∀{t:Ty} {v:aQ} {x:t.den},nW σ1 t v=some x→nW σ2 t v=some x:=by
 intro t
 induction t with
 | slice e ih=>intro v x hl;exact xO h hl
 | pair a b iQ kX =>
   intro v x hl
   cases v with
   | mix p q =>
     obtain⟨y,z,h1,h2,rfl⟩:=Ad hl
     exact Hu (iQ h1) (kX h2)
   | data u y=>exact hl
   | _=>cases hl
 | alt u a r iQ ihr =>
   intro v x hl
   cases v with
   | pN=>exact(mB hl).2.1 _
   | _=>exact hl
 | _=>intro v x hl;cases v<;>exact hl
theorem pe(h:Le σ1 σ2){b ax:Nat}(hl:live σ1 b ax=true):live σ2 b ax=true:=by
 unfold live at hl⊢
 cases hb:σ1.mem b with
 | none=>rw[hb] at hl;cases hl
 | some bx=>rw[hb] at hl;rw[h b bx hb];exact hl
theorem QZ(h:Le σ1 σ2){v:aQ}{n:Int}(hl:lenOf σ1 v=some n):lenOf σ2 v=some n:=by
 unfold lenOf at hl⊢
 cases v with
 | whole b ax =>
   simp only at hl⊢
   cases hb:σ1.mem b with
   | none=>rw[hb] at hl;cases hl
   | some bx=>rw[hb] at hl;rw[h b bx hb];exact hl
 | part b ax lo n' =>
   simp only at hl⊢
   cases hv:live σ1 b ax with
   | false=>rw[hv] at hl;cases hl
   | true=>rw[hv] at hl;rw[pe h hv];exact hl
 | data u y=>cases u<;>exact hl
 | _=>exact hl
theorem O2(h:Le σ1 σ2){e:Ty}{v:aQ}{l:List e.den}(hl:rI e σ1 v=some l):rI e σ2 v=some l:=by
 unfold rI at hl⊢
 split at hl
 ·exact hl
 ·exact xO h hl
theorem EK(h:Le σ1 σ2){b ax:Nat}{r:Ty×Int}(hl:uH σ1 b ax=some r):uH σ2 b ax=some r:=by
 unfold uH at hl⊢
 cases hb:σ1.mem b with
 | none=>rw[hb] at hl;cases hl
 | some bx=>rw[hb] at hl;rw[h b bx hb];exact hl
theorem Hy(h:Le σ1 σ2){b:Nat}(hf:freeze σ1 b=some mE):∃mh,freeze σ2 b=some mh∧Rel σ1 σ2 mE mh:=by
 unfold freeze at hf⊢
 cases hb:σ1.mem b with
 | none=>rw[hb] at hf;cases hf
 | some bx =>
   rw[hb] at hf
   rw[h b bx hb]
   simp only at hf⊢
   cases hro:bx.ro with
   | true =>
     simp only[hro,cond_true,Option.some.injEq] at hf⊢
     subst hf
     exact⟨_,rfl,Rel.refl h⟩
   | false =>
     cases hlk:bx.lk with
     | true=>simp[hro,hlk] at hf
     | false =>
       simp only[hro,hlk,cond_false,Option.some.injEq] at hf⊢
       subst hf
       exact⟨_,rfl,Rel.bX h⟩
theorem MM:∀{v:aQ} {σ1 σ2 mE:St},Le σ1 σ2→fu σ1 v=some mE→∃mh,fu σ2 v=some mh∧Rel σ1 σ2 mE mh:=by
 intro v
 induction v with
 | mix p q Mn Ka =>
   intro σ1 σ2 mE h hf
   obtain⟨Uj,h1,h2⟩:=sH hf
   obtain⟨VN,k1,k2⟩:=Mn h h1
   obtain⟨mh,k3,k4⟩:=Ka k2.le h2
   exact⟨mh,by simp only[fu,k1,k3],k2.trans k4⟩
 | whole b ax=>intro σ1 σ2 mE h hf;exact Hy h hf
 | part b ax lo n=>intro σ1 σ2 mE h hf;exact Hy h hf
 | _=>intro σ1 σ2 mE h hf;obtain rfl:=Option.some.inj hf;exact⟨_,rfl,Rel.refl h⟩
theorem xP(h:Le σ1 σ2){t:Ty}{x:t.den}{v:aQ}(hg:vZ σ1 t v=some (x,mE)):∃mh,vZ σ2 t v=some (x,mh)∧Rel σ1 σ2 mE mh:=by
 unfold vZ at hg⊢
 cases v with
 | data u y =>
   simp only at hg⊢
   split at hg
   ·rename_i z hz
    obtain⟨rfl,rfl⟩:=Prod.mk.inj (Option.some.inj hg)
    exact⟨_,rfl,Rel.refl h⟩
   ·cases hg
 | _ =>
   simp only at hg⊢
   split at hg
   ·rename_i y Uj hl hf
    obtain⟨rfl,rfl⟩:=Prod.mk.inj (Option.some.inj hg)
    obtain⟨mh,k1,k2⟩:=MM h hf
    rw[N8 h hl,k1]
    exact⟨mh,rfl,k2⟩
   ·cases hg
theorem zk:∀{A:Ty} {x:A.den} {vs:List aQ} {σ1 σ2 mE:St},Le σ1 σ2→iZ σ1 A vs=some (x,mE)→∃mh,iZ σ2 A vs=some (x,mh)∧Rel σ1 σ2 mE mh:=by
 intro A
 induction A with
 | pair t r D3 ihr =>
   intro x vs σ1 σ2 mE h hl
   cases vs with
   | nil=>cases hl
   | cons v vs =>
     simp only[iZ] at hl⊢
     split at hl
     ·rename_i p Uj hp
      obtain⟨VN,k1,k2⟩:=xP h hp
      split at hl
      ·rename_i q ZW hq
       obtain⟨rfl,rfl⟩:=Prod.mk.inj (Option.some.inj hl)
       obtain⟨mh,k3,k4⟩:=ihr k2.le hq
       exact⟨mh,by simp only[k1,k3],k2.trans k4⟩
      ·cases hl
     ·cases hl
 | unit =>
   intro x vs σ1 σ2 mE h hl
   cases vs with
   | nil=>obtain⟨rfl,rfl⟩:=Prod.mk.inj (Option.some.inj hl);exact⟨_,rfl,Rel.refl h⟩
   | cons v vs=>cases hl
 | _=>intro x vs σ1 σ2 mE h hl;cases vs<;>cases hl
theorem GH{t:Ty}:∀{parts:List (Nat×Operand)} {x x':t.den} {σ1 σ2 mE:St},Le σ1 σ2→(∀o∈parts.map (·.2),cq σ1 o=cq σ2 o)→eY σ1 t x parts=some (x',mE) →
  ∃mh,eY σ2 t x parts=some (x',mh)∧Rel σ1 σ2 mE mh:=by
 intro parts
 induction parts with
 | nil=>intro x x' σ1 σ2 mE h ho hl;obtain⟨rfl,rfl⟩:=Prod.mk.inj (Option.some.inj hl);exact⟨_,rfl,Rel.refl h⟩
 | cons p r ih =>
   obtain⟨k,o⟩:=p
   intro x x' σ1 σ2 mE h ho hl
   have h0:cq σ1 o=cq σ2 o:=ho o (by simp)
   simp only[eY] at hl⊢
   split at hl
   ·rename_i u hu
    split at hl
    ·rename_i y Uj hg
     rw[h0] at hg
     obtain⟨VN,k1,k2⟩:=xP h hg
     split at hl
     ·rename_i z hz
      obtain⟨mh,k3,k4⟩:=ih k2.le (fun o' ho'=>by rw[xN k2.s1,xN k2.s2];exact ho o' (by simp at ho'⊢;exact .inr ho')) hl
      exact⟨mh,by simp only[k1,hz,k3],k2.trans k4⟩
     ·cases hl
    ·cases hl
   ·cases hl
theorem Au{e:Ty}:∀{parts:List (Nat×Operand)} {l l':List e.den} {σ1 σ2 mE:St},Le σ1 σ2→(∀o∈parts.map (·.2),cq σ1 o=cq σ2 o)→eT σ1 e l parts=some (l',mE) →
  ∃mh,eT σ2 e l parts=some (l',mh)∧Rel σ1 σ2 mE mh:=by
 intro parts
 induction parts with
 | nil=>intro x x' σ1 σ2 mE h ho hl;obtain⟨rfl,rfl⟩:=Prod.mk.inj (Option.some.inj hl);exact⟨_,rfl,Rel.refl h⟩
 | cons p r ih =>
   obtain⟨k,o⟩:=p
   intro l l' σ1 σ2 mE h ho hl
   have h0:cq σ1 o=cq σ2 o:=ho o (by simp)
   simp only[eT] at hl⊢
   split at hl
   ·rename_i y Uj hg
    rw[h0] at hg
    obtain⟨VN,k1,k2⟩:=xP h hg
    cases hlt:Nat.blt k l.length with
    | false=>rw[hlt] at hl;cases hl
    | true =>
      rw[hlt] at hl
      obtain⟨mh,k3,k4⟩:=ih k2.le (fun o' ho'=>by rw[xN k2.s1,xN k2.s2];exact ho o' (by simp at ho'⊢;exact .inr ho')) hl
      exact⟨mh,by simp only[k1,cond_true,k3],k2.trans k4⟩
   ·cases hl
def lift(σ2:St)(d:Option Nat)(y:St):St :=
 { slots:=match d with|some d=>fun t=>bif Nat.beq t d then y.slots d else σ2.slots t|none=>σ2.slots
   mem:=fun b=>match y.mem b with|some x=>some x|none=>σ2.mem b }
theorem O3(R:Rel σ1 σ2 mE mh)(d:Option Nat)(v:aQ):lift σ2 d (mE.aR d v)=mh.aR d v:=by
 have hm:(fun b=>match mE.mem b with|some x=>some x|none=>σ2.mem b)=mh.mem:=funext fun b=>(R.m b).symm
 cases d with
 | none=>simp only[lift,St.aR,hm,←R.s2]
 | some d =>
   simp only[lift,St.aR,St.put,hm,←R.s2]
   congr 1
   funext t
   cases hb:Nat.beq t d with
   | true=>simp
   | false=>simp
def LT(σ2:St)(d:Option Nat)(T1 T2:Tree St):Prop:=∀y,T1.run=some y→T2.run=some (lift σ2 d y)
variable {d:Option Nat}
theorem LT.fail{T:Tree St}:LT σ2 d .fail T:=fun y h=>by cases h
theorem LT.ret(R:Rel σ1 σ2 mE mh){v:aQ}:LT σ2 d (.ret (mE.aR d v)) (.ret (mh.aR d v)):=fun y h=>by
 obtain rfl:=Option.some.inj h
 rw[O3 R];rfl
theorem LT.MN(R:Rel σ1 σ2 mE mh){k:Nat}{v:aQ}:LT σ2 (some k) (.ret (mE.put k v)) (.ret (mh.put k v)):=LT.ret (d:=some k) R
theorem LT.store(R:Rel σ1 σ2 mE mh):LT σ2 none (.ret mE) (.ret mh):=LT.ret (d:=none) (v:=.undef) R
theorem LT.bif{c:Bool}{t u:Tree St}(h:LT σ2 d t u):LT σ2 d (bif c then t else .fail) (bif c then u else .fail):=by cases c<;>first|exact LT.fail|exact h
theorem LT.MO{c c':Bool}{t u:Tree St}(hc:c=true→c'=true)(h:LT σ2 d t u):LT σ2 d (bif c then t else .fail) (bif c' then u else .fail):=by
 cases c with
 | false=>exact LT.fail
 | true=>rw[hc rfl];exact h
theorem LT.need{c:Bool}{t u:Tree St}(h:LT σ2 d t u):LT σ2 d (.need c t) (.need c u):=fun y hy=>by
 obtain⟨rfl,h2⟩:=b9 hy
 exact h y h2
theorem LT.look{T:Type}{o:Option T}{k k':T→Tree St}(h:∀x,LT σ2 d (k x) (k' x)):LT σ2 d (.look o k) (.look o k'):=fun y hy=>by
 obtain⟨x,rfl,h2⟩:=bR hy
 exact h x y h2
theorem LT.node{c:Bool}{t e t' e':Tree St}(h:LT σ2 d t t')(k:LT σ2 d e e'):LT σ2 d (.node c t e) (.node c t' e'):=fun y hy=>by
 have:=eU hy
 cases c with
 | true=>exact h y this
 | false=>exact k y this
theorem LT.bind{α:Type}{t:Tree α}{f g:α→Tree St}(h:∀x,t.run=some x→LT σ2 d (f x) (g x)):LT σ2 d (t.bind f) (t.bind g):=fun y hy=>by
 obtain⟨x,h1,h2⟩:=bind_some hy
 rw[Tree.run_bind,h1]
 exact h x h1 y h2
theorem LT.aL(hle:Le σ1 σ2){k:Nat}{b:Nat}(hb:σ1.mem b=σ2.mem b){val:aQ}{tid:TypeId}{buf:Bool}{v:Nat→aQ} :
  LT σ2 (some k) (σ1.aL b val tid buf fun ax σ=>.ret (σ.put k (v ax))) (σ2.aL b val tid buf fun ax σ=>.ret (σ.put k (v ax))):=by
 unfold St.aL
 rw[←hb]
 cases hq:σ1.mem b with
 | none=>exact LT.MN (Rel.bX hle)
 | some bx =>
   simp only
   cases bx.lk with
   | true=>exact LT.fail
   | false=>exact LT.MN (Rel.bX hle)
theorem LT.mem(hle:Le σ1 σ2){b:Nat}{f g:Option bL→Tree St}(h0:f none=.fail)(h:∀bx,σ1.mem b=some bx→LT σ2 d (f (some bx)) (g (some bx))):LT σ2 d (f (σ1.mem b)) (g (σ2.mem b)):=by
 cases hb:σ1.mem b with
 | none=>rw[h0];exact LT.fail
 | some bx=>rw[hle b bx hb];exact h bx hb
end
end Go.Ge
namespace Go.Ge
set_option linter.unusedVariables false
set_option linter.unusedSimpArgs false
open RowKit
section
variable {σ1 σ2:St} {d:Option Nat} {cx:Ctx} {nb:Nat} {bf:List Nat} {inl:Nat→List aQ→St→Tree (aQ×St)}
theorem yy(hle:Le σ1 σ2)(hb:∀k,d=some k→σ1.mem (nb+k)=σ2.mem (nb+k)){ty:TypeId}{v:aQ}:LT σ2 d (gS cx nb bf d ty v σ1) (gS cx nb bf d ty v σ2):=by
 have R:=Rel.refl hle
 unfold gS
 cases v with
 | undef=>exact LT.bif (LT.ret R)
 | lz =>
   simp only
   split
   ·rename_i k e _
    cases cT bf k with
    | true=>exact LT.aL hle (hb k rfl)
    | false=>exact LT.MN R
   ·exact LT.ret R
 | _=>exact LT.ret R
theorem Kv(hle:Le σ1 σ2){c a b:aQ}:LT σ2 d (lA d c a b σ1) (lA d c a b σ2):=by
 have R:=Rel.refl hle
 unfold lA
 split
 ·split
  ·split
   ·exact LT.ret R
   ·exact LT.fail
  ·exact LT.node (LT.ret R) (LT.ret R)
 ·exact LT.fail
theorem Kw(hle:Le σ1 σ2){ty:TypeId}{a:aQ}:LT σ2 d (jk cx d ty a σ1) (jk cx d ty a σ2):=by
 have R:=Rel.refl hle
 unfold jk
 cases a with
 | cell u x=>exact LT.bif (LT.ret R)
 | ptr b ax p =>
   ((try dsimp only);split<;>first|exact LT.fail|(rename_i hq;rw[(hle b) _ hq];try dsimp only))
   exact LT.bif (LT.bind fun x _=>LT.bif (LT.ret R))
 | _=>exact LT.fail
theorem EL{mE mh:St}(R:Rel σ1 σ2 mE mh){b ax:Nat}{p:List Ci}{fit:aQ→Bool}{v:aQ}:LT σ2 none (storeAt b ax p fit v mE) (storeAt b ax p fit v mh):=by
 unfold storeAt
 ((try dsimp only);split<;>first|exact LT.fail|(rename_i hq;rw[(R.le b) _ hq];try dsimp only))
 exact LT.bif (LT.bind fun x _=>LT.bif (LT.bind fun c _=>LT.store (R.trans (Rel.bX R.le))))
theorem I0(hle:Le σ1 σ2){ty:TypeId}{a v:aQ}:LT σ2 none (jz cx ty a v σ1) (jz cx ty a v σ2):=by
 have R:=Rel.refl hle
 unfold jz
 cases a with
 | ptr b ax p =>
   ((try dsimp only);split<;>first|exact LT.fail|(rename_i hq;rw[(hle b) _ hq];try dsimp only))
   refine LT.bif (LT.bind fun old _=>?_)
   split
   ·refine LT.bif ?_
    split
    ·rename_i y mE hg
     obtain⟨mh,k1,k2⟩:=xP hle hg
     rw[k1]
     exact EL k2
    ·exact LT.fail
   ·exact LT.bif (EL R)
 | _=>exact LT.fail
theorem O4{n:Int}{lo hi:Option Operand}(ho:∀x∈lo.toList++hi.toList,cq σ1 x=cq σ2 x):bounds σ1 n lo hi=bounds σ2 n lo hi:=by
 unfold bounds
 cases lo<;>cases hi<;>simp only<;>simp at ho<;>simp[ho]
theorem I3(hle:Le σ1 σ2){ty:TypeId}{x:aQ}{lo hi:Option Operand}(ho:∀x∈lo.toList++hi.toList,cq σ1 x=cq σ2 x):LT σ2 d (jA cx d ty x lo hi σ1) (jA cx d ty x lo hi σ2):=by
 have R:=Rel.refl hle
 have hbd:∀n,bounds σ1 n lo hi=bounds σ2 n lo hi:=fun n=>O4 ho
 unfold jA
 split
 ·rename_i s _
  rw[hbd]
  ((try dsimp only);split<;>first|exact LT.fail|skip)
  exact LT.need (LT.ret R)
 ·rw[hbd]
  refine LT.bif ?_
  ((try dsimp only);split<;>first|exact LT.fail|skip)
  exact LT.need (LT.ret R)
 ·rename_i u c ax l n _
  ((try dsimp only);split<;>first|exact LT.fail|(rename_i hq;rw[(hle c) _ hq];try dsimp only))
  refine LT.bif ?_
  rw[hbd]
  ((try dsimp only);split<;>first|exact LT.fail|skip)
  exact LT.need (LT.ret R)
 ·rename_i u c ax _
  ((try dsimp only);split<;>first|exact LT.fail|(rename_i hq;rw[(hle c) _ hq];try dsimp only))
  refine LT.bif ?_
  split
  ·refine LT.bif ?_
   split
   ·exact LT.ret R
   ·rw[hbd]
    ((try dsimp only);split<;>first|exact LT.fail|skip)
    exact LT.need (LT.ret R)
  ·exact LT.fail
 ·rw[hbd]
  refine LT.MO (fun h=>?_) ?_
  ·simp only[Bool.and_eq_true] at h⊢
   exact⟨pe hle h.1,h.2⟩
  ·((try dsimp only);split<;>first|exact LT.fail|skip)
   exact LT.need (LT.ret R)
 ·rename_i m u c ax _
  ((try dsimp only);split<;>first|exact LT.fail|(rename_i hq;rw[(hle c) _ hq];try dsimp only))
  refine LT.bif ?_
  split
  ·rw[hbd]
   refine LT.bif ?_
   ((try dsimp only);split<;>first|exact LT.fail|skip)
   exact LT.need (LT.ret R)
  ·exact LT.fail
 ·exact LT.fail
theorem Q0(hle:Le σ1 σ2){b ax:Nat}{i:Int}:∀{m k:Nat},LT σ2 d (D5 d b ax σ1 i m k) (D5 d b ax σ2 i m k):=by
 intro m
 induction m with
 | zero=>intro k;exact LT.fail
 | succ m ih=>intro k;exact LT.node (LT.ret (Rel.refl hle)) ih
theorem BL(hle:Le σ1 σ2){ty:TypeId}{x:aQ}{i:Int}:LT σ2 d (dU cx d ty x i σ1) (dU cx d ty x i σ2):=by
 have R:=Rel.refl hle
 unfold dU
 split
 ·exact LT.bif (LT.look fun _=>LT.ret R)
 ·exact LT.bif (LT.look fun _=>LT.ret R)
 ·((try dsimp only);split<;>first|exact LT.fail|(rename_i hq;rw[((fun r (hr:_=some r)=>EK hle hr)) _ hq];try dsimp only))
  exact LT.bif (LT.need (LT.ret R))
 ·((try dsimp only);split<;>first|exact LT.fail|(rename_i hq;rw[((fun r (hr:_=some r)=>EK hle hr)) _ hq];try dsimp only))
  exact LT.bif (LT.need (LT.ret R))
 ·exact LT.MO (fun h=>pe hle h) (LT.need (LT.ret R))
 ·split
  ·refine LT.MO (fun h=>?_) (Q0 hle)
   simp only[Bool.and_eq_true] at h⊢
   exact⟨h.1,pe hle h.2⟩
  ·exact LT.fail
 ·exact LT.fail
theorem I4(hle:Le σ1 σ2){ty:TypeId}{x:aQ}{i:Int}:LT σ2 d (jB cx d ty x i σ1) (jB cx d ty x i σ2):=by
 have R:=Rel.refl hle
 unfold jB
 split
 ·exact LT.look fun _=>LT.ret R
 ·exact LT.bif (LT.look fun _=>LT.ret R)
 ·exact LT.fail
theorem BM(hle:Le σ1 σ2){s:TypeId}{x:aQ}{k:Nat}:LT σ2 d (dV cx d s x k σ1) (dV cx d s x k σ2):=by
 have R:=Rel.refl hle
 unfold dV
 split
 ·refine LT.bif ?_
  split
  ·exact LT.ret R
  ·exact LT.fail
 ·refine LT.MO (fun h=>pe hle h) ?_
  split
  ·split
   ·exact LT.ret R
   ·exact LT.fail
  ·split
   ·split
    ·exact LT.ret R
    ·exact LT.fail
   ·exact LT.fail
 ·exact LT.fail
theorem EM(hle:Le σ1 σ2)(hb:∀k,d=some k→σ1.mem (nb+k)=σ2.mem (nb+k)){s t:TypeId}{x:aQ}:LT σ2 d (fI cx nb d s t x σ1) (fI cx nb d s t x σ2):=by
 have R:=Rel.refl hle
 unfold fI
 split
 ·exact LT.ret R
 ·exact LT.ret R
 ·split
  ·exact LT.need (LT.aL hle (hb _ rfl))
  ·exact LT.fail
 ·((try dsimp only);split<;>first|exact LT.fail|(rename_i hq;rw[((fun r (hr:_=some r)=>xO hle hr)) _ hq];try dsimp only))
  exact LT.ret R
 ·exact LT.fail
theorem yz(hle:Le σ1 σ2)(hb:∀k,d=some k→σ1.mem (nb+k)=σ2.mem (nb+k)){ty:TypeId}{s x:aQ}:LT σ2 d (fP cx nb d ty s x σ1) (fP cx nb d ty s x σ2):=by
 have R:=Rel.refl hle
 unfold fP
 split
 ·rename_i k e _
  ((try dsimp only);split<;>first|exact LT.fail|(rename_i hq;rw[((fun r (hr:_=some r)=>O2 hle hr)) _ hq];try dsimp only))
  split
  ·exact LT.need (LT.aL hle (hb _ rfl))
  ·rename_i b ax
   cases hq:σ1.mem b with
   | none=>exact LT.fail
   | some bx =>
     rw[hle b bx hq]
     cases hl:eX e σ1 (.whole b ax) with
     | none=>exact LT.fail
     | some l =>
       rw[xO hle hl]
       simp only
       cases (bx.lk||!UA cx ty bx.tid) with
       | true=>exact LT.fail
       | false=>exact LT.need (LT.MN (Rel.bX hle))
  ·exact LT.fail
 ·exact LT.fail
theorem O5(hle:Le σ1 σ2){f:Nat}{args:List aQ}(SN:find cx.cF f≠none):LT σ2 d (s9 cx we d f args σ1) (s9 cx inl d f args σ2):=by
 have R:=Rel.refl hle
 unfold s9
 split
 ·split
  ·have key:∀{A:Ty} {vs:List aQ} {x:A.den},fX σ1 A vs=some x→fX σ2 A vs=some x:=by
    intro A
    induction A with
    | pair t r D3 ihr =>
      intro vs x hl
      cases vs with
      | nil=>cases hl
      | cons v vs =>
        simp only[fX] at hl⊢
        split at hl
        ·rename_i p q hp hq
         rw[N8 hle hp,ihr hq]
         exact hl
        ·cases hl
    | unit=>intro vs x hl;cases vs<;>exact hl
    | _=>intro vs x hl;cases vs<;>cases hl
   ((try dsimp only);split<;>first|exact LT.fail|(rename_i hq;rw[((fun r (hr:_=some r)=>key hr)) _ hq];try dsimp only))
   exact LT.look fun _=>LT.ret R
  ·split
   ·rename_i x mE hg
    obtain⟨mh,k1,k2⟩:=zk hle hg
    rw[k1]
    exact LT.look fun _=>LT.ret k2
   ·exact LT.fail
 ·rename_i hn;exact absurd hn SN
theorem LT.Ti{mE mh:St}(R:Rel σ1 σ2 mE mh){k:Nat}{b:Nat}(hb:σ1.mem b=σ2.mem b){val:aQ}{tid:TypeId}{buf:Bool}{v:Nat→aQ} :
  LT σ2 (some k) (mE.aL b val tid buf fun ax σ=>.ret (σ.put k (v ax))) (mh.aL b val tid buf fun ax σ=>.ret (σ.put k (v ax))):=by
 have hq:mE.mem b=mh.mem b:=by
  rw[R.m b]
  cases h:mE.mem b with
  | some x=>rfl
  | none=>simp only;rw[←hb,R.nv b h]
 unfold St.aL
 rw[←hq]
 cases mE.mem b with
 | none=>exact LT.MN (R.trans (Rel.bX R.le))
 | some bx =>
   simp only
   cases bx.lk with
   | true=>exact LT.fail
   | false=>exact LT.MN (R.trans (Rel.bX R.le))
theorem I5(hle:Le σ1 σ2)(hb:∀k,d=some k→σ1.mem (nb+k)=σ2.mem (nb+k)){e:Ty}{args:List aQ}:LT σ2 d (jC nb e d args σ1) (jC nb e d args σ2):=by
 unfold jC
 split
 ·split
  ·rename_i l mE hg
   obtain⟨mh,k1,k2⟩:=xP hle hg
   rw[k1]
   exact LT.bif (LT.need (LT.Ti k2 (hb _ rfl)))
  ·exact LT.fail
 ·exact LT.fail
theorem O6{mE mh:St}(h:Le mE mh){e:Ty}{v:aQ}{r:Nat×Nat×bL×List e.den}(hl:uJ e mE v=some r):uJ e mh v=some r:=by
 cases v with
 | part b ax lo n =>
   simp only[uJ] at hl⊢
   cases hb:mE.mem b with
   | none=>rw[hb] at hl;cases hl
   | some bx=>rw[hb] at hl;rw[h b bx hb];exact hl
 | whole b ax =>
   simp only[uJ] at hl⊢
   cases hb:mE.mem b with
   | none=>rw[hb] at hl;cases hl
   | some bx=>rw[hb] at hl;rw[h b bx hb];exact hl
 | _=>cases hl
theorem MP(hle:Le σ1 σ2){e A:Ty}{res:Bool}{spec:List e.den→A.den→Option (List e.den)}{args:List aQ}:LT σ2 d (oV e A res spec d args σ1) (oV e A res spec d args σ2):=by
 unfold oV
 split
 ·split
  ·rename_i x mE hg
   obtain⟨mh,k1,k2⟩:=zk hle hg
   rw[k1]
   simp only
   split
   ·rename_i b ax bx l Ue
    rw[O6 k2.le Ue]
    simp only
    refine LT.look fun l'=>?_
    cases res with
    | true =>
      cases d with
      | none=>exact LT.fail
      | some k=>exact LT.MN (k2.trans (Rel.bX k2.le))
    | false=>cases d<;>exact LT.bif (LT.ret (k2.trans (Rel.bX k2.le)))
   ·exact LT.fail
  ·exact LT.fail
 ·exact LT.fail
theorem MQ(hle:Le σ1 σ2)(hb:∀k,d=some k→σ1.mem (nb+k)=σ2.mem (nb+k)){f:Nat}{args:List aQ}(SN:s8 cx bf d f=none→find cx.cF f≠none∨(find cx.cF f=none∧∃e,find cx.JR f=some (.clone e)))(hcs:∀s,s8 cx bf d f=some s→(∃e,s=.clone e)∨∃e A r q,s=.own e A r q) :
  LT σ2 d (qK cx nb bf we d f args σ1) (qK cx nb bf inl d f args σ2):=by
 unfold qK
 split
 ·exact I5 hle hb
 ·exact MP hle
 ·rename_i h1 h2
  have hn:s8 cx bf d f=none:=by
   cases hq:s8 cx bf d f with
   | none=>rfl
   | some s =>
     rcases hcs s hq with ⟨e,rfl⟩|⟨e,A,r,q,rfl⟩
     ·exact absurd hq (h1 e)
     ·exact absurd hq (h2 e A r q)
  rcases SN hn with hc|⟨hc,e,he⟩
  ·exact O5 hle hc
  ·unfold s9
   rw[hc,he]
   exact LT.fail
theorem Kx{s:OM}{f:Nat}(h:s8 cx bf d f=some s):(∃e,s=.clone e)∨∃e A r q,s=.own e A r q:=by
 unfold s8 at h
 split at h
 ·rename_i e he
  split at h
  ·obtain rfl:=Option.some.inj h;exact .inl ⟨e,rfl⟩
  ·cases h
 ·obtain rfl:=Option.some.inj h;exact .inr ⟨_,_,_,_,rfl⟩
 ·cases h
theorem O7:∀{ps:List (Nat×Operand)} {k:Nat},(∀x∈ps.map (·.2),cq σ1 x=cq σ2 x)→v8 σ1 k ps=v8 σ2 k ps:=by
 intro ps
 induction ps with
 | nil=>intro k _;rfl
 | cons p r ih =>
   obtain⟨j,x⟩:=p
   intro k h
   simp only[v8]
   rw[h x (by simp),ih (k:=k+1) fun y hy=>h y (by simp at hy⊢;exact .inr hy)]
theorem Ky{fs:List kK}:∀{ps:List (Nat×Operand)} {v:aQ},(∀x∈ps.map (·.2),cq σ1 x=cq σ2 x)→jW σ1 fs v ps=jW σ2 fs v ps:=by
 intro ps
 induction ps with
 | nil=>intro v _;rfl
 | cons p r ih =>
   obtain⟨k,x⟩:=p
   intro v h
   simp only[jW]
   rw[h x (by simp)]
   have hr:∀u,jW σ1 fs u r=jW σ2 fs u r:=fun u=>ih (v:=u) fun y hy=>h y (by simp at hy⊢;exact .inr hy)
   simp only[hr]
theorem O8(hle:Le σ1 σ2){o:Oper}{ge:Option Nat}(hge:lB o σ2=ge)(h3:cls cx ge o≠3)(hop:∀x∈dZ o.op,cq σ1 x=cq σ2 x)(hb:∀k,o.dst=some k→σ1.mem (nb+k)=σ2.mem (nb+k)) :
  LT σ2 o.dst (mW cx nb bf we o σ1) (mW cx nb bf inl o σ2):=by
 have R:=Rel.refl hle
 unfold mW
 cases ho:o.op with
 | move x=>simp only[ho,dZ] at hop⊢;rw[hop x (by simp)];exact yy hle hb
 | assign x=>simp only[ho,dZ] at hop⊢;rw[hop x (by simp)];exact yy hle hb
 | pick c a b=>simp only[ho,dZ] at hop⊢;rw[hop c (by simp),hop a (by simp),hop b (by simp)];exact Kv hle
 | alloc e =>
   simp only
   split
   ·rename_i k t hk hT
    rw[hk]
    unfold rq
    split
    ·exact absurd (by simp[cls,ho,hT]) h3
    ·exact LT.aL hle (hb k hk)
   ·rename_i k hk hT
    rw[hk]
    split
    ·rename_i hO
     exact absurd (by simp[cls,ho,hT,hO]) h3
    ·exact LT.bif (LT.aL hle (hb k hk))
   ·exact LT.fail
 | box e x =>
   simp only[ho,dZ] at hop⊢
   rw[hop x (by simp)]
   cases hk:o.dst with
   | none=>exact LT.fail
   | some k =>
     have hO:find cx.nV e=none:=by
      cases hO:find cx.nV e with
      | none=>rfl
      | some fs=>exact absurd (by simp[cls,ho,hO]) h3
     cases cq σ2 x<;>simp only[zQ,hO]<;>first|exact LT.fail|exact LT.aL hle (hb k hk)
 | build t ps =>
   simp only[ho,dZ] at hop⊢
   split
   ·split
    ·rename_i hg
     obtain⟨mh,k1,k2⟩:=GH hle hop hg
     rw[k1]
     exact LT.ret k2
    ·exact LT.fail
   ·split
    ·rename_i hg
     obtain⟨mh,k1,k2⟩:=Au hle hop hg
     rw[k1]
     exact LT.ret k2
    ·exact LT.fail
   ·split
    ·split
     ·rw[Ky hop]
      split
      ·exact LT.ret R
      ·exact LT.ret R
      ·exact LT.fail
     ·exact LT.fail
    ·exact LT.fail
   ·exact LT.fail
 | buildSlice t n ps =>
   simp only[ho,dZ] at hop⊢
   split
   ·split
    ·rename_i k bF hparts
     have hk:=(zh bF).1
     rw[hk]
     exact LT.aL hle (hb k hk)
    ·refine LT.bif ?_
     split
     ·rename_i hg
      obtain⟨mh,k1,k2⟩:=Au hle hop hg
      rw[k1]
      exact LT.ret k2
     ·exact LT.fail
   ·unfold xI
    rw[O7 hop]
    split
    ·rename_i k e v hk _ _
     rw[hk]
     exact LT.bif (LT.aL hle (hb _ hk))
    ·exact LT.fail
   ·exact LT.fail
 | load t a=>simp only[ho,dZ] at hop⊢;rw[hop a (by simp)];exact Kw hle
 | store t a x =>
   simp only[ho,dZ] at hop⊢
   rw[hop a (by simp),hop x (by simp)]
   cases hk:o.dst with
   | none=>exact I0 hle
   | some k=>exact LT.fail
 | nilCheck x =>
   simp only[ho,dZ] at hop⊢
   rw[hop x (by simp)]
   cases cq σ2 x with
   | ptr b ax p=>exact LT.MO (fun h=>pe hle h) (LT.ret R)
   | cell t x=>exact LT.ret R
   | fn f c=>exact LT.ret R
   | _=>exact LT.fail
 | binOp op xt x y yt =>
   simp only[ho,dZ] at hop⊢
   rw[hop x (by simp),hop y (by simp)]
   intro z hz
   obtain⟨v,h1,h2⟩:=bind_some hz
   have hb:(Qs σ2 (find cx.T xt) (cT cx.tP xt) op (cq σ2 x) (cq σ2 y)).run=some v:=by
    unfold Qs at h1⊢
    split at h1
    ·obtain⟨hc,h3⟩:=aA h1
     simp only[Bool.and_eq_true] at hc
     rw[pe hle hc.1,hc.2]
     exact h3
    ·obtain⟨hc,h3⟩:=aA h1
     simp only[Bool.and_eq_true] at hc
     rw[pe hle hc.1,hc.2]
     exact h3
    ·exact h1
   rw[Tree.run_bind,hb]
   exact LT.ret R z h2
 | unOp op t x=>simp only[ho,dZ] at hop⊢;rw[hop x (by simp)];exact LT.bind fun _ _=>LT.ret R
 | convert s t x=>simp only[ho,dZ] at hop⊢;rw[hop x (by simp)];exact EM hle hb
 | makeFunc fn first caps =>
   simp only[ho,dZ] at hop⊢
   cases fn with
   | func f =>
     simp only
     have:caps.toList.map (cq σ1)=caps.toList.map (cq σ2):=List.map_congr_left fun x hx=>hop x (List.mem_append_right _ hx)
     rw[this]
     split
     ·exact LT.ret R
     ·exact LT.fail
   | _=>exact LT.fail
 | slice t x lo hi m =>
   simp only[ho,dZ] at hop⊢
   cases m with
   | some m=>exact LT.fail
   | none =>
     simp only
     rw[hop x (by simp)]
     exact I3 hle fun y hy=>hop y (List.mem_cons_of_mem _ hy)
 | fieldAddr s x k=>simp only[ho,dZ] at hop⊢;rw[hop x (by simp)];exact BM hle
 | field xt x k =>
   simp only[ho,dZ] at hop⊢
   rw[hop x (by simp)]
   split
   ·refine LT.bif ?_
    split
    ·exact LT.ret R
    ·exact LT.fail
   ·exact LT.fail
 | indexAddr t x i =>
   simp only[ho,dZ] at hop⊢
   rw[hop x (by simp),hop i (by simp)]
   split
   ·exact BL hle
   ·exact LT.fail
 | index t x i =>
   simp only[ho,dZ] at hop⊢
   rw[hop x (by simp),hop i (by simp)]
   split
   ·exact I4 hle
   ·exact LT.fail
 | makeSlice t l c =>
   simp only[ho,dZ] at hop⊢
   rw[hop l (by simp),hop c (by simp)]
   cases hk:o.dst with
   | none=>exact LT.fail
   | some k =>
     split
     ·rename_i k' _ _ _ _ _ hk' _ _ _
      obtain rfl:=Option.some.inj hk'
      exact LT.need (LT.need (LT.aL hle (hb k hk)))
     ·exact LT.fail
 | extract t k =>
   simp only[ho,dZ] at hop⊢
   rw[hop t (by simp)]
   split
   ·((try dsimp only);split<;>first|exact LT.fail|skip)
    exact LT.ret R
   ·exact LT.fail
 | call c =>
   simp only[ho,dZ] at hop⊢
   have hargs:c.args.toList.map (cq σ1)=c.args.toList.map (cq σ2):=List.map_congr_left fun x hx=>hop x (List.mem_append_right _ hx)
   unfold rJ
   rw[hargs]
   cases hc:c.callee with
   | builtin b =>
     simp only
     split
     ·rename_i x t _ _
      cases N1 (find cx.T t) x with
      | true =>
        simp only[cond_true]
        ((try dsimp only);split<;>first|exact LT.fail|(rename_i hq;rw[((fun r (hr:_=some r)=>QZ hle hr)) _ hq];try dsimp only))
        exact LT.ret R
      | false =>
        simp only[cond_false]
        split
        ·refine LT.MO (fun h=>?_) (LT.ret R)
         simp only[Bool.and_eq_true] at h⊢
         exact⟨pe hle h.1,h.2⟩
        ·exact LT.fail
     ·split
      ·exact yz hle hb
      ·exact yz hle hb
      ·exact LT.fail
     ·exact absurd (by simp[cls,ho,hc]) h3
     ·exact absurd (by simp[cls,ho,hc]) h3
     ·exact LT.bind fun _ _=>LT.ret R
     ·exact LT.bind fun _ _=>LT.ret R
     ·exact LT.fail
   | value f =>
     simp only
     rw[hop f (by rw[hc];simp)]
     split
     ·rename_i g caps hop
      have QW:(caps.all fun b=>live σ1 b.1 b.2)=true→(caps.all fun b=>live σ2 b.1 b.2)=true:=fun h=>by
       rw[List.all_eq_true] at h⊢
       exact fun b hm=>pe hle (h b hm)
      refine LT.MO QW (MQ hle hb (fun hq=>?_) fun s hs=>Kx hs)
      have heq:ge=some g:=by rw[←hge];simp[lB,ho,hc,hop]
      cases dG:find cx.cF g with
      | some c=>exact .inl (by simp)
      | none =>
        refine .inr ⟨rfl,?_⟩
        cases Ku:find cx.JR g with
        | none=>exact absurd (by simp[cls,ho,hc,heq,dG,Ku]) h3
        | some s =>
          cases s with
          | clone e=>exact⟨e,rfl⟩
          | own e A r q=>simp[s8,Ku] at hq
          | _=>exact absurd (by simp[cls,ho,hc,heq,dG,Ku]) h3
     ·exact LT.fail
   | invoke r m =>
     simp only
     rw[hop r (by rw[hc];simp)]
     unfold oC
     split
     ·split
      ·rename_i hg
       obtain⟨mh,k1,k2⟩:=zk hle hg
       rw[k1]
       exact LT.look fun _=>LT.ret k2
      ·exact LT.fail
     ·exact LT.fail
 | makeInterface u x =>
   simp only[ho,dZ] at hop⊢
   rw[hop x (by simp)]
   unfold oB
   split
   ·split
    ·split
     ·rename_i hg
      obtain⟨mh,k1,k2⟩:=xP hle hg
      rw[k1]
      exact LT.ret k2
     ·exact LT.fail
    ·exact LT.fail
   ·exact LT.fail
 | _=>exact LT.fail
end
end Go.Ge
