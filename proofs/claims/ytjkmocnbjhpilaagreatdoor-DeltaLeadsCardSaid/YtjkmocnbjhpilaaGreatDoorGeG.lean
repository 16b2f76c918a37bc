/- A ghost interpreter of the model's code, and that it tells the truth: part 7. It says of a function of plain data what a call of it comes to. -/
import Derived.Test.YtjkmocnbjhpilaaGreatDoorGeF
import Derived.Scope
namespace Go.Ge
set_option linter.unusedVariables false
set_option linter.unusedSimpArgs false
open RowKit
theorem lC{l:List Nat}{t:Nat}:cT l t=true↔t∈l:=by
 induction l with
 | nil=>simp[cT]
 | cons i r ih =>
   simp only[cT,Bool.or_eq_true,List.mem_cons,ih]
   constructor
   ·rintro(h|h)
    ·exact .inl (Nat.eq_of_beq_eq_true h)
    ·exact .inr h
   ·rintro(h|h)
    ·subst h;exact .inl (by simp)
    ·exact .inr h
theorem gV{l:List Nat}{t:Nat}:cT l t=false↔t∉l:=by
 rw[←lC];simp
theorem MR{l:List Operand}{t:Nat}(h:Operand.tmp t∈l):t∈tmpsOf l:=by
 induction l with
 | nil=>cases h
 | cons x r ih =>
   rcases List.mem_cons.1 h with h'|h'
   ·subst h';exact List.mem_cons_self ..
   ·clear h
    have h:=h'
    cases x<;>simp only[tmpsOf]
    case tmp k=>exact List.mem_cons_of_mem _ (ih h)
    all_goals exact ih h
section
variable {cx:Ctx} {nb:Nat} {bf:List Nat} {inl:Nat→List aQ→St→Tree (aQ×St)} {σ σ' τ:St}
structure Kz (cx:Ctx) (nb:Nat) (o:Oper) (fp:Fp):Prop where
 own:∀k,o.dst=some k→nb+k∈fp.rd
 sub:∀b∈fp.wr,b∈fp.rd
 w1:cls cx fp.fn o≠0→∀k,o.dst=some k→nb+k∈fp.wr
 w2:cls cx fp.fn o≠0→cls cx fp.fn o≠1→∀b∈fp.rd,b∈fp.wr
 c3:cls cx fp.fn o≠3
theorem DT(o:Oper)(σ:St)(h:(tU cx nb o σ).DL=false):Kz cx nb o (tU cx nb o σ):=by
 have hown:∀k,o.dst=some k→nb+k∈Go.Ge.own nb o:=fun k hk=>by simp[Go.Ge.own,hk]
 unfold tU at h⊢
 dsimp only at h⊢
 split at h<;>rename_i hc
 ·exact⟨fun k hk=>List.mem_append_left _ (hown k hk),fun b hb=>(nomatch hb),fun h0=>absurd hc h0,fun h0=>absurd hc h0,by rw[hc];decide⟩
 ·exact⟨fun k hk=>List.mem_append_left _ (hown k hk),fun b hb=>List.mem_append_left _ hb,fun _ k hk=>hown k hk,fun _ h1=>absurd hc h1,by rw[hc];decide⟩
 ·exact⟨fun k hk=>List.mem_append_left _ (hown k hk),fun b hb=>hb,fun _ k hk=>List.mem_append_left _ (hown k hk),fun _ _ b hb=>hb,by rw[hc];decide⟩
 ·cases h
theorem Tj{ts rd:List Nat}:Le { (σ.only ts rd) with slots:=σ.slots } σ:=fun b bx hb=>by
 simp only[St.only] at hb
 cases hm:cT rd b with
 | true=>rw[hm] at hb;exact hb
 | false=>rw[hm] at hb;cases hb
theorem KA{ts rd:List Nat}:Le (σ.only ts rd) σ:=fun b bx hb=>Tj (ts:=ts) b bx hb
theorem KB{l:List Operand}{rd:List Nat}{x:Operand}(hx:x∈l):cq (σ.only (tmpsOf l) rd) x=cq σ x:=by
 cases x with
 | tmp t =>
   have:=lC.2 (MR hx)
   simp only[cq,St.only,this,cond_true]
 | _=>rfl
theorem Tk{a b:Option Nat}(h:V0 a b=true):a=b:=by
 cases a<;>cases b<;>first|rfl|cases h|exact congrArg some (Nat.eq_of_beq_eq_true h)
theorem GI(o:Oper)(rd:List Nat):lB o (σ.only (tmpsOf (dZ o.op)) rd)=lB o σ:=by
 unfold lB
 split
 ·rename_i c hc
  split
  ·rename_i x hx
   rw[KB (by rw[hc];simp[dZ,hx])]
  ·rfl
 ·rfl
theorem xQ{fp:Fp}{o:Oper}(hf:fp.DL=false→Kz cx nb o fp)(hr:(fZ cx nb bf inl fp o σ).run=some σ'):(mW cx nb bf inl o σ).run=some σ':=by
 unfold fZ at hr
 cases I6:fp.DL with
 | true=>rw[I6] at hr;exact hr
 | false =>
   have hf:=hf I6
   rw[I6] at hr
   simp only[cond_false] at hr
   obtain⟨τ,h1,h2⟩:=bind_some hr
   obtain rfl:=Option.some.inj h2
   obtain⟨hfn,h1⟩:=aA h1
   have hfn:=Tk hfn
   have XY:lB o σ=fp.fn:=by rw[←hfn];exact(GI ..).symm
   have hL:=O8 (cx:=cx) (nb:=nb) (bf:=bf) (inl:=inl) (σ1:=σ.only (tmpsOf (dZ o.op)) fp.rd) (σ2:=σ) KA (o:=o) XY hf.c3 (fun x hx=>KB hx)
    (fun k hk=>by simp only[St.only,lC.2 (hf.own k hk),cond_true]) τ h1
   rw[hL]
   have hC:=ML (cx:=cx) (nb:=nb) (bf:=bf) (σ:=σ.only (tmpsOf (dZ o.op)) fp.rd) (o:=o) (p:=fun b=>b∈fp.wr) hfn hf.c3 (fun h0 k hk=>hf.w1 h0 k hk) (fun h0 h1 b hb=>by
    refine hf.w2 h0 h1 b ?_
    simp only[St.only] at hb
    cases hm:cT fp.rd b with
    | true=>exact lC.1 hm
    | false=>rw[hm] at hb;exact absurd rfl hb) τ h1
   have hm:(fun b=>match τ.mem b with|some x=>some x|none=>σ.mem b)=fun b=>bif cT fp.wr b then τ.mem b else σ.mem b:=by
    funext b
    have hrd:b∈fp.rd→(σ.only (tmpsOf (dZ o.op)) fp.rd).mem b=σ.mem b:=fun h=>by simp only[St.only,lC.2 h,cond_true]
    cases hw:cT fp.wr b with
    | true =>
      simp only[cond_true]
      cases hq:τ.mem b with
      | some x=>rfl
      | none =>
        simp only
        rw[←hrd (hf.sub b (lC.1 hw))]
        rcases hC b with k|k
        ·rw[←k,hq]
        ·exact absurd hq k.1
    | false =>
      simp only[cond_false]
      rcases hC b with k|k
      ·rw[k]
       cases hq:(σ.only (tmpsOf (dZ o.op)) fp.rd).mem b with
       | none=>rfl
       | some x=>simp only;exact(KA b x hq).symm
      ·exact absurd k.2 (gV.1 hw)
   unfold lift lay
   exact congrArg (fun m=>some (St.mk _ m)) hm
theorem xR{a b:List Nat}(h:OP a b=true){x:Nat}(hx:x∈a):x∉b:=by
 simp only[OP,List.all_eq_true,Bool.not_eq_true'] at h
 exact gV.1 (h x hx)
theorem apart_spec{x y:Oper}{f g:Fp}(h:apart x y f g=true):f.DL=false∧g.DL=false∧(∀b∈f.wr,b∉g.rd)∧(∀b∈g.wr,b∉f.rd) ∧
  (∀d,x.dst=some d→d∉tmpsOf (dZ y.op))∧(∀d,y.dst=some d→d∉tmpsOf (dZ x.op))∧(∀d e,x.dst=some d→y.dst=some e→d≠e):=by
 simp only[apart,Bool.and_eq_true,Bool.not_eq_true'] at h
 obtain⟨⟨⟨⟨⟨h1,h2⟩,h3⟩,h4⟩,h5⟩,h6⟩:=h
 refine⟨h1,h2,fun b hb=>xR h3 hb,fun b hb=>xR h4 hb,fun d hd=>?_,fun d hd=>?_,fun d e hd he=>?_⟩
 ·rw[hd] at h5
  simp only[Bool.and_eq_true,Bool.not_eq_true'] at h5
  exact gV.1 h5.1
 ·rw[hd] at h6
  simp only[Bool.not_eq_true'] at h6
  exact gV.1 h6
 ·rw[hd,he] at h5
  simp only[Bool.and_eq_true,Bool.not_eq_true'] at h5
  intro q
  subst q
  simp at h5
theorem Av{d:Option Nat}{wr ts rd:List Nat}(h1:∀k,d=some k→k∉ts)(h2:∀b∈wr,b∉rd):(lay σ d wr τ).only ts rd=σ.only ts rd:=by
 unfold St.only lay
 congr 1
 ·funext t
  cases hm:cT ts t with
  | false=>rfl
  | true =>
    simp only[cond_true]
    cases d with
    | none=>rfl
    | some k =>
      have:t≠k:=fun e=>h1 k rfl (by rw[←e];exact lC.1 hm)
      simp[fQ this]
 ·funext b
  cases hm:cT rd b with
  | false=>rfl
  | true =>
    have:b∉wr:=fun hw=>h2 b hw (lC.1 hm)
    simp[gV.2 this]
theorem Q1{oi oj:Oper}{fi fj:Fp}{σ1 σ2:St}(hap:apart oi oj fi fj=true)(hsi:∀b∈fi.wr,b∈fi.rd)(h1:(fZ cx nb bf inl fi oi σ).run=some σ1)(h2:(fZ cx nb bf inl fj oj σ1).run=some σ2) :
  ∃Q2,(fZ cx nb bf inl fj oj σ).run=some Q2∧(fZ cx nb bf inl fi oi Q2).run=some σ2:=by
 obtain⟨b1,b2,w1,w2,d1,d2,d3⟩:=apart_spec hap
 unfold fZ at h1 h2⊢
 rw[b1] at h1
 rw[b2] at h2
 simp only[b1,b2,cond_false] at h1 h2⊢
 obtain⟨Xi,i1,i2⟩:=bind_some h1
 obtain rfl:=Option.some.inj i2
 obtain⟨VO,j1,j2⟩:=bind_some h2
 obtain rfl:=Option.some.inj j2
 rw[Av d1 w1] at j1
 refine⟨lay σ oj.dst fj.wr VO,by rw[Tree.run_bind,j1];rfl,?_⟩
 rw[Av d2 w2,Tree.run_bind,i1]
 show some _=some _
 congr 1
 unfold lay
 congr 1
 ·cases hi:oi.dst with
  | none=>rfl
  | some k =>
    cases hj:oj.dst with
    | none=>rfl
    | some e =>
      have hne:=d3 k e hi hj
      funext t
      dsimp only
      by_cases q1:t=k
      ·subst q1;simp[fQ hne]
      ·by_cases q2:t=e
       ·subst q2;simp[fQ q1]
       ·simp[fQ q1,fQ q2]
 ·funext b
  dsimp only
  cases hw1:cT fi.wr b with
  | false=>rfl
  | true =>
    have:b∉fj.wr:=fun hw=>w2 b hw (hsi b (lC.1 hw1))
    simp[gV.2 this]
inductive Reach (ops:Array Oper):Nat→Nat→Prop where
 | step {i:Nat} {o:Oper} {e:Edge} (h:ops[i]?=some o) (he:e∈o.after) (hb:Region.binds .any e=true):Reach ops i e.on
 | more {i k:Nat} {o:Oper} {e:Edge} (h:ops[i]?=some o) (he:e∈o.after) (hb:Region.binds .any e=true) (r:Reach ops e.on k):Reach ops i k
def I7(ops:Array Oper)(listed:Array Bool):Prop:=∀i o e,listed.getD i false=true→ops[i]?=some o→e∈o.after→Region.binds .any e=true→listed.getD e.on false=true
theorem Reach.listed{ops:Array Oper}{listed:Array Bool}(hs:I7 ops listed){i k:Nat}(h:Reach ops i k):listed.getD i false=true→listed.getD k false=true:=by
 induction h with
 | step h he hb=>exact fun hl=>hs _ _ _ hl h he hb
 | more h he hb r ih=>exact fun hl=>ih (hs _ _ _ hl h he hb)
theorem Reach.ready{ops:Array Oper}{listed:Array Bool}(hs:I7 ops listed){i k:Nat}(h:Reach ops i k)(hr:i∈Region.ready .any ops listed):listed.getD k false=true:=by
 obtain⟨_,o,ho,hall⟩:=mem_ready.1 hr
 cases h with
 | step h he hb =>
   obtain rfl:=Option.some.inj (ho.symm.trans h)
   exact hall _ he hb
 | more h he hb r =>
   obtain rfl:=Option.some.inj (ho.symm.trans h)
   exact r.listed hs (hall _ he hb)
theorem I7.list{ops:Array Oper}{listed:Array Bool}(hs:I7 ops listed){i:Nat}(hr:i∈Region.ready .any ops listed):I7 ops (listed.setIfInBounds i true):=by
 obtain⟨_,oi,ZX,hall⟩:=mem_ready.1 hr
 have up:∀k,listed.getD k false=true→(listed.setIfInBounds i true).getD k false=true:=by
  intro k hk
  by_cases e:i=k
  ·subst e
   rcases Nat.lt_or_ge i listed.size with h'|h'
   ·simp[h']
   ·simp[Array.getElem?_eq_none h'] at hk
  ·rw[getD_set_ne false e];exact hk
 intro j o e hj ho he hb
 by_cases q:i=j
 ·subst q
  obtain rfl:=Option.some.inj (ZX.symm.trans ho)
  exact up _ (hall e he hb)
 ·rw[getD_set_ne false q] at hj
  exact up _ (hs j o e hj ho he hb)
theorem KC{listed:Array Bool}{i:Nat}(h0:listed.getD i true=false)(h1:listed.getD i false=true):False:=by
 rcases Nat.lt_or_ge i listed.size with h'|h'
 ·simp[h'] at h0 h1;rw[h0] at h1;cases h1
 ·simp[Array.getElem?_eq_none h'] at h1
def pg(ops:Array Oper)(done:List wg):Prop:=∀k,∀b,Nat.testBit (maskAt done k) b=true→Reach ops k b
theorem zl{ops:Array Oper}{done:List wg}(hd:pg ops done){i:Nat}{o:Oper}(ho:ops[i]?=some o){b:Nat}(h:Nat.testBit (mask done o) b=true):Reach ops i b:=by
 unfold mask at h
 have key:∀l:List Edge,(∀e∈l,e∈o.after)→Nat.testBit (ru done l) b=true→Reach ops i b:=by
  intro l
  induction l with
  | nil=>intro _ h;simp[ru] at h
  | cons e r ih =>
    intro hl h
    simp only[ru] at h
    cases hb:Region.binds .any e with
    | false=>rw[hb] at h;exact ih (fun e' he'=>hl e' (List.mem_cons_of_mem _ he')) h
    | true =>
      rw[hb] at h
      simp only[cond_true,Nat.testBit_or,Bool.or_eq_true] at h
      rcases h with (h|h)|h
      ·exact ih (fun e' he'=>hl e' (List.mem_cons_of_mem _ he')) h
      ·rw[Nat.testBit_two_pow] at h
       have:e.on=b:=by simpa using h
       subst this
       exact .step ho (hl e (List.mem_cons_self ..)) hb
      ·exact .more ho (hl e (List.mem_cons_self ..)) hb (hd _ _ h)
 exact key _ (fun e he=>by simpa using he) h
theorem pg.nil{ops:Array Oper}:pg ops []:=fun k b h=>by simp[maskAt] at h
theorem pg.cons{ops:Array Oper}{done:List wg}(hd:pg ops done){i:Nat}{o:Oper}{f:Fp}(ho:ops[i]?=some o):pg ops ((i,o,f,mask done o)::done):=by
 intro k b h
 simp only[maskAt] at h
 cases hk:Nat.beq i k with
 | true =>
   rw[hk] at h
   obtain rfl:=Nat.eq_of_beq_eq_true hk
   exact zl hd ho h
 | false=>rw[hk] at h;exact hd k b h
def Q3(cx:Ctx)(nb:Nat)(bf:List Nat)(inl:Nat→List aQ→St→Tree (aQ×St))(ops:Array Oper)(fp:Nat→Fp)(Q:St→Prop):Nat→Array Bool→St→Prop
 | 0,listed,σ=>Region.ready .any ops listed=[]∧Q σ
 | n+1,listed,σ=>(Region.ready .any ops listed=[]→Q σ) ∧
  ∀i∈Region.ready .any ops listed,∃o σ',ops[i]?=some o∧o.guard=none∧(fZ cx nb bf inl (fp i) o σ).run=some σ'∧Q3 cx nb bf inl ops fp Q n (listed.setIfInBounds i true) σ'
variable {ops:Array Oper} {fp:Nat→Fp} {Q:St→Prop}
theorem MS{i:Nat}{oi:Oper}(hi:ops[i]?=some oi)(Xj:oi.guard=none)(hsub:∀b∈(fp i).wr,b∈(fp i).rd):∀(n:Nat) (listed:Array Bool) (σ σ1:St),
  I7 ops listed→(∀j oj,ops[j]?=some oj→j≠i→listed.getD j true=false→Reach ops j i∨apart oi oj (fp i) (fp j)=true) →
  i∈Region.ready .any ops listed→(fZ cx nb bf inl (fp i) oi σ).run=some σ1→Q3 cx nb bf inl ops fp Q n (listed.setIfInBounds i true) σ1→Q3 cx nb bf inl ops fp Q (n+1) listed σ:=by
 intro n
 induction n with
 | zero =>
   intro listed σ σ1 rR hfree hr h1 H
   refine⟨fun h=>(by rw[h] at hr;cases hr),fun j hj=>?_⟩
   by_cases hji:j=i
   ·subst hji;exact⟨oi,σ1,hi,Xj,h1,H⟩
   ·have:=ready_mono hj hji
    rw[H.1] at this
    cases this
 | succ n ih =>
   intro listed σ σ1 rR hfree hr h1 H
   refine⟨fun h=>(by rw[h] at hr;cases hr),fun j hj=>?_⟩
   by_cases hji:j=i
   ·subst hji;exact⟨oi,σ1,hi,Xj,h1,H⟩
   ·obtain⟨oj,σ2,US,ZY,h2,H2⟩:=H.2 j (ready_mono hj hji)
    obtain⟨Q4,ZZ,Q5,hall⟩:=mem_ready.1 hj
    rw[US] at Q5
    obtain rfl:=Option.some.inj Q5
    have hap:apart oi oj (fp i) (fp j)=true:=by
     rcases hfree j oj US hji Q4 with hw|hap
     ·exact(KC (mem_ready.1 hr).1 (hw.ready rR hj)).elim
     ·exact hap
    obtain⟨Q2,k1,k2⟩:=Q1 hap hsub h1 h2
    refine⟨oj,Q2,US,ZY,k1,ih (listed.setIfInBounds j true) Q2 σ2 (rR.list hj) (fun k ok hk hki hun=>hfree k ok hk hki ?_) (ready_mono hr (Ne.symm hji)) k2 ?_⟩
    ·by_cases O9:j=k
     ·subst O9;exact Q4
     ·rw[getD_set_ne true O9] at hun;exact hun
    ·rw[Array.setIfInBounds_comm _ _ hji];exact H2
end
end Go.Ge
namespace Go.Ge
set_option linter.unusedVariables false
set_option linter.unusedSimpArgs false
open RowKit
section
variable {P:Program} {B:nY} {N:Nat} {γ:Gh} {cx:Ctx} {nb:Nat} {bf:List Nat} {inl:Nat→List aQ→St→Tree (aQ×St)} {σ σ' τ:St} {ops:Array Oper} {fp:Nat→Fp}
def Tl(cx:Ctx)(nb:Nat)(bf:List Nat)(inl:Nat→List aQ→St→Tree (aQ×St))(ops:Array Oper)(fp:Nat→Fp):Nat→List Oper→St→St→Prop
 | _,[],σ,σ'=>σ=σ'
 | k,o::l,σ,σ'=>o.guard=none∧((fp k).DL=false→Kz cx nb o (fp k))∧((fp k).DL=true→(fp k).wr=[])∧(∀e∈o.after,Region.binds .any e=true→e.on<k) ∧
  (∀j oj,l[j]?=some oj→Reach ops (k+1+j) k∨apart o oj (fp k) (fp (k+1+j))=true) ∧
  ∃σ1,(fZ cx nb bf inl (fp k) o σ).run=some σ1∧Tl cx nb bf inl ops fp (k+1) l σ1 σ'
theorem EN{o:Oper}{f fk:Fp}{k m mk:Nat}{ok:Oper}{r:List wg}(h:loose o f m ((k,ok,fk,mk)::r)=true):(Nat.testBit m k=true∨apart ok o fk f=true)∧loose o f m r=true:=by
 simp only[loose,Bool.and_eq_true,Bool.or_eq_true] at h
 exact h
theorem Q6(o:Oper)(σ:St)(h:(tU cx nb o σ).DL=true):(tU cx nb o σ).wr=[]:=by
 unfold tU at h⊢
 dsimp only at h⊢
 split at h<;>first|cases h|skip
 rfl
theorem I8:∀(l:List Oper) (k:Nat) (done:List wg) (σ:St),(∀j o,l[j]?=some o→ops[k+j]?=some o)→pg ops done→(D7 cx nb bf inl (number k l) done σ).run=some σ' →
  ∃fs:List (Fp×Nat),fs.length=l.length∧(∀j m b,fs[j]?=some m→Nat.testBit m.2 b=true→Reach ops (k+j) b) ∧
   ∀fp:Nat→Fp,(∀j f,fs[j]?=some f→fp (k+j)=f.1)→Tl cx nb bf inl ops fp k l σ σ'∧∀j o f,l[j]?=some o→fs[j]?=some f→loose o (fp (k+j)) f.2 done=true:=by
 intro l
 induction l with
 | nil =>
   intro k done σ _ _ h
   exact⟨[],rfl,fun j m b h=>absurd h (by simp),fun fp _=>⟨Option.some.inj h,fun j o f hj=>absurd hj (by simp)⟩⟩
 | cons o l ih =>
   intro k done σ hl hm h
   simp only[number,D7] at h
   split at h
   ·cases h
   ·rename_i hg
    obtain⟨hc,h1⟩:=aA h
    obtain⟨σ1,h2,h3⟩:=bind_some h1
    simp only[Bool.and_eq_true] at hc
    have hk:ops[k]?=some o:=hl 0 o rfl
    obtain⟨fs,f1,fm,f2⟩:=ih (k+1) _ σ1 (fun j o' hj=>by have:=hl (j+1) o' (by simpa using hj);rw[←this];congr 1;omega) (hm.cons hk) h3
    refine⟨(tU cx nb o σ,mask done o)::fs,by simp[f1],fun j m b hj hb=>?_,fun fp Qf=>?_⟩
    ·cases j with
     | zero=>obtain rfl:=Option.some.inj hj;exact zl hm hk hb
     | succ j=>have:=fm j m b (by simpa using hj) hb;rw[show k+(j+1)=k+1+j by omega];exact this
    have h0:fp k=tU cx nb o σ:=Qf 0 _ rfl
    obtain⟨g1,g2⟩:=f2 fp fun j f hj=>by have:=Qf (j+1) f (by simpa using hj);rw[←this];congr 1;omega
    refine⟨⟨hg,fun hb=>by rw[h0] at hb⊢;exact DT o σ hb,fun hb=>by rw[h0] at hb⊢;exact Q6 o σ hb,fun e he hb=>?_,fun j oj hj=>?_,σ1,by rw[h0];exact h2,g1⟩,fun j o' f hj hf=>?_⟩
    ·have:=hc.2
     rw[←Array.all_toList,List.all_eq_true] at this
     have:=this e (by simpa using he)
     rw[hb] at this
     have:=Nat.le_of_ble_eq_true (by simpa [Nat.blt] using this)
     omega
    ·obtain⟨f,hf⟩:∃f,fs[j]?=some f:=⟨_,List.getElem?_eq_getElem (by rw[f1];exact(List.getElem?_eq_some_iff.1 hj).1)⟩
     rcases(EN (g2 j oj f hj hf)).1 with q|q
     ·exact .inl (fm j f k hf q)
     ·rw[h0];exact .inr q
    ·cases j with
     | zero =>
       obtain rfl:=Option.some.inj hj
       obtain rfl:=Option.some.inj hf
       rw[Nat.add_zero,h0];exact hc.1
     | succ j =>
       have:=(EN (g2 j o' f (by simpa using hj) (by simpa using hf))).2
       rw[show k+(j+1)=k+1+j by omega];exact this
theorem Q7:∀(l:List Oper) (k:Nat) (listed:Array Bool) (σ:St),(∀j,l[j]?=ops[k+j]?)→listed.size=ops.size→(∀j,j<k→j<ops.size→listed.getD j false=true) →
  (∀j,k≤j→j<ops.size→listed.getD j true=false)→I7 ops listed→Tl cx nb bf inl ops fp k l σ σ'→Q3 cx nb bf inl ops fp (·=σ') l.length listed σ:=by
 intro l
 induction l with
 | nil =>
   intro k listed σ hl hs h1 h2 rR h
   refine⟨?_,h⟩
   cases hr:Region.ready .any ops listed with
   | nil=>rfl
   | cons i r =>
     exfalso
     have hi:i∈Region.ready .any ops listed:=by rw[hr];exact List.mem_cons_self ..
     obtain⟨g1,o,g2,_⟩:=mem_ready.1 hi
     have hlt:i<ops.size:=(Array.getElem?_eq_some_iff.1 g2).1
     rcases Nat.lt_or_ge i k with hk|hk
     ·have:=h1 i hk hlt
      simp[hs,hlt] at this g1
      rw[this] at g1;cases g1
     ·have:=hl (i-k)
      rw[show k+(i-k)=i by omega,g2] at this
      cases this
 | cons o l ih =>
   intro k listed σ hl hs h1 h2 rR h
   have hk:ops[k]?=some o:=by simpa using(hl 0).symm
   have hlt:k<ops.size:=(Array.getElem?_eq_some_iff.1 hk).1
   obtain⟨c1,c2,YW,c3,c4,σ1,c5,c6⟩:=h
   have EO:k∈Region.ready .any ops listed:=mem_ready.2 ⟨h2 k (Nat.le_refl _) hlt,o,hk,fun e he hb=>by
    have:=c3 e he hb
    exact h1 e.on this (by omega)⟩
   refine MS hk c1 (fun b hb=>?_) l.length listed σ σ1 rR (fun j oj hj hne hun=>?_) EO c5 (ih (k+1) _ σ1 (fun j=>?_) (by simp[hs]) (fun j hj SO=>?_) (fun j hj SO=>?_) (rR.list EO) c6)
   ·cases I6:(fp k).DL with
    | true=>rw[YW I6] at hb;cases hb
    | false=>exact(c2 I6).sub b hb
   ·have Q8:j<ops.size:=(Array.getElem?_eq_some_iff.1 hj).1
    rcases Nat.lt_or_ge j k with O9|O9
    ·exfalso
     have:=h1 j O9 Q8
     simp[hs,Q8] at this hun
     rw[this] at hun;cases hun
    ·have hq:=hl (j-k)
     rw[show k+(j-k)=j by omega,hj] at hq
     obtain⟨m,hm⟩:∃m,j-k=m+1:=⟨j-k-1,by omega⟩
     rw[hm] at hq
     have:=c4 m oj (by simpa using hq)
     rw[show k+1+m=j by omega] at this
     exact this
   ·have:=hl (j+1)
    rw[show k+1+j=k+(j+1) by omega,←this];simp
   ·by_cases e:j=k
    ·subst e;simp[hs,hlt]
    ·rw[getD_set_ne false (Ne.symm e)];exact h1 j (by omega) SO
   ·rw[getD_set_ne true (by omega:k≠j)];exact h2 j (by omega) SO
theorem EP:∀{l:List Oper} {k j:Nat} {o:Oper},l[j]?=some o→(k+j,o)∈number k l:=by
 intro l
 induction l with
 | nil=>intro k j o h;cases h
 | cons p l ih =>
   intro k j o h
   cases j with
   | zero=>obtain rfl:=Option.some.inj h;exact List.mem_cons_self ..
   | succ j=>exact List.mem_cons_of_mem _ (by rw[show k+(j+1)=k+1+j by omega];exact ih (by simpa using h))
theorem ER{d:Nat}:∀{items:List (Nat×Oper)},kM d items=false→∀{i:Nat} {o:Oper},(i,o)∈items→o.dst≠some d:=fun h _ _ hm=>ME h _ _ hm
theorem GJ(hc:eG P cx)(dG:mC P B.G cx)(jK:sI P B.G inl){Q:Exit→Act→World→Prop}(Qf:∀i o,ops[i]?=some o→(fp i).DL=false→Kz cx nb o (fp i))
  (hd:∀o∈ops.toList,∀k,o.dst=some k→k<N):∀(n:Nat) (listed:Array Bool) (σ:St) (γ:Gh) (a:Act) (w:World),Q3 cx nb bf inl ops fp (·=σ') n listed σ→cG B N γ σ a w →
   (∀γ' a' w',cG B N γ' σ' a' w'→Ext B γ σ.mem w γ' σ'.mem w'→Fr (number 0 ops.toList) a a'→Q .normal a' w')→wpAny P .any ops Q n listed a w:=by
 intro n
 induction n with
 | zero =>
   intro listed σ γ a w h hs hK
   obtain⟨h1,rfl⟩:=h
   exact⟨h1,hK γ a w hs (Ext.refl _ _ _ _) fun t _=>rfl⟩
 | succ n ih =>
   intro listed σ γ a w h hs hK
   refine⟨fun h0=>?_,fun i hi=>?_⟩
   ·obtain rfl:=h.1 h0
    exact hK γ a w hs (Ext.refl _ _ _ _) fun t _=>rfl
   ·obtain⟨o,σ1,h1,h2,h3,h4⟩:=h.2 i hi
    have hmem:o∈ops.toList:=by
     have:=Array.mem_of_getElem? h1
     simpa using this
    have N9:(i,o)∈number 0 ops.toList:=by
     have:=EP (l:=ops.toList) (k:=0) (j:=i) (o:=o) (by simpa using h1)
     simpa using this
    unfold wpOp
    rw[h1]
    dsimp only
    have hw:Region.wanted o (yielded ops a.tmps)=true:=by unfold Region.wanted;rw[h2]
    rw[hw]
    simp only[if_true]
    refine .inl (EA hc dG jK hs (hd o hmem) (xQ (Qf i o h1) h3) fun ij v w1 s1 x1=>?_)
    refine ih _ σ1 ij _ w1 h4 s1 fun BD a2 w2 s2 x2 f2=>hK BD a2 w2 s2 (x1.trans x2) fun t ht=>?_
    rw[f2 t ht,eL (ER ht N9)]
theorem cG.draw{a:Act}{w:World}(h:cG B N γ σ a w)(n:Nat):cG B N γ σ a { w with drawn:=n }∧Ext B γ σ.mem w γ σ.mem { w with drawn:=n }:=by
 obtain⟨m1,m2⟩:=h.ok.Xe (w':={ w with drawn:=n }) (I':=γ.I) ⟨rfl,rfl,rfl,Nat.le_refl _,fun _ _=>rfl⟩ (fun _ _ k=>k) (fun b o k=>h.ok.qu b o k) (fun b o k k'=>absurd k k')
 exact⟨h.go m2 m1,m2⟩
theorem I9(pU:P.follows .mixedOrders=true)(hc:eG P cx)(dG:mC P B.G cx)(jK:sI P B.G inl){Q:Exit→Act→World→Prop}{id:Nat}{a:Act}{w:World}
  (hd:∀o∈ops.toList,∀k,o.dst=some k→k<N) (hr:(D7 cx nb bf inl (number 0 ops.toList) [] σ).run=some σ') (h:cG B N γ σ a w)
  (hK:∀γ' a' w',cG B N γ' σ' a' w'→Ext B γ σ.mem w γ' σ'.mem w'→Fr (number 0 ops.toList) a a'→Q .normal a' w'):(Code.region id ops true).wp P Q a w:=by
 refine wp_region_any pU ?_
 obtain⟨fs,f1,fm,f2⟩:=I8 (ops:=ops) ops.toList 0 [] σ (fun j o hj=>by simpa using hj) pg.nil hr
 let fp:Nat→Fp:=fun i=>(fs[i]?.map (·.1)).getD ⟨[],[],true,none⟩
 obtain⟨g1,_⟩:=f2 fp fun j f hj=>by simp[fp,hj]
 have key:∀(l:List Oper) (k:Nat) (σ:St),Tl cx nb bf inl ops fp k l σ σ'→∀j o,l[j]?=some o→(fp (k+j)).DL=false→Kz cx nb o (fp (k+j)):=by
  intro l
  induction l with
  | nil=>intro k σ _ j o hj;cases hj
  | cons o l ih =>
    intro k σ hL j o' hj
    obtain⟨c1,c2,YW,c3,c4,σ1,c5,c6⟩:=hL
    cases j with
    | zero=>obtain rfl:=Option.some.inj hj;exact c2
    | succ j=>rw[show k+(j+1)=k+1+j by omega];exact ih (k+1) σ1 c6 j o' (by simpa using hj)
 have hA:=Q7 (ops:=ops) (cx:=cx) (nb:=nb) (bf:=bf) (inl:=inl) (fp:=fp) (σ':=σ') ops.toList 0 (Array.replicate ops.size false) σ (by simp) (by simp) (fun j hj=>by omega)
  (fun j _ hj=>by simp[hj]) (fun i o e hi=>by
   exfalso
   rcases Nat.lt_or_ge i ops.size with h'|h'<;>simp[h'] at hi) g1
 obtain⟨s1,x1⟩:=h.draw (w.drawn+1)
 refine GJ hc dG jK (fun i o hi=>by have:=key _ 0 σ g1 i o (by simpa using hi);simpa using this) hd _ _ σ γ a _ (by simpa using hA) s1 fun γ' a' w' s x f=>hK γ' a' w' s (x1.trans x) f
end
end Go.Ge
namespace Go.Ge
set_option linter.unusedVariables false
set_option linter.unusedSimpArgs false
open RowKit
section
variable {cx:Ctx} {nb:Nat} {bf:List Nat} {inl:Nat→List aQ→St→Tree (aQ×St)} {ops:Array Oper} {fp:Nat→Fp}
abbrev Gj:=St×(Nat→Bool)
def zm(ops:Array Oper)(o:Oper)(s:Gj):Option Bool:=match o.guard with
 | none=>some true
 | some (g,want)=>match(ops[g]?).bind (·.dst) with
   | none=>none
   | some dg=>bif s.2 g then some false else match s.1.slots dg with
     | .data .bool c=>some ((show Bool from c)==want)
     | _=>none
def kY(cx:Ctx)(nb:Nat)(bf:List Nat)(inl:Nat→List aQ→St→Tree (aQ×St))(ops:Array Oper)(f:Fp)(i:Nat)(o:Oper)(s:Gj):Option Gj:=match zm ops o s with
 | none=>none
 | some true=>(fZ cx nb bf inl f o s.1).run.map fun σ=>(σ,s.2)
 | some false=>some (s.1.aR o.dst .undef,fy i s.2)
def Wr:St:={ slots:=fun _=>.undef,mem:=fun _=>none }
theorem KD(σ:St)(d:Option Nat):σ.aR d .undef=lay σ d [] Wr:=by
 unfold lay
 cases d with
 | none=>rfl
 | some k=>rfl
theorem Hz{f:Fp}{i:Nat}{o:Oper}{s s':Gj}(hb:f.DL=false)(h:kY cx nb bf inl ops f i o s=some s'):∃b wr τ,zm ops o s=some b∧s'=(lay s.1 o.dst wr τ,bif b then s.2 else fy i s.2)∧(∀x∈wr,x∈f.wr) ∧
  ∀s0:Gj,zm ops o s0=some b→(b=true→s0.1.only (tmpsOf (dZ o.op)) f.rd=s.1.only (tmpsOf (dZ o.op)) f.rd)→kY cx nb bf inl ops f i o s0=some (lay s0.1 o.dst wr τ,bif b then s0.2 else fy i s0.2):=by
 unfold kY at h
 cases hd:zm ops o s with
 | none=>rw[hd] at h;cases h
 | some b =>
   rw[hd] at h
   cases b with
   | true =>
     simp only at h
     obtain⟨σ',h1,rfl⟩:=Option.map_eq_some_iff.1 h
     unfold fZ at h1
     rw[hb] at h1
     simp only[cond_false] at h1
     obtain⟨τ,h2,h3⟩:=bind_some h1
     obtain rfl:=Option.some.inj h3
     refine⟨true,f.wr,τ,rfl,rfl,fun x hx=>hx,fun s0 h0 h4=>?_⟩
     unfold kY
     rw[h0]
     simp only
     unfold fZ
     rw[hb]
     simp only[cond_false]
     rw[Tree.run_bind,h4 rfl,h2]
     rfl
   | false =>
     simp only at h
     obtain rfl:=Option.some.inj h
     refine⟨false,[],Wr,rfl,by rw[KD];rfl,fun x hx=>(nomatch hx),fun s0 h0 _=>?_⟩
     unfold kY
     rw[h0]
     simp only
     rw[KD]
     rfl
theorem KE{i j:Nat}{x y:Oper}{f g:Fp}(h:wk ops i j x y f g=true):f.DL=false∧g.DL=false∧(∀b∈f.wr,b∉g.rd)∧(∀b∈g.wr,b∉f.rd)∧tV x j=true∧tV y i=true ∧
  (∀d,x.dst=some d→d∉yU ops y)∧(∀d,y.dst=some d→d∉yU ops x)∧(∀d e,x.dst=some d→y.dst=some e→d≠e):=by
 simp only[wk,Bool.and_eq_true,Bool.not_eq_true'] at h
 obtain⟨⟨⟨⟨⟨⟨⟨h1,h2⟩,h3⟩,h4⟩,g1⟩,g2⟩,h5⟩,h6⟩:=h
 refine⟨h1,h2,fun b hb=>xR h3 hb,fun b hb=>xR h4 hb,g1,g2,fun d hd=>?_,fun d hd=>?_,fun d e hd he=>?_⟩
 ·rw[hd] at h5
  simp only[Bool.and_eq_true,Bool.not_eq_true'] at h5
  exact gV.1 h5.1
 ·rw[hd] at h6
  simp only[Bool.not_eq_true'] at h6
  exact gV.1 h6
 ·rw[hd,he] at h5
  simp only[Bool.and_eq_true,Bool.not_eq_true'] at h5
  intro q
  subst q
  simp at h5
theorem ES{i:Nat}{o:Oper}{s:Gj}{d:Option Nat}{wr:List Nat}{τ:St}{b:Bool}(hg:tV o i=true)(hd:∀k,d=some k→k∉yU ops o):zm ops o (lay s.1 d wr τ,bif b then s.2 else fy i s.2)=zm ops o s:=by
 unfold zm
 cases hgd:o.guard with
 | none=>rfl
 | some p =>
   obtain⟨g,want⟩:=p
   dsimp only
   cases VP:(ops[g]?).bind (·.dst) with
   | none=>rfl
   | some dg =>
     dsimp only
     have Xj:Nat.beq g i=false:=by
      unfold tV at hg
      rw[hgd] at hg
      simpa using hg
     have h1:(bif b then s.2 else fy i s.2) g=s.2 g:=by
      cases b with
      | true=>rfl
      | false=>simp only[cond_false,fy,Xj,Bool.false_or]
     have h2:(lay s.1 d wr τ).slots dg=s.1.slots dg:=by
      unfold lay
      cases d with
      | none=>rfl
      | some k =>
        have hne:dg≠k:=fun e=>hd k rfl (by
         unfold yU Hs
         rw[hgd]
         dsimp only
         rw[VP]
         subst e
         exact List.mem_cons_self ..)
        simp[fQ hne]
     rw[h1,h2]
theorem Q9(σ:St){di dj:Option Nat}{wi wj:List Nat}{Xi VO:St}(hd:∀d e,di=some d→dj=some e→d≠e)(hw:∀b∈wi,b∉wj):lay (lay σ dj wj VO) di wi Xi=lay (lay σ di wi Xi) dj wj VO:=by
 unfold lay
 congr 1
 ·cases di with
  | none=>rfl
  | some k =>
    cases dj with
    | none=>rfl
    | some e =>
      have hne:=hd k e rfl rfl
      funext t
      dsimp only
      by_cases q1:t=k
      ·subst q1;simp[fQ hne]
      ·by_cases q2:t=e
       ·subst q2;simp[fQ q1]
       ·simp[fQ q1,fQ q2]
 ·funext b
  dsimp only
  cases hw1:cT wi b with
  | false=>rfl
  | true =>
    have:b∉wj:=hw b (lC.1 hw1)
    simp[gV.2 this]
theorem MT{i j:Nat}{oi oj:Oper}{fi fj:Fp}{s s1 s2:Gj}(hap:wk ops i j oi oj fi fj=true)(hsi:∀b∈fi.wr,b∈fi.rd)(h1:kY cx nb bf inl ops fi i oi s=some s1)(h2:kY cx nb bf inl ops fj j oj s1=some s2) :
  ∃s1',kY cx nb bf inl ops fj j oj s=some s1'∧kY cx nb bf inl ops fi i oi s1'=some s2:=by
 obtain⟨b1,b2,w1,w2,g1,g2,d1,d2,d3⟩:=KE hap
 obtain⟨bi,wi,Xi,e1,e2,e3,e4⟩:=Hz b1 h1
 subst e2
 obtain⟨bj,wj,VO,k1,k2,k3,k4⟩:=Hz b2 h2
 subst k2
 rw[ES g2 d1] at k1
 have tm:∀{o:Oper} {k:Nat},k∉yU ops o→k∉tmpsOf (dZ o.op):=fun h hm=>h (List.mem_append_right _ hm)
 have hj:=k4 s k1 fun _=>(Av (fun k hk=>tm (d1 k hk)) (fun b hb=>w1 b (e3 b hb))).symm
 refine⟨_,hj,?_⟩
 have hi:=e4 (lay s.1 oj.dst wj VO,bif bj then s.2 else fy j s.2) (by rw[ES g1 d2];exact e1) fun _=>Av (fun k hk=>tm (d2 k hk)) (fun b hb=>w2 b (k3 b hb))
 rw[hi]
 congr 1
 refine Prod.ext ?_ ?_
 ·exact Q9 s.1 d3 (fun b hb hb2=>w2 b (k3 b hb2) (hsi b (e3 b hb)))
 ·dsimp only
  cases bi<;>cases bj<;>first|rfl|skip
  simp only[cond_false]
  funext k
  simp only[fy]
  cases Nat.beq k i<;>cases Nat.beq k j<;>rfl
def Ja(cx:Ctx)(nb:Nat)(bf:List Nat)(inl:Nat→List aQ→St→Tree (aQ×St))(ops:Array Oper)(fp:Nat→Fp)(Q:Gj→Prop):Nat→Array Bool→Gj→Prop
 | 0,listed,s=>Region.ready .any ops listed=[]∧Q s
 | n+1,listed,s=>(Region.ready .any ops listed=[]→Q s) ∧
  ∀i∈Region.ready .any ops listed,∃o s',ops[i]?=some o∧kY cx nb bf inl ops (fp i) i o s=some s'∧Ja cx nb bf inl ops fp Q n (listed.setIfInBounds i true) s'
variable {Q:Gj→Prop}
theorem MU{i:Nat}{oi:Oper}(hi:ops[i]?=some oi)(hsub:∀b∈(fp i).wr,b∈(fp i).rd):∀(n:Nat) (listed:Array Bool) (s s1:Gj),
  I7 ops listed→(∀j oj,ops[j]?=some oj→j≠i→listed.getD j true=false→Reach ops j i∨wk ops i j oi oj (fp i) (fp j)=true) →
  i∈Region.ready .any ops listed→kY cx nb bf inl ops (fp i) i oi s=some s1→Ja cx nb bf inl ops fp Q n (listed.setIfInBounds i true) s1→Ja cx nb bf inl ops fp Q (n+1) listed s:=by
 intro n
 induction n with
 | zero =>
   intro listed s s1 rR hfree hr h1 H
   refine⟨fun h=>(by rw[h] at hr;cases hr),fun j hj=>?_⟩
   by_cases hji:j=i
   ·subst hji;exact⟨oi,s1,hi,h1,H⟩
   ·have:=ready_mono hj hji
    rw[H.1] at this
    cases this
 | succ n ih =>
   intro listed s s1 rR hfree hr h1 H
   refine⟨fun h=>(by rw[h] at hr;cases hr),fun j hj=>?_⟩
   by_cases hji:j=i
   ·subst hji;exact⟨oi,s1,hi,h1,H⟩
   ·obtain⟨oj,s2,US,h2,H2⟩:=H.2 j (ready_mono hj hji)
    obtain⟨Q4,ZZ,Q5,hall⟩:=mem_ready.1 hj
    rw[US] at Q5
    obtain rfl:=Option.some.inj Q5
    have hap:wk ops i j oi oj (fp i) (fp j)=true:=by
     rcases hfree j oj US hji Q4 with hw|hap
     ·exact(KC (mem_ready.1 hr).1 (hw.ready rR hj)).elim
     ·exact hap
    obtain⟨s1',k1,k2⟩:=MT hap hsub h1 h2
    refine⟨oj,s1',US,k1,ih (listed.setIfInBounds j true) s1' s2 (rR.list hj) (fun k ok hk hki hun=>hfree k ok hk hki ?_) (ready_mono hr (Ne.symm hji)) k2 ?_⟩
    ·by_cases O9:j=k
     ·subst O9;exact Q4
     ·rw[getD_set_ne true O9] at hun;exact hun
    ·rw[Array.setIfInBounds_comm _ _ hji];exact H2
end
end Go.Ge
namespace Go.Ge
set_option linter.unusedVariables false
set_option linter.unusedSimpArgs false
open RowKit
section
variable {P:Program} {B:nY} {N:Nat} {γ:Gh} {cx:Ctx} {nb:Nat} {bf:List Nat} {inl:Nat→List aQ→St→Tree (aQ×St)} {σ σ':St} {ops:Array Oper} {fp:Nat→Fp}
theorem Ra{σ:St}{d:Nat}{v:aQ}(h:σ.slots d=v):σ.put d v=σ:=by
 unfold St.put
 obtain⟨sl,mm⟩:=σ
 congr 1
 funext t
 cases hb:Nat.beq t d with
 | true=>obtain rfl:=Nat.eq_of_beq_eq_true hb;exact h.symm
 | false=>rfl
def Tm(cx:Ctx)(nb:Nat)(bf:List Nat)(inl:Nat→List aQ→St→Tree (aQ×St))(ops:Array Oper)(fp:Nat→Fp):Nat→List Oper→Gj→Gj→Prop
 | _,[],s,s'=>s=s'
 | k,o::l,s,s'=>(((fp k).DL=false→Kz cx nb o (fp k))∧((fp k).DL=true→(fp k).wr=[]))∧(∀e∈o.after,Region.binds .any e=true→e.on<k) ∧
  (∀j oj,l[j]?=some oj→Reach ops (k+1+j) k∨wk ops k (k+1+j) o oj (fp k) (fp (k+1+j))=true) ∧
  ∃s1,kY cx nb bf inl ops (fp k) k o s=some s1∧Tm cx nb bf inl ops fp (k+1) l s1 s'
theorem Cz{i:Nat}{o:Oper}{f fk:Fp}{k m mk:Nat}{ok:Oper}{r:List wg}(h:yV ops i o f m ((k,ok,fk,mk)::r)=true):(Nat.testBit m k=true∨wk ops k i ok o fk f=true)∧yV ops i o f m r=true:=by
 simp only[yV,Bool.and_eq_true,Bool.or_eq_true] at h
 exact h
theorem ET{i:Nat}{o:Oper}{r:List (Nat×Oper)}{done:List wg}{sk:Nat→Bool}(h:(qs cx nb bf inl ops ((i,o)::r) done σ sk).run=some σ') :
  ∃s1:Gj,yV ops i o (tU cx nb o σ) (mask done o) done=true∧(∀e∈o.after,Region.binds .any e=true→e.on<i)∧kY cx nb bf inl ops (tU cx nb o σ) i o (σ,sk)=some s1 ∧
   (qs cx nb bf inl ops r ((i,o,tU cx nb o σ,mask done o)::done) s1.1 s1.2).run=some σ':=by
 simp only[qs] at h
 obtain⟨hc,h1⟩:=aA h
 simp only[Bool.and_eq_true] at hc
 obtain⟨hc2,VQ⟩:=hc
 have Ws:∀e∈o.after,Region.binds .any e=true→e.on<i:=fun e he hb=>by
  rw[←Array.all_toList,List.all_eq_true] at VQ
  have:=VQ e (by simpa using he)
  rw[hb] at this
  have:=Nat.le_of_ble_eq_true (by simpa [Nat.blt] using this)
  omega
 suffices ∃s1:Gj,kY cx nb bf inl ops (tU cx nb o σ) i o (σ,sk)=some s1∧(qs cx nb bf inl ops r ((i,o,tU cx nb o σ,mask done o)::done) s1.1 s1.2).run=some σ' by
  obtain⟨s1,k1,k2⟩:=this
  exact⟨s1,hc2,Ws,k1,k2⟩
 split at h1
 ·rename_i hg
  obtain⟨σ1,h2,h3⟩:=bind_some h1
  refine⟨(σ1,sk),?_,h3⟩
  have hd:zm ops o (σ,sk)=some true:=by unfold zm;rw[hg]
  unfold kY
  rw[hd]
  dsimp only
  rw[h2];rfl
 ·rename_i g want hg
  split at h1
  ·cases h1
  ·rename_i dg VP
   cases Tn:sk g with
   | true =>
     rw[Tn] at h1
     refine⟨(σ.aR o.dst .undef,fy i sk),?_,h1⟩
     have hd:zm ops o (σ,sk)=some false:=by unfold zm;rw[hg];dsimp only;rw[VP];dsimp only;rw[Tn];rfl
     unfold kY
     rw[hd]
   | false =>
     rw[Tn] at h1
     simp only[cond_false] at h1
     split at h1
     ·rename_i c Ar
      change Bool at c
      have hn:=eU h1
      have hd:zm ops o (σ,sk)=some (c==want):=by unfold zm;rw[hg];dsimp only;rw[VP];dsimp only;rw[Tn];simp only[cond_false];rw[Ar]
      have hput:=Ra Ar
      have run:∀{σ1:St},(fZ cx nb bf inl (tU cx nb o σ) o σ).run=some σ1→(c==want)=true→kY cx nb bf inl ops (tU cx nb o σ) i o (σ,sk)=some (σ1,sk):=fun h2 hw=>by
       unfold kY
       rw[hd,hw]
       dsimp only
       rw[h2];rfl
      have skip:(c==want)=false→kY cx nb bf inl ops (tU cx nb o σ) i o (σ,sk)=some (σ.aR o.dst .undef,fy i sk):=fun hw=>by
       unfold kY
       rw[hd,hw]
      cases c with
      | true =>
        simp only[cond_true] at hn
        rw[hput] at hn
        cases want with
        | true=>obtain⟨σ1,h2,h3⟩:=bind_some hn;exact⟨(σ1,sk),run h2 rfl,h3⟩
        | false=>exact⟨_,skip rfl,hn⟩
      | false =>
        simp only[cond_false] at hn
        rw[hput] at hn
        cases want with
        | true=>exact⟨_,skip rfl,hn⟩
        | false=>obtain⟨σ1,h2,h3⟩:=bind_some hn;exact⟨(σ1,sk),run h2 rfl,h3⟩
     ·cases h1
theorem GK:∀(l:List Oper) (k:Nat) (done:List wg) (σ:St) (sk:Nat→Bool),(∀j o,l[j]?=some o→ops[k+j]?=some o)→pg ops done→(qs cx nb bf inl ops (number k l) done σ sk).run=some σ' →
  ∃(fs:List (Fp×Nat)) (Wt:Nat→Bool),fs.length=l.length∧(∀j m b,fs[j]?=some m→Nat.testBit m.2 b=true→Reach ops (k+j) b) ∧
   ∀fp:Nat→Fp,(∀j f,fs[j]?=some f→fp (k+j)=f.1)→Tm cx nb bf inl ops fp k l (σ,sk) (σ',Wt)∧∀j o f,l[j]?=some o→fs[j]?=some f→yV ops (k+j) o (fp (k+j)) f.2 done=true:=by
 intro l
 induction l with
 | nil =>
   intro k done σ sk _ _ h
   obtain rfl:=Option.some.inj h
   exact⟨[],sk,rfl,fun j m b h=>absurd h (by simp),fun fp _=>⟨rfl,fun j o f hj=>absurd hj (by simp)⟩⟩
 | cons o l ih =>
   intro k done σ sk hl hm h
   obtain⟨s1,h2,h3,h4,h5⟩:=ET (r:=number (k+1) l) h
   have hk:ops[k]?=some o:=hl 0 o rfl
   obtain⟨fs,Wt,f1,fm,f2⟩:=ih (k+1) _ s1.1 s1.2 (fun j o' hj=>by have:=hl (j+1) o' (by simpa using hj);rw[←this];congr 1;omega) (hm.cons hk) h5
   refine⟨(tU cx nb o σ,mask done o)::fs,Wt,by simp[f1],fun j m b hj hb=>?_,fun fp Qf=>?_⟩
   ·cases j with
    | zero=>obtain rfl:=Option.some.inj hj;exact zl hm hk hb
    | succ j=>have:=fm j m b (by simpa using hj) hb;rw[show k+(j+1)=k+1+j by omega];exact this
   have h0:fp k=tU cx nb o σ:=Qf 0 _ rfl
   obtain⟨g1,g2⟩:=f2 fp fun j f hj=>by have:=Qf (j+1) f (by simpa using hj);rw[←this];congr 1;omega
   refine⟨⟨⟨fun hb=>by rw[h0] at hb⊢;exact DT o σ hb,fun hb=>by rw[h0] at hb⊢;exact Q6 o σ hb⟩,h3,fun j oj hj=>?_,s1,by rw[h0];exact h4,g1⟩,fun j o' f hj hf=>?_⟩
   ·obtain⟨f,hf⟩:∃f,fs[j]?=some f:=⟨_,List.getElem?_eq_getElem (by rw[f1];exact(List.getElem?_eq_some_iff.1 hj).1)⟩
    rcases(Cz (g2 j oj f hj hf)).1 with q|q
    ·exact .inl (fm j f k hf q)
    ·rw[h0];exact .inr q
   ·cases j with
    | zero =>
      obtain rfl:=Option.some.inj hj
      obtain rfl:=Option.some.inj hf
      rw[Nat.add_zero,h0];exact h2
    | succ j =>
      have:=(Cz (g2 j o' f (by simpa using hj) (by simpa using hf))).2
      rw[show k+(j+1)=k+1+j by omega];exact this
theorem Rb{s':Gj}:∀(l:List Oper) (k:Nat) (listed:Array Bool) (s:Gj),(∀j,l[j]?=ops[k+j]?)→listed.size=ops.size→(∀j,j<k→j<ops.size→listed.getD j false=true) →
  (∀j,k≤j→j<ops.size→listed.getD j true=false)→I7 ops listed→Tm cx nb bf inl ops fp k l s s'→Ja cx nb bf inl ops fp (·=s') l.length listed s:=by
 intro l
 induction l with
 | nil =>
   intro k listed s hl hs h1 h2 rR h
   refine⟨?_,h⟩
   cases hr:Region.ready .any ops listed with
   | nil=>rfl
   | cons i r =>
     exfalso
     have hi:i∈Region.ready .any ops listed:=by rw[hr];exact List.mem_cons_self ..
     obtain⟨g1,o,g2,_⟩:=mem_ready.1 hi
     have hlt:i<ops.size:=(Array.getElem?_eq_some_iff.1 g2).1
     rcases Nat.lt_or_ge i k with hk|hk
     ·have:=h1 i hk hlt
      simp[hs,hlt] at this g1
      rw[this] at g1;cases g1
     ·have:=hl (i-k)
      rw[show k+(i-k)=i by omega,g2] at this
      cases this
 | cons o l ih =>
   intro k listed s hl hs h1 h2 rR h
   have hk:ops[k]?=some o:=by simpa using(hl 0).symm
   have hlt:k<ops.size:=(Array.getElem?_eq_some_iff.1 hk).1
   obtain⟨c2,c3,c4,s1,c5,c6⟩:=h
   have EO:k∈Region.ready .any ops listed:=mem_ready.2 ⟨h2 k (Nat.le_refl _) hlt,o,hk,fun e he hb=>by
    have:=c3 e he hb
    exact h1 e.on this (by omega)⟩
   refine MU hk (fun b hb=>by
    cases I6:(fp k).DL with
    | true=>rw[c2.2 I6] at hb;cases hb
    | false=>exact(c2.1 I6).sub b hb) l.length listed s s1 rR (fun j oj hj hne hun=>?_) EO c5 (ih (k+1) _ s1 (fun j=>?_) (by simp[hs]) (fun j hj SO=>?_) (fun j hj SO=>?_) (rR.list EO) c6)
   ·have Q8:j<ops.size:=(Array.getElem?_eq_some_iff.1 hj).1
    rcases Nat.lt_or_ge j k with O9|O9
    ·exfalso
     have:=h1 j O9 Q8
     simp[hs,Q8] at this hun
     rw[this] at hun;cases hun
    ·have hq:=hl (j-k)
     rw[show k+(j-k)=j by omega,hj] at hq
     obtain⟨m,hm⟩:∃m,j-k=m+1:=⟨j-k-1,by omega⟩
     rw[hm] at hq
     have:=c4 m oj (by simpa using hq)
     rw[show k+1+m=j by omega] at this
     exact this
   ·have:=hl (j+1)
    rw[show k+1+j=k+(j+1) by omega,←this];simp
   ·by_cases e:j=k
    ·subst e;simp[hs,hlt]
    ·rw[getD_set_ne false (Ne.symm e)];exact h1 j (by omega) SO
   ·rw[getD_set_ne true (by omega:k≠j)];exact h2 j (by omega) SO
theorem MV(hkeep:∀f vals σ v σ',(inl f vals σ).run=some (v,σ')→aY σ σ'):∀(l:List Oper) (k:Nat) (done:List wg) (σ σ':St) (sk:Nat→Bool),(qs cx nb bf inl ops (number k l) done σ sk).run=some σ'→aY σ σ':=by
 intro l
 induction l with
 | nil=>intro k done σ σ' sk h;obtain rfl:=Option.some.inj h;exact aY.refl _
 | cons o l ih =>
   intro k done σ σ' sk h
   obtain⟨s1,h2,h3,h4,h5⟩:=ET (r:=number (k+1) l) h
   refine aY.trans ?_ (ih _ _ _ _ _ h5)
   unfold kY at h4
   split at h4
   ·cases h4
   ·obtain⟨σ1,q1,rfl⟩:=Option.map_eq_some_iff.1 h4
    exact wH hkeep σ1 (xQ (fun hb=>DT o σ hb) q1)
   ·obtain rfl:=Option.some.inj h4
    exact aY.aR _ _ _
end
end Go.Ge
namespace Go.Ge
set_option linter.unusedVariables false
set_option linter.unusedSimpArgs false
open RowKit
section
variable {P:Program} {B:nY} {N:Nat} {γ:Gh} {cx:Ctx} {nb:Nat} {bf:List Nat} {inl:Nat→List aQ→St→Tree (aQ×St)} {σ σ':St} {ops:Array Oper} {fp:Nat→Fp}
theorem MW{l:List Oper}{j:Nat}{o:Oper}{d:Nat}(h:l[j]?=some o)(hd:o.dst=some d):d∈ja.Bu l:=by
 induction l generalizing j with
 | nil=>cases h
 | cons p l ih =>
   cases j with
   | zero=>obtain rfl:=Option.some.inj h;simp only[ja.Bu,hd];exact List.mem_cons_self ..
   | succ j =>
     have:=ih (j:=j) (by simpa using h)
     simp only[ja.Bu]
     split
     ·exact List.mem_cons_of_mem _ this
     ·exact this
theorem EU:∀{l:List Oper},ja l=true→∀{i j:Nat} {x y:Oper} {d:Nat},i<j→l[i]?=some x→l[j]?=some y→x.dst=some d→y.dst≠some d:=by
 intro l
 induction l with
 | nil=>intro _ i j x y d _ h;cases h
 | cons p l ih =>
   intro h i j x y d hij hx hy hd he
   simp only[ja,Bool.and_eq_true] at h
   obtain⟨m,rfl⟩:∃m,j=m+1:=⟨j-1,by omega⟩
   have hy':l[m]?=some y:=by simpa using hy
   cases i with
   | zero =>
     obtain rfl:=Option.some.inj hx
     have h1:=h.1
     rw[hd] at h1
     simp only[Bool.not_eq_true'] at h1
     exact gV.1 h1 (MW hy' he)
   | succ i=>exact ih h.2 (i:=i) (j:=m) (by omega) (by simpa using hx) hy' hd he
theorem MX(h:ja ops.toList=true){i j:Nat}{x y:Oper}{d:Nat}(hij:i≠j)(hx:ops[i]?=some x)(hy:ops[j]?=some y)(hd:x.dst=some d):y.dst≠some d:=by
 rcases Nat.lt_or_gt_of_ne hij with h1|h1
 ·exact EU h h1 (by simpa using hx) (by simpa using hy) hd
 ·intro he
  exact EU h h1 (by simpa using hy) (by simpa using hx) he hd
def MY(ops:Array Oper)(sk:Nat→Bool)(listed:Array Bool)(a:Act):Prop:=∀k,sk k=true→yielded ops a.tmps k=none∧listed.getD k true=true
theorem sL{a:Act}{i k:Nat}{o:Oper}{v:Value}(hnt:ja ops.toList=true)(hi:ops[i]?=some o)(hne:k≠i):yielded ops (a.put o.dst v).tmps k=yielded ops a.tmps k:=by
 unfold yielded
 cases hk:ops[k]? with
 | none=>rfl
 | some y =>
   simp only[Option.bind_some]
   cases hd:y.dst with
   | none=>rfl
   | some dk =>
     simp only[Option.bind_some]
     have:o.dst≠some dk:=MX hnt hne hk hi hd
     rw[eL this]
theorem MY.run{sk:Nat→Bool}{listed:Array Bool}{a:Act}{i:Nat}{o:Oper}{v:Value}(h:MY ops sk listed a)(hnt:ja ops.toList=true)(hi:ops[i]?=some o)(hl:listed.getD i true=false):MY ops sk (listed.setIfInBounds i true) (a.put o.dst v):=fun k hk=>by
 obtain⟨h1,h2⟩:=h k hk
 have hne:k≠i:=fun e=>by subst e;rw[h2] at hl;cases hl
 exact⟨by rw[sL hnt hi hne];exact h1,by rw[getD_set_ne true (Ne.symm hne)];exact h2⟩
theorem MY.skip{sk:Nat→Bool}{listed:Array Bool}{a:Act}{i:Nat}{o:Oper}(h:MY ops sk listed a)(hnt:ja ops.toList=true)(hi:ops[i]?=some o)(hl:listed.getD i true=false):MY ops (fy i sk) (listed.setIfInBounds i true) (a.put o.dst Go.undef):=fun k hk=>by
 by_cases hne:k=i
 ·subst hne
  refine⟨Ap hi,?_⟩
  rcases Nat.lt_or_ge k listed.size with h'|h'
  ·simp[h']
  ·simp[Array.getElem?_eq_none h'] at hl
 ·have hk':sk k=true:=by
   simp only[fy,fQ hne,Bool.false_or] at hk
   exact hk
  obtain⟨h1,h2⟩:=h k hk'
  exact⟨by rw[sL hnt hi hne];exact h1,by rw[getD_set_ne true (Ne.symm hne)];exact h2⟩
theorem GL(hc:eG P cx)(dG:mC P B.G cx)(jK:sI P B.G inl){Q:Exit→Act→World→Prop}(hnt:ja ops.toList=true)(Qf:∀i o,ops[i]?=some o→(fp i).DL=false→Kz cx nb o (fp i))
  (hd:∀o∈ops.toList,∀k,o.dst=some k→k<N):∀(n:Nat) (listed:Array Bool) (s:Gj) (γ:Gh) (a:Act) (w:World),Ja cx nb bf inl ops fp (fun s=>s.1=σ') n listed s→cG B N γ s.1 a w→MY ops s.2 listed a →
   (∀γ' a' w',cG B N γ' σ' a' w'→Ext B γ s.1.mem w γ' σ'.mem w'→Fr (number 0 ops.toList) a a'→Q .normal a' w')→wpAny P .any ops Q n listed a w:=by
 intro n
 induction n with
 | zero =>
   intro listed s γ a w h hs Tn hK
   obtain⟨h1,h2⟩:=h
   rw[←h2] at hK
   exact⟨h1,hK γ a w hs (Ext.refl _ _ _ _) fun t _=>rfl⟩
 | succ n ih =>
   intro listed s γ a w h hs Tn hK
   refine⟨fun h0=>?_,fun i hi=>?_⟩
   ·have h2:=h.1 h0
    rw[←h2] at hK
    exact hK γ a w hs (Ext.refl _ _ _ _) fun t _=>rfl
   ·obtain⟨o,s1,h1,h3,h4⟩:=h.2 i hi
    have hun:=(mem_ready.1 hi).1
    have hmem:o∈ops.toList:=by
     have:=Array.mem_of_getElem? h1
     simpa using this
    have N9:(i,o)∈number 0 ops.toList:=by
     have:=EP (l:=ops.toList) (k:=0) (j:=i) (o:=o) (by simpa using h1)
     simpa using this
    have hw:∀b,zm ops o s=some b→Region.wanted o (yielded ops a.tmps)=b:=by
     intro b hb
     unfold zm at hb
     cases hgd:o.guard with
     | none =>
       rw[hgd] at hb
       obtain rfl:=Option.some.inj hb
       unfold Region.wanted;rw[hgd]
     | some p =>
       obtain⟨g,want⟩:=p
       rw[hgd] at hb
       dsimp only at hb
       split at hb
       ·cases hb
       ·rename_i dg VP
        cases hg:s.2 g with
        | true =>
          rw[hg] at hb
          obtain rfl:=Option.some.inj hb
          unfold Region.wanted
          rw[hgd]
          simp only[(Tn g hg).1]
          rfl
        | false =>
          rw[hg] at hb
          simp only[cond_false] at hb
          split at hb
          ·rename_i c Ar
           change Bool at c
           obtain rfl:=Option.some.inj hb
           have ht:=Cx hs Ar
           unfold Region.wanted
           rw[hgd]
           simp only[yielded,VP,Option.bind_some,ht]
           cases c<;>cases want<;>rfl
          ·cases hb
    unfold wpOp
    rw[h1]
    dsimp only
    unfold kY at h3
    split at h3
    ·cases h3
    ·rename_i UT
     obtain⟨σ1,q1,rfl⟩:=Option.map_eq_some_iff.1 h3
     rw[hw true UT]
     simp only[if_true]
     refine .inl (EA hc dG jK hs (hd o hmem) (xQ (Qf i o h1) q1) fun ij v w1 s1 x1=>?_)
     refine ih _ (σ1,s.2) ij _ w1 h4 s1 (Tn.run hnt h1 hun) fun BD a2 w2 s2 x2 f2=>hK BD a2 w2 s2 (x1.trans x2) fun t ht=>?_
     rw[f2 t ht,eL (ER ht N9)]
    ·rename_i UT
     obtain rfl:=Option.some.inj h3
     rw[hw false UT]
     simp only[Bool.false_eq_true,if_false]
     have hs1:cG B N γ (s.1.aR o.dst .undef) (a.put o.dst Go.undef) w:=hs.rN (hd o hmem) ⟨_,rfl⟩
     have hm:(s.1.aR o.dst .undef).mem=s.1.mem:=by cases o.dst<;>rfl
     refine ih _ (s.1.aR o.dst .undef,fy i s.2) γ _ w h4 hs1 (Tn.skip hnt h1 hun) fun BD a2 w2 s2 x2 f2=>hK BD a2 w2 s2 (by rw[←hm];exact x2) fun t ht=>?_
     rw[f2 t ht,eL (ER ht N9)]
theorem Ja.mono{Q Q':Gj→Prop}(hq:∀s,Q s→Q' s):∀{n:Nat} {listed:Array Bool} {s:Gj},Ja cx nb bf inl ops fp Q n listed s→Ja cx nb bf inl ops fp Q' n listed s:=by
 intro n
 induction n with
 | zero=>intro listed s h;exact⟨h.1,hq _ h.2⟩
 | succ n ih =>
   intro listed s h
   refine⟨fun h0=>hq _ (h.1 h0),fun i hi=>?_⟩
   obtain⟨o,s',h1,h2,h3⟩:=h.2 i hi
   exact⟨o,s',h1,h2,ih h3⟩
theorem Jb(pU:P.follows .mixedOrders=true)(hc:eG P cx)(dG:mC P B.G cx)(jK:sI P B.G inl){Q:Exit→Act→World→Prop}{id:Nat}{a:Act}{w:World}(hnt:ja ops.toList=true)
  (hd:∀o∈ops.toList,∀k,o.dst=some k→k<N) (hr:(qs cx nb bf inl ops (number 0 ops.toList) [] σ (fun _=>false)).run=some σ') (h:cG B N γ σ a w)
  (hK:∀γ' a' w',cG B N γ' σ' a' w'→Ext B γ σ.mem w γ' σ'.mem w'→Fr (number 0 ops.toList) a a'→Q .normal a' w'):(Code.region id ops true).wp P Q a w:=by
 refine wp_region_any pU ?_
 obtain⟨fs,Wt,f1,fm,f2⟩:=GK (ops:=ops) ops.toList 0 [] σ (fun _=>false) (fun j o hj=>by simpa using hj) pg.nil hr
 let fp:Nat→Fp:=fun i=>(fs[i]?.map (·.1)).getD ⟨[],[],true,none⟩
 obtain⟨g1,_⟩:=f2 fp fun j f hj=>by simp[fp,hj]
 have key:∀(l:List Oper) (k:Nat) (s s':Gj),Tm cx nb bf inl ops fp k l s s'→∀j o,l[j]?=some o→(fp (k+j)).DL=false→Kz cx nb o (fp (k+j)):=by
  intro l
  induction l with
  | nil=>intro k s s' _ j o hj;cases hj
  | cons o l ih =>
    intro k s s' hL j o' hj
    obtain⟨c2,c3,c4,s1,c5,c6⟩:=hL
    cases j with
    | zero=>obtain rfl:=Option.some.inj hj;exact c2.1
    | succ j=>rw[show k+(j+1)=k+1+j by omega];exact ih (k+1) s1 s' c6 j o' (by simpa using hj)
 have hA:=Rb (ops:=ops) (cx:=cx) (nb:=nb) (bf:=bf) (inl:=inl) (fp:=fp) (s':=(σ',Wt)) ops.toList 0 (Array.replicate ops.size false) (σ,fun _=>false) (by simp) (by simp) (fun j hj=>by omega)
  (fun j _ hj=>by simp[hj]) (fun i o e hi=>by
   exfalso
   rcases Nat.lt_or_ge i ops.size with h'|h'<;>simp[h'] at hi) g1
 have Z0:=Ja.mono (Q':=fun s:Gj=>s.1=σ') (fun s hs=>by rw[hs]) hA
 obtain⟨s1,x1⟩:=h.draw (w.drawn+1)
 refine GL hc dG jK hnt (fun i o hi=>by have:=key _ 0 _ _ g1 i o (by simpa using hi);simpa using this) hd _ _ (σ,fun _=>false) γ a _ (by simpa using Z0) s1 (fun k hk=>by cases hk) fun γ' a' w' s x f=>hK γ' a' w' s (x1.trans x) f
theorem KF(pU:P.follows .mixedOrders=true)(hc:eG P cx)(dG:mC P B.G cx)(jK:sI P B.G inl){Q:Exit→Act→World→Prop}{id:Nat}{a:Act}{w:World}
  (hd:∀o∈ops.toList,∀k,o.dst=some k→k<N) (hr:(tW cx nb bf inl ops σ).run=some σ') (h:cG B N γ σ a w)
  (hK:∀γ' a' w',cG B N γ' σ' a' w'→Ext B γ σ.mem w γ' σ'.mem w'→Fr (number 0 ops.toList) a a'→Q .normal a' w'):(Code.region id ops true).wp P Q a w:=by
 unfold tW at hr
 cases hg:ops.any fun o=>o.guard.isSome with
 | true =>
   rw[hg] at hr
   obtain⟨hnt,hr2⟩:=aA (show(bif ja ops.toList then qs cx nb bf inl ops (number 0 ops.toList) [] σ (fun _=>false) else .fail).run=some σ' from hr)
   exact Jb pU hc dG jK hnt hd hr2 h hK
 | false =>
   rw[hg] at hr
   exact I9 pU hc dG jK hd hr h hK
end
end Go.Ge
namespace Go.Ge
set_option linter.unusedVariables false
set_option linter.unusedSimpArgs false
open RowKit
def uh(f:Nat→bL→Bool)(mem:Nat→Option bL):Nat→Option bL:=fun b=>match mem b with|some bx=>some { bx with lk:=f b bx }|none=>none
section
variable {P:Program} {B:nY} {N:Nat} {γ MZ:Gh} {mem m0 me m1:Nat→Option bL} {w w0:World} {f:Nat→bL→Bool}
theorem HA{b:Nat}{bx:bL}(h:mem b=some bx):uh f mem b=some { bx with lk:=f b bx }:=by simp[uh,h]
theorem KG{b:Nat}{bx:bL}(h:uh f mem b=some bx):∃cK,mem b=some cK∧bx={ cK with lk:=f b cK }:=by
 simp only[uh] at h
 split at h
 ·rename_i cK h0;exact⟨cK,h0,(Option.some.inj h).symm⟩
 ·cases h
theorem Ext.uh:Ext B γ mem w γ (uh f mem) w where
 below:=rM.refl _ _
 I:=fun _ _ h=>h
 nh:=fun _ _ h=>.inl h
 cells:=fun _ _ _=>rfl
 boxes:=fun b bx hb=>⟨_,HA hb,Nat.le_refl _,fun _=>⟨rfl,rfl,rfl⟩⟩
theorem bz.uh(h:bz B γ mem w):bz B γ (Go.Ge.uh f mem) w:=by
 have hne:∀{b},Go.Ge.uh f mem b≠none→mem b≠none:=by
  intro b hb hq
  apply hb
  simp[Go.Ge.uh,hq]
 exact
  { aU:=h.aU
    base:=h.base
    boxes:=fun b bx hb=>by
     obtain⟨cK,h0,rfl⟩:=KG hb
     exact(h.boxes b cK h0).keep (Ext.uh (B:=B) (γ:=γ) (w:=w) (f:=f) (mem:=mem)) rfl (fun _ _ _=>rfl)
    inj:=fun b c blk k k' hb hc h1 h2=>h.inj b c blk k k' (hne hb) (hne hc) h1 h2
    fresh:=fun b blk k hb h1=>h.fresh b blk k (hne hb) h1
    qu:=h.qu
    sep:=fun b bx blk k off hb h1 hi=>by
     obtain⟨cK,h0,rfl⟩:=KG hb
     exact h.sep b cK blk k off h0 h1 hi }
theorem cG.uh{σ:St}{a:Act}(h:cG B N γ σ a w):cG B N γ { σ with mem:=Go.Ge.uh f σ.mem } a w:=h.go Ext.uh h.ok.uh
def Mid(m0 me m1:Nat→Option bL):Prop:=∀b cK,m0 b=some cK→∃tq,m1 b=some tq∧cK.ax≤tq.ax ∧
 (tq.ax=cK.ax→∃vR,me b=some vR∧vR.ax=cK.ax∧vR.buf=tq.buf∧vR.row=tq.row)
theorem jX.down(hm:Mid m0 me m1){b ax:Nat}{K0 K K':bL→Prop}(h0:jX m0 b ax K0)(h:jX me b ax K)(hK:∀vR tq:bL,vR.buf=tq.buf→vR.row=tq.row→K vR→K' tq):jX m1 b ax K':=by
 obtain⟨cK,h1,h2,_⟩:=h0
 obtain⟨vR,k1,k2,k3⟩:=h
 obtain⟨tq,l1,l2,l3⟩:=hm b cK h1
 refine⟨tq,l1,by omega,fun e=>?_⟩
 obtain⟨XZ,q1,q2,q3,q4⟩:=l3 (by omega)
 rw[k1] at q1
 obtain rfl:=Option.some.inj q1
 exact hK vR tq q3 q4 (k3 (by omega))
theorem b8.down(hm:Mid m0 me m1):∀{v:aQ} {m:Mode} {us vs:List Value},b8 MZ m0 w0 v m us→b8 γ me w v m vs→b8 γ m1 w v m vs:=by
 intro v
 induction v with
 | undef=>intro m us vs _ r;cases m<;>exact r
 | data t x=>intro m us vs _ r;cases m<;>exact r
 | lz=>intro m us vs _ r;cases m<;>exact r
 | oA=>intro m us vs _ r;cases m<;>exact r
 | cell t x=>intro m us vs _ r;cases m<;>exact r
 | nl=>intro m us vs _ r;cases m<;>exact r
 | pN=>intro m us vs _ r;cases m<;>exact r
 | sF b ax =>
   intro m us vs r0 r
   cases m with
   | many=>exact r
   | cells=>exact⟨r.1,r0.2.down hm r.2 fun _ _ _ _ k=>k⟩
   | val=>exact⟨r.1,r0.2.down hm r.2 fun _ _ _ _ k=>k⟩
 | ptr b ax p =>
   intro m us vs r0 r
   cases m with
   | many=>exact r
   | cells=>exact⟨r.1,r0.2.down hm r.2 fun _ _ _ _ k=>k⟩
   | val=>exact⟨r.1,r0.2.down hm r.2 fun _ _ _ _ k=>k⟩
 | whole b ax =>
   intro m us vs r0 r
   cases m with
   | many=>exact r
   | cells=>exact⟨r.1,r0.2.down hm r.2 fun _ _ e1 e2 k=>by rw[←e1,←e2];exact k⟩
   | val=>exact⟨r.1,r0.2.down hm r.2 fun _ _ e1 e2 k=>by rw[←e1,←e2];exact k⟩
 | part b ax lo n =>
   intro m us vs r0 r
   cases m with
   | many=>exact r
   | cells=>exact⟨r.1,r0.2.down hm r.2 fun _ _ e1 e2 k=>by unfold zW at k⊢;rw[←e1,←e2];exact k⟩
   | val=>exact⟨r.1,r0.2.down hm r.2 fun _ _ e1 e2 k=>by unfold zW at k⊢;rw[←e1,←e2];exact k⟩
 | win b ax q e k lo n =>
   intro m us vs r0 r
   cases m with
   | many=>exact r
   | cells=>exact⟨r.1,r0.2.down hm r.2 fun _ _ e1 e2 k=>k⟩
   | val=>exact⟨r.1,r0.2.down hm r.2 fun _ _ e1 e2 k=>k⟩
 | fn f caps =>
   intro m us vs r0 r
   cases m with
   | many=>exact r
   | cells=>obtain⟨_,_,_,s⟩:=r0;obtain⟨arr,r1,r2,r3⟩:=r;exact⟨arr,r1,r2,fun i b ax hc=>(s i b ax hc).down hm (r3 i b ax hc) fun _ _ _ _ k=>k⟩
   | val=>obtain⟨_,_,_,s⟩:=r0;obtain⟨arr,r1,r2,r3⟩:=r;exact⟨arr,r1,r2,fun i b ax hc=>(s i b ax hc).down hm (r3 i b ax hc) fun _ _ _ _ k=>k⟩
 | mix a b iQ kX =>
   intro m us vs r0 r
   cases m with
   | cells=>obtain⟨_,_,_,s1,s2⟩:=r0;obtain⟨c1,c2,r0,r1,r2⟩:=r;exact⟨c1,c2,r0,iQ s1 r1,kX s2 r2⟩
   | val=>obtain⟨_,_,_,s1,s2⟩:=r0;obtain⟨c1,c2,r0,r1,r2⟩:=r;exact⟨c1,c2,r0,iQ s1 r1,kX s2 r2⟩
   | many=>obtain⟨_,_,_,s1,s2⟩:=r0;obtain⟨c1,c2,r0,r1,r2⟩:=r;exact⟨c1,c2,r0,iQ s1 r1,kX s2 r2⟩
 | yT u ih =>
   intro m us vs r0 r
   cases m with
   | val=>obtain⟨_,_,s⟩:=r0;obtain⟨arr,r1,r2⟩:=r;exact⟨arr,r1,ih s r2⟩
   | cells=>exact r
   | many=>exact r
def Rc(M V:Nat→Bool)(m0 me m1:Nat→Option bL):Prop:=∀b cK,m0 b=some cK→∃vR tq,me b=some vR∧m1 b=some tq∧vR.buf=cK.buf∧tq.buf=cK.buf∧tq.row=vR.row ∧
 tq.ax=(bif M b&&(cK.buf||V b) then cK.ax+1 else cK.ax)∧((M b&&(cK.buf||V b))=false→vR.ax=cK.ax)
theorem Rc.mid{M V:Nat→Bool}(h:Rc M V m0 me m1):Mid m0 me m1:=fun b cK hb=>by
 obtain⟨vR,tq,h1,h2,h3,h4,h5,h6,h7⟩:=h b cK hb
 cases hc:(M b&&(cK.buf||V b)) with
 | true =>
   rw[hc] at h6
   simp only[cond_true] at h6
   exact⟨tq,h2,by omega,fun e=>absurd e (by omega)⟩
 | false =>
   rw[hc] at h6
   simp only[cond_false] at h6
   exact⟨tq,h2,by omega,fun e=>⟨vR,h1,h7 hc,h3.trans h4.symm,h5.symm⟩⟩
def EV:Sh→aQ→Prop
 | .d _,_=>True
 | .k v,u=>v=u
 | .m a b,u=>∃p q,u=.mix p q∧EV a p∧EV b q
theorem To(v:aQ):EV (SU v) v:=by
 induction v with
 | mix a b iQ kX=>exact⟨a,b,rfl,iQ,kX⟩
 | data t x=>trivial
 | _=>rfl
theorem Re{t:Ty}{v:aQ}{y:t.den}(h:ON t v=some y){m:Mode}{vs:List Value}(hv:b8 γ me w v m vs):b8 γ m1 w (.data t y) m vs:=by
 unfold ON at h
 split at h
 ·obtain⟨q,hq⟩:=Ty.iY h
  subst q;subst hq
  cases m<;>exact hv
 ·split at h
  ·obtain rfl:=Option.some.inj h
   cases m with
   | many=>exact hv
   | cells=>exact .inl ⟨⟨none,hv⟩,rfl⟩
   | val=>exact⟨[.slice none 0 0],.inl ⟨⟨none,rfl⟩,rfl⟩,(show vs=[Value.slice none 0 0] from hv)⟩
  ·cases h
 ·cases h
theorem KH{M V:Nat→Bool}{iy mF:St}(hc:Rc M V iy.mem mF.mem m1)(hV:∀b x,V b=true→iy.mem b=some x→x.buf=false){u v:aQ}(hs:uM V iy mF u v=true){m:Mode}{us vs:List Value}(h0:b8 MZ iy.mem w0 u m us)(he:b8 γ mF.mem w v m vs) :
  b8 γ m1 w (bump M V u) m vs:=by
 unfold uM at hs
 split at hs
 ·rename_i b ax p b' OT p'
  simp only[Bool.and_eq_true] at hs
  obtain⟨⟨h1,h3⟩,h2⟩:=hs
  obtain rfl:=Nat.eq_of_beq_eq_true h1
  obtain rfl:=Md h3
  have still:ax=OT→(M b&&V b)=false→b8 γ m1 w (bump M V (.ptr b ax p)) m vs:=by
   intro e q
   subst e
   have e:bump M V (.ptr b ax p)=.ptr b ax p:=by simp only[bump,q];rfl
   rw[e]
   exact b8.down hc.mid h0 he
  cases Wu:V b with
  | false =>
    rw[Wu] at h2
    exact still (Nat.eq_of_beq_eq_true h2) (by simp[Wu])
  | true =>
    rw[Wu] at h2
    simp only[cond_true] at h2
    split at h2
    ·rename_i x y hx hy
     simp only[Bool.and_eq_true] at h2
     have h4:=Nat.eq_of_beq_eq_true h2.1
     have h5:=Nat.eq_of_beq_eq_true h2.2
     obtain⟨vR,tq,g1,g2,g3,g4,g5,g6,g7⟩:=hc b x hx
     rw[hy] at g1
     obtain rfl:=Option.some.inj g1
     cases hM:M b with
     | false=>exact still (by have:=g7 (by simp[hM]);omega) (by simp[hM])
     | true =>
       have e:bump M V (.ptr b ax p)=.ptr b (ax+1) p:=by simp only[bump,hM,Wu];rfl
       have hv1:tq.ax=ax+1:=by rw[g6,hM,Wu];simp;omega
       rw[e]
       cases m with
       | many=>exact he
       | cells=>exact⟨he.1,tq,g2,by omega,fun _=>aW hy h5 he.2⟩
       | val=>exact⟨he.1,tq,g2,by omega,fun _=>aW hy h5 he.2⟩
    ·cases h2
 ·rename_i b ax b' OT
  simp only[Bool.and_eq_true] at hs
  obtain⟨h1,h2⟩:=hs
  obtain rfl:=Nat.eq_of_beq_eq_true h1
  split at h2
  ·rename_i x y hx hy
   simp only[Bool.and_eq_true] at h2
   obtain⟨⟨h3,h4⟩,h5⟩:=h2
   have h3:=Nat.eq_of_beq_eq_true h3
   have h4:=Nat.eq_of_beq_eq_true h4
   obtain⟨vR,tq,g1,g2,g3,g4,g5,g6,g7⟩:=hc b x hx
   rw[hy] at g1
   obtain rfl:=Option.some.inj g1
   have YX:x.buf=true:=by rw[←g3];exact h5
   have key:∀v1,tq.ax=v1→((∃v,vs=[v]∧v.oneCell'=true)∧jX mF.mem b OT fun bx=>∃e n,bx.buf=true∧bx.row=some (e,n) ∧
     ((γ.loc b=none∧vs=[.slice none 0 0])∨∃blk cap,γ.loc b=some (blk,cap)∧vs=[.slice (some ⟨blk,0,none⟩) n cap])) →
     ((∃v,vs=[v]∧v.oneCell'=true)∧jX m1 b v1 fun bx=>∃e n,bx.buf=true∧bx.row=some (e,n) ∧
     ((γ.loc b=none∧vs=[.slice none 0 0])∨∃blk cap,γ.loc b=some (blk,cap)∧vs=[.slice (some ⟨blk,0,none⟩) n cap])):=by
    intro v1 hv1 hr
    have hk:=aW hy h4 hr.2
    exact⟨hr.1,tq,g2,by omega,fun _=>by obtain⟨e,n,q1,q2,q3⟩:=hk;exact⟨e,n,g4.trans YX,g5.trans q2,q3⟩⟩
   have hv1:∃v1,bump M V (.whole b ax)=.whole b v1∧tq.ax=v1:=by
    unfold bump
    cases hM:M b with
    | true=>exact⟨ax+1,by simp[hM],by rw[g6,hM,YX,←h3];rfl⟩
    | false=>exact⟨ax,by simp[hM],by rw[g6,hM,←h3];rfl⟩
   obtain⟨v1,e1,e2⟩:=hv1
   rw[e1]
   cases m with
   | many=>exact he
   | cells=>exact key v1 e2 he
   | val=>exact key v1 e2 he
  ·cases h2
 ·rename_i f caps f' YY
  simp only[Bool.and_eq_true] at hs
  obtain rfl:=Nat.eq_of_beq_eq_true hs.1
  obtain rfl:=Me hs.2
  exact b8.down hc.mid h0 he
 ·cases m<;>exact he
 ·cases m<;>exact he
 ·simp only[Bool.and_eq_true] at hs
  obtain rfl:=Nat.eq_of_beq_eq_true hs.1
  obtain rfl:=Nat.eq_of_beq_eq_true hs.2
  exact b8.down hc.mid h0 he
 ·cases hs
theorem Rf{V:Nat→Bool}{iy σ:St}{u v:aQ}:Sh.out V iy σ (.k u) v=bif uM V iy σ u v then some () else none:=rfl
theorem Wv{V:Nat→Bool}{iy σ:St}{a b:Sh}{v w:aQ}:Sh.out V iy σ (.m a b) (.mix v w)=(match Sh.out V iy σ a v,Sh.out V iy σ b w with
 | some x,some y=>some ((x,y):(Sh.m a b).ty.den)
 | _,_=>none):=rfl
theorem Oa{M V:Nat→Bool}{iy mF:St}(hc:Rc M V iy.mem mF.mem m1)(hV:∀b x,V b=true→iy.mem b=some x→x.buf=false):∀{s:Sh} {u v:aQ} {y:s.ty.den} {m:Mode} {us vs:List Value},EV s u→Sh.out V iy mF s v=some y →
  b8 MZ iy.mem w0 u m us→b8 γ mF.mem w v m vs→b8 γ m1 w (s.sB M V y) m vs:=by
 intro s
 induction s with
 | d t=>intro u v y m us vs _ ho _ he;exact Re ho he
 | k x =>
   intro u v y m us vs hk ho h0 he
   obtain rfl:=hk
   rw[Rf] at ho
   cases hs:uM V iy mF x v with
   | false=>rw[hs] at ho;cases ho
   | true=>exact KH hc hV hs h0 he
 | m a b iQ kX =>
   intro u v y m us vs hk ho h0 he
   obtain⟨p,q,rfl,k1,k2⟩:=hk
   cases v with
   | mix v1 v2 =>
     rw[Wv] at ho
     split at ho
     ·rename_i y1 y2 o1 o2
      obtain rfl:=Option.some.inj ho
      cases m with
      | cells=>obtain⟨_,_,_,s1,s2⟩:=h0;obtain⟨c1,c2,r0,r1,r2⟩:=he;exact⟨c1,c2,r0,iQ k1 o1 s1 r1,kX k2 o2 s2 r2⟩
      | val=>obtain⟨_,_,_,s1,s2⟩:=h0;obtain⟨c1,c2,r0,r1,r2⟩:=he;exact⟨c1,c2,r0,iQ k1 o1 s1 r1,kX k2 o2 s2 r2⟩
      | many=>obtain⟨_,_,_,s1,s2⟩:=h0;obtain⟨c1,c2,r0,r1,r2⟩:=he;exact⟨c1,c2,r0,iQ k1 o1 s1 r1,kX k2 o2 s2 r2⟩
     ·cases ho
   | _=>cases ho
theorem Pb{t:Ty}{v:aQ}{y:t.den}(h:ON t v=some y):(v=.data t y)∨(v=.lz∧∃e,t=.slice e):=by
 unfold ON at h
 split at h
 ·obtain⟨q,hq⟩:=Ty.iY h
  subst q;subst hq
  exact .inl rfl
 ·split at h
  ·exact .inr ⟨rfl,_,rfl⟩
  ·cases h
 ·cases h
theorem Ob{M V:Nat→Bool}{iy mF:St}{s:Sh}{vR tq:bL}{y:s.ty.den}(ho:Sh.out V iy mF s vR.val=some y)(hv:tq.val=s.sB M V y)(hb:tq.buf=vR.buf)(bF:vR.buf=true→∃e l,vR.val=.data (.slice e) l) :
  tq.row=vR.row∧(vR.buf=true→tq.val=vR.val):=by
 have Ww:∀t x,vR.val=.data t x→tq.val=vR.val:=by
  intro t x hx
  rw[hx] at ho
  cases s with
  | d u =>
    obtain⟨q,hq⟩:=Ty.iY (show Ty.to t u x=some y from ho)
    subst q;subst hq
    rw[hv,hx];rfl
  | k z=>rw[Rf] at ho;unfold uM at ho;cases z<;>cases ho
  | m a b=>cases ho
 have hrow:∀{b1 b2:bL},b1.buf=b2.buf→b1.val=b2.val→b1.row=b2.row:=by
  intro b1 b2 h1 h2;unfold bL.row;rw[h1,h2]
 cases hx:vR.val with
 | data t x =>
   have:=Ww t x hx
   exact⟨hrow hb this,fun _=>by rw[this,hx]⟩
 | _ =>
   refine⟨?_,fun h=>by obtain⟨e,l,q⟩:=bF h;rw[hx] at q;cases q⟩
   cases hq:vR.buf with
   | true=>obtain⟨e,l,q⟩:=bF hq;rw[hx] at q;cases q
   | false =>
     have e1:vR.row=none:=by unfold bL.row;rw[hq,hx]
     rw[e1]
     unfold bL.row
     rw[hb,hq,hv]
     rw[hx] at ho
     cases s with
     | d u =>
       rcases Pb (show ON u _=some y from ho) with q|⟨q,e,rfl⟩
       ·first|cases q|exact absurd hx (by rw[q];intro k;cases k)
       ·rfl
     | k z =>
       rw[Rf] at ho
       simp only[Sh.sB]
       have hnd:∀t x,bump M V z≠.data t x:=by
        intro t x q
        cases z with
        | data t' x'=>unfold uM at ho;cases ho
        | whole b v=>simp only[bump] at q;cases hM:M b<;>rw[hM] at q<;>cases q
        | ptr b v p=>simp only[bump] at q;cases hM:(M b&&V b)<;>rw[hM] at q<;>cases q
        | _=>cases q
       split<;>first|rfl|(rename_i hh;exact absurd hh (hnd _ _))
     | m a b=>rfl
end
end Go.Ge
namespace Go.Ge
set_option linter.unusedVariables false
set_option linter.unusedSimpArgs false
open RowKit
section
variable {P:Program} {B:nY} {N:Nat} {γ MZ:Gh} {w w0:World} {iy mF:St} {a a0:Act} {M V:Nat→Bool}
theorem Rg:∀{l:List (Nat×Sh)} {x:(VD l).den},SV V iy mF l=some x→∀t,(Ir M V l x t=none∧∀s,(t,s)∉l)∨∃s y,(t,s)∈l∧Sh.out V iy mF s (mF.slots t)=some y∧Ir M V l x t=some (s.sB M V y):=by
 intro l
 induction l with
 | nil=>intro x _ t;exact .inl ⟨rfl,fun s h=>by cases h⟩
 | cons p r ih =>
   obtain⟨i,s⟩:=p
   intro x h t
   simp only[SV] at h
   split at h
   ·rename_i y z h1 h2
    obtain rfl:=Option.some.inj h
    by_cases e:t=i
    ·subst e
     refine .inr ⟨s,y,List.mem_cons_self ..,h1,?_⟩
     show(bif Nat.beq t t then some (s.sB M V y) else Ir M V r z t)=_
     simp
    ·have hb:Nat.beq t i=false:=fQ e
     have hq:Ir M V ((i,s)::r) ((y,z):(VD ((i,s)::r)).den) t=Ir M V r z t:=by
      show(bif Nat.beq t i then some (s.sB M V y) else Ir M V r z t)=_
      rw[hb];rfl
     rw[hq]
     rcases ih h2 t with ⟨k1,k2⟩|⟨s',y',k1,k2,k3⟩
     ·refine .inl ⟨k1,fun s' hm=>?_⟩
      rcases List.mem_cons.1 hm with hm|hm
      ·exact e (Prod.mk.inj hm).1
      ·exact k2 s' hm
     ·exact .inr ⟨s',y',List.mem_cons_of_mem _ k1,k2,k3⟩
   ·cases h
theorem zn{fz mv:Bool}{bx b:bL}(h:Ck fz mv bx b=true):(bx.ro=true→(b.ro||fz)=true)∧bx.buf=b.buf∧((b.buf||mv)=false→bx.ax=b.ax):=by
 simp only[Ck,Bool.and_eq_true,Bool.or_eq_true,beq_iff_eq] at h
 obtain⟨⟨⟨h1,h2⟩,h3⟩,h4⟩:=h
 refine⟨fun hr=>by rcases h1 with h1|h1<;>simp[h1,←hr],h3,fun hb=>?_⟩
 obtain⟨hb,hm⟩:=Bool.or_eq_false_iff.1 hb
 rcases h4 with (h4|h4)|h4
 ·rw[h3,hb] at h4;cases h4
 ·rw[hm] at h4;cases h4
 ·exact Nat.eq_of_beq_eq_true h4
theorem Pc{fz mv:Bool}{bx b:bL}(h:Ck fz mv bx b=true):bx.tid=b.tid:=by
 simp only[Ck,Bool.and_eq_true] at h
 exact Nat.eq_of_beq_eq_true h.1.1.2
theorem KI{fz:Bool}:∀{l:List (Nat×Sh×bL)} {x:(UB l).den},SW V fz iy mF l=some x→∀t,(D8 fz M V l x t=none∧tX l t=false) ∨
  ∃s b y bx,tX l t=true∧(t,s,b)∈l∧mF.mem t=some bx∧Ck fz (V t) bx b=true∧Sh.out V iy mF s bx.val=some y∧D8 fz M V l x t=some { b with val:=s.sB M V y,ro:=b.ro||fz,ax:=bif b.buf||V t then b.ax+1 else b.ax }:=by
 intro l
 induction l with
 | nil=>intro x _ t;exact .inl ⟨rfl,rfl⟩
 | cons p r ih =>
   obtain⟨i,s,b⟩:=p
   intro x h t
   simp only[SW] at h
   split at h
   ·rename_i bx pR
    cases hok:Ck fz (V i) bx b with
    | false=>rw[hok] at h;cases h
    | true =>
      rw[hok] at h
      simp only[cond_true] at h
      split at h
      ·rename_i y z h1 h2
       obtain rfl:=Option.some.inj h
       by_cases e:t=i
       ·subst e
        refine .inr ⟨s,b,y,bx,by simp[tX],List.mem_cons_self ..,pR,hok,h1,?_⟩
        show(bif Nat.beq t t then some { b with val:=s.sB M V y,ro:=b.ro||fz,ax:=bif b.buf||V t then b.ax+1 else b.ax } else D8 fz M V r z t)=_
        simp
       ·have hb:Nat.beq t i=false:=fQ e
        have hq:D8 fz M V ((i,s,b)::r) ((y,z):(UB ((i,s,b)::r)).den) t=D8 fz M V r z t:=by
         show(bif Nat.beq t i then some { b with val:=s.sB M V y,ro:=b.ro||fz,ax:=bif b.buf||V t then b.ax+1 else b.ax } else D8 fz M V r z t)=_
         rw[hb];rfl
        have UJ:tX ((i,s,b)::r) t=tX r t:=by simp only[tX,hb,Bool.false_or]
        rw[hq,UJ]
        rcases ih h2 t with k|⟨s',b',y',fJ,k0,k1,k2⟩
        ·exact .inl k
        ·exact .inr ⟨s',b',y',fJ,k0,List.mem_cons_of_mem _ k1,k2⟩
      ·cases h
   ·cases h
structure Aw (k:Carry) (iy:St):Prop where
 S:∀t s,(t,s)∈k.S→EV s (iy.slots t)
 M:∀b s bx,(b,s,bx)∈k.M→iy.mem b=some bx∧EV s bx.val∧bx.lk=false
 V:∀b x,k.V b=true→iy.mem b=some x→x.buf=false
theorem UU{cx:Ctx}{σ:St}:∀{p:List (Nat×Nat)} {l:List (Nat×Sh)},W6 cx σ p=some l→∀t s,(t,s)∈l→EV s (σ.slots t):=by
 intro p
 induction p with
 | nil=>intro l h t s hm;obtain rfl:=Option.some.inj h;cases hm
 | cons q r ih =>
   obtain⟨i,ty⟩:=q
   intro l h t s hm
   simp only[W6] at h
   split at h
   ·cases h
   ·rename_i l' hl'
    have fin:∀s0,EV s0 (σ.slots i)→some ((i,s0)::l')=some l→EV s (σ.slots t):=by
     intro s0 h0 e
     obtain rfl:=Option.some.inj e
     rcases List.mem_cons.1 hm with hm|hm
     ·obtain⟨rfl,rfl⟩:=Prod.mk.inj hm;exact h0
     ·exact ih hl' t s hm
    cases hty:Nat.beq ty 999999 with
    | true =>
      rw[hty] at h
      simp only[cond_true] at h
      split at h
      ·rename_i b v hv;exact fin (.k _) hv.symm h
      ·obtain rfl:=Option.some.inj h;exact ih hl' t s hm
    | false =>
    rw[hty] at h
    simp only[cond_false] at h
    split at h
    ·exact fin (.d _) trivial h
    ·split at h
     ·exact fin (.d _) trivial h
     ·cases h
    ·split at h
     ·exact fin (.d _) trivial h
     ·cases h
    ·exact fin (.k _) rfl h
theorem UW{σ:St}:∀{p:List Nat} {l:List (Nat×Sh×bL)},W7 σ p=some l→∀b s bx,(b,s,bx)∈l→σ.mem b=some bx∧EV s bx.val∧bx.lk=false:=by
 intro p
 induction p with
 | nil=>intro l h b s bx hm;obtain rfl:=Option.some.inj h;cases hm
 | cons i r ih =>
   intro l h b s bx hm
   simp only[W7] at h
   split at h
   ·rename_i cK l' hb hl'
    cases hlk:cK.lk with
    | true=>rw[hlk] at h;cases h
    | false =>
      rw[hlk] at h
      obtain rfl:=Option.some.inj h
      rcases List.mem_cons.1 hm with hm|hm
      ·injection hm with e1 hm
       injection hm with e2 e3
       subst e1;subst e2;subst e3
       exact⟨hb,To _,hlk⟩
      ·exact ih hl' b s bx hm
   ·cases h
theorem uS{cx:Ctx}{nb:Nat}{bf:List Nat}{σ:St}{p:Mf}{k:Carry}(h:DO cx nb bf σ p=some k):Aw k σ:=by
 unfold DO at h
 split at h
 ·rename_i s m hs hm
  obtain rfl:=Option.some.inj h
  refine⟨UU hs,UW hm,fun b x hb hx=>?_⟩
  simp only[V3,hx,Bool.and_eq_true,Bool.not_eq_true'] at hb
  exact hb.2.1
 ·cases h
theorem Tp{l:List (Nat×Sh×bL)}{b:Nat}(h:tX l b=true):∃s bx,(b,s,bx)∈l:=by
 induction l with
 | nil=>cases h
 | cons p r ih =>
   obtain⟨i,s,bx⟩:=p
   simp only[tX,Bool.or_eq_true] at h
   rcases h with h|h
   ·obtain rfl:=Nat.eq_of_beq_eq_true h;exact⟨s,bx,List.mem_cons_self ..⟩
   ·obtain⟨s',fJ,hm⟩:=ih h;exact⟨s',fJ,List.mem_cons_of_mem _ hm⟩
theorem sM{k:Carry}{fz lock:Bool}{wr:List Nat}{x:k.ty.den}(hk:Aw k iy)(h0:cG B N MZ iy a0 w0)(he:cG B N γ mF a w)(hx:Ext B MZ iy.mem w0 γ mF.mem w)
  (hf:∀t,cT wr t=false→a.tmps[t]?=a0.tmps[t]?) (hkeep:∀b bx,iy.mem b=some bx→tX k.M b=false→∃bl,mF.mem b=some { bx with lk:=bl }) (ho:k.out fz iy mF=some x) :
  cG B N γ (k.sB fz lock wr iy x) a w∧Ext B MZ iy.mem w0 γ (k.sB fz lock wr iy x).mem w:=by
 unfold Carry.out at ho
 split at ho
 case h_2=>cases ho
 rename_i xs xm hxs YZ
 obtain rfl:=Option.some.inj ho
 generalize Wx:k.sB fz lock wr iy (xs,xm)=σ1
 have Ar:∀t,σ1.slots t=match Ir (tX k.M) k.V k.S xs t with|some v=>v|none=>bif cT wr t then .undef else iy.slots t:=fun t=>by rw[←Wx];rfl
 have hmem:∀b,σ1.mem b=match D8 fz (tX k.M) k.V k.M xm b with|some bx=>some bx|none=>match iy.mem b with|some bx=>some { bx with lk:=bx.lk||lock }|none=>none:=fun b=>by rw[←Wx];rfl
 have Tq:∀b,tX k.M b=false→σ1.mem b=match iy.mem b with|some bx=>some { bx with lk:=bx.lk||lock }|none=>none:=by
  intro b hb
  rw[hmem b]
  rcases KI (M:=tX k.M) YZ b with ⟨q,_⟩|⟨s,b',y,bx,q,_⟩
  ·rw[q]
  ·rw[hb] at q;cases q
 have here:∀b,tX k.M b=true→∃s b0 y bx,iy.mem b=some b0∧EV s b0.val∧mF.mem b=some bx∧Ck fz (k.V b) bx b0=true∧Sh.out k.V iy mF s bx.val=some y ∧
   σ1.mem b=some { b0 with val:=s.sB (tX k.M) k.V y,ro:=b0.ro||fz,ax:=bif b0.buf||k.V b then b0.ax+1 else b0.ax }:=by
  intro b hb
  rcases KI (M:=tX k.M) YZ b with ⟨_,q⟩|⟨s,b0,y,bx,q,q1,q2,q3,q4,q5⟩
  ·rw[hb] at q;cases q
  ·obtain⟨k1,k2,_⟩:=hk.M b s b0 q1
   exact⟨s,b0,y,bx,k1,k2,q2,q3,q4,by rw[hmem b,q5]⟩
 have Rh:∀b bx,mF.mem b=some bx→bx.buf=true→∃e l,bx.val=.data (.slice e) l:=by
  intro b bx hb bF
  have:=he.ok.boxes b bx hb
  rw[cw,bF] at this
  obtain⟨e,l,q,_⟩:=this
  exact⟨e,l,q⟩
 have hC:Rc (tX k.M) k.V iy.mem mF.mem σ1.mem:=by
  intro b cK hb
  cases hin:tX k.M b with
  | false =>
    obtain⟨bl,VR⟩:=hkeep b cK hb hin
    have h1:=Tq b hin
    rw[hb] at h1
    exact⟨_,_,VR,h1,rfl,rfl,rfl,by simp,fun _=>rfl⟩
  | true =>
    obtain⟨s,b0,y,bx,g1,g2,g3,g4,g5,g6⟩:=here b hin
    rw[hb] at g1
    obtain rfl:=Option.some.inj g1
    obtain⟨o1,o2,o3⟩:=zn g4
    obtain⟨r1,r2⟩:=Ob (M:=tX k.M) (V:=k.V) (tq:={ cK with val:=s.sB (tX k.M) k.V y,ro:=cK.ro||fz,ax:=bif cK.buf||k.V b then cK.ax+1 else cK.ax }) g5 rfl o2.symm (Rh b bx g3)
    refine⟨bx,_,g3,g6,o2,rfl,r1,by simp,fun hq=>o3 ?_⟩
    simpa using hq
 have hE:Ext B MZ iy.mem w0 γ σ1.mem w :=
  { below:=hx.below
    I:=hx.I
    nh:=hx.nh
    cells:=hx.cells
    boxes:=fun b cK hb=>by
     obtain⟨vR,tq,c1,c2,c3,c4,c5,c6,c7⟩:=hC b cK hb
     obtain⟨XZ,e1,e2,e3⟩:=hx.boxes b cK hb
     rw[c1] at e1
     obtain rfl:=Option.some.inj e1
     cases hq:(tX k.M b&&(cK.buf||k.V b)) with
     | true =>
       rw[hq] at c6
       simp only[cond_true] at c6
       exact⟨tq,c2,by omega,fun e=>absurd e (by omega)⟩
     | false =>
       rw[hq] at c6
       simp only[cond_false] at c6
       obtain⟨r1,r2,r3⟩:=e3 (c7 hq)
       exact⟨tq,c2,by omega,fun _=>⟨r1,c4,c5.trans r3⟩⟩ }
 refine⟨⟨fun t=>?_,he.size,he.defers,?_⟩,hE⟩
 ·rw[Ar t]
  rcases Rg (M:=tX k.M) hxs t with ⟨q,_⟩|⟨s,y,q1,q2,q3⟩
  ·rw[q]
   simp only
   cases hw:cT wr t with
   | true=>exact⟨_,rfl⟩
   | false =>
     have:a.tmps.getD t undef=a0.tmps.getD t undef:=by simp only[Array.getD_eq_getD_getElem?,hf t hw]
     rw[this]
     exact(h0.slots t).ext hE
  ·rw[q3]
   exact Oa hC hk.V (hk.S t s q1) q2 (h0.slots t) (he.slots t)
 ·have hne:∀b,σ1.mem b≠none→∃cK,iy.mem b=some cK:=by
   intro b hb
   cases hin:tX k.M b with
   | true=>obtain⟨s,b0,y,bx,g1,_⟩:=here b hin;exact⟨b0,g1⟩
   | false =>
     rw[Tq b hin] at hb
     cases hq:iy.mem b with
     | none=>rw[hq] at hb;exact absurd rfl hb
     | some cK=>exact⟨cK,rfl⟩
  have UX:∀b,σ1.mem b≠none→mF.mem b≠none:=by
   intro b hb
   obtain⟨cK,h1⟩:=hne b hb
   obtain⟨vR,tq,c1,_⟩:=hC b cK h1
   rw[c1];simp
  exact
   { aU:=he.ok.aU
     base:=he.ok.base
     boxes:=fun b tq hb=>by
      cases hin:tX k.M b with
      | true =>
        obtain⟨s,b0,y,bx,g1,g2,g3,g4,g5,g6⟩:=here b hin
        rw[hb] at g6
        obtain rfl:=Option.some.inj g6
        obtain⟨o1,o2,o3⟩:=zn g4
        have o4:=Pc g4
        obtain⟨r1,r2⟩:=Ob (M:=tX k.M) (V:=k.V) (tq:={ b0 with val:=s.sB (tX k.M) k.V y,ro:=b0.ro||fz,ax:=bif b0.buf||k.V b then b0.ax+1 else b0.ax }) g5 rfl o2.symm (Rh b bx g3)
        have gz:=he.ok.boxes b bx g3
        have M0:=h0.ok.boxes b b0 g1
        unfold cw at gz M0⊢
        dsimp only at r2⊢
        rcases Bool.eq_false_or_eq_true bx.buf with hb1|hb1
        ·rw[hb1] at gz
         rw[←o2,hb1,r2 hb1,←o4]
         exact gz
        ·rw[hb1] at gz
         rw[←o2,hb1]
         rw[←o2,hb1] at M0
         obtain⟨_,_,_,_,_,_,_,_,_,z⟩:=M0
         obtain⟨blk,cap,cur,tid,fr,z1,z2,z3,gk,z4⟩:=gz
         exact⟨blk,cap,cur,tid,fr,z1,z2,z3,o4▸gk,Oa hC hk.V g2 g5 z z4⟩
      | false =>
        have h1:=Tq b hin
        rw[hb] at h1
        cases hq:iy.mem b with
        | none=>rw[hq] at h1;cases h1
        | some cK =>
          rw[hq] at h1
          obtain rfl:=Option.some.inj h1
          obtain⟨bl,VR⟩:=hkeep b cK hq hin
          have gz:=he.ok.boxes b _ VR
          have M0:=h0.ok.boxes b cK hq
          unfold cw at gz M0⊢
          dsimp only at gz⊢
          rcases Bool.eq_false_or_eq_true cK.buf with hb1|hb1
          ·rw[hb1] at gz⊢
           exact gz
          ·rw[hb1] at gz M0⊢
           obtain⟨_,_,_,_,_,_,_,_,_,z⟩:=M0
           obtain⟨blk,cap,cur,tid,fr,z1,z2,z3,gk,z4⟩:=gz
           exact⟨blk,cap,cur,tid,fr,z1,z2,z3,gk,b8.down hC.mid z z4⟩
     inj:=fun b c blk k1 k2 hb hc h1 h2=>he.ok.inj b c blk k1 k2 (UX b hb) (UX c hc) h1 h2
     fresh:=fun b blk k1 hb h1=>he.ok.fresh b blk k1 (UX b hb) h1
     qu:=he.ok.qu
     sep:=fun b tq blk k1 off hb h1 hi=>by
      obtain⟨cK,q0⟩:=hne b (by rw[hb];simp)
      obtain⟨vR,Z1,c1,c2,c3,c4,c5,c6,c7⟩:=hC b cK q0
      rw[hb] at c2
      obtain rfl:=Option.some.inj c2
      obtain⟨s1,s2⟩:=he.ok.sep b vR blk k1 off c1 h1 hi
      have hro:vR.ro=true→tq.ro=true:=by
       cases hin:tX k.M b with
       | true =>
         obtain⟨s,b0,y,bx,g1,g2,g3,g4,g5,g6⟩:=here b hin
         rw[c1] at g3
         obtain rfl:=Option.some.inj g3
         rw[hb] at g6
         obtain rfl:=Option.some.inj g6
         exact(zn g4).1
       | false =>
         have h1:=Tq b hin
         rw[hb,q0] at h1
         obtain rfl:=Option.some.inj h1
         obtain⟨bl,VR⟩:=hkeep b cK q0 hin
         rw[c1] at VR
         obtain rfl:=Option.some.inj VR
         exact fun h=>h
      exact⟨hro s1,fun bF e n hr=>s2 (by rw[c3,←c4];exact bF) e n (by rw[←c5];exact hr)⟩ }
end
end Go.Ge
namespace Go.Ge
set_option linter.unusedVariables false
set_option linter.unusedSimpArgs false
open RowKit
theorem Ax{p:Nat→Prop}(h:∃n,p n):∃n,p n∧∀m,p m→n≤m:=by
 obtain⟨n,hn⟩:=h
 induction n using Nat.strongRecOn with
 | _ n ih =>
   by_cases h:∃m,m<n∧p m
   ·obtain⟨m,h1,h2⟩:=h;exact ih m h1 h2
   ·exact⟨n,hn,fun m hm=>Nat.le_of_not_lt fun hlt=>h ⟨m,hlt,hm⟩⟩
open Classical in
noncomputable def least(p:Nat→Prop):Nat:=if h:∃n,p n then Classical.choose (Ax h) else 0
theorem EW{p:Nat→Prop}(h:∃n,p n):p (least p)∧∀m,p m→least p≤m:=by
 unfold least
 rw[dif_pos h]
 exact Classical.choose_spec (Ax h)
theorem HB{P:Program}{c:Code}{Q:Exit→Act→World→Prop}{a:Act}{w:World}(I:Nat→Act→World→Prop){n:Nat}(h0:I n a w)
  (round:∀n a w,I n a w→c.wp P (Exit.then (fun a' w'=>∃m,m<n∧I m a' w') Q) a w):(Code.loop c).wp P Q a w:=by
 refine wp_loop (fun a w=>∃n,I n a w) (fun a w=>least fun n=>I n a w) ⟨n,h0⟩ fun a w h=>?_
 obtain⟨h1,h2⟩:=EW h
 refine wp_mono (round _ a w h1) fun e a' w' hq=>?_
 cases e with
 | normal =>
   obtain⟨m,m1,m2⟩:=hq
   exact⟨⟨m,m2⟩,Nat.lt_of_le_of_lt ((EW ⟨m,m2⟩).2 m m2) m1⟩
 | _=>exact hq
def EX:Nat→Exit
 | 0=>.normal
 | 1=>.ret
 | i+2=>.exit i
theorem CA{l m:List Nat}{t:Nat}:cT (l++m) t=(cT l t||cT m t):=by
 induction l with
 | nil=>rfl
 | cons i r ih=>simp only[List.cons_append,cT,ih,Bool.or_assoc]
def BN(ws:List Nat)(a a':Act):Prop:=∀t,cT ws t=false→a'.tmps[t]?=a.tmps[t]?
theorem BN.refl(ws:List Nat)(a:Act):BN ws a a:=fun _ _=>rfl
theorem BN.trans{ws:List Nat}{a b c:Act}(h:BN ws a b)(k:BN ws b c):BN ws a c:=fun t ht=>(k t ht).trans (h t ht)
theorem BN.left{ws vs:List Nat}{a b:Act}(h:BN ws a b):BN (ws++vs) a b:=fun t ht=>h t (by rw[CA,Bool.or_eq_false_iff] at ht;exact ht.1)
theorem BN.right{ws vs:List Nat}{a b:Act}(h:BN vs a b):BN (ws++vs) a b:=fun t ht=>h t (by rw[CA,Bool.or_eq_false_iff] at ht;exact ht.2)
theorem KJ{t:Nat}:∀{l:List Oper} {k:Nat},cT (nc l) t=false→kM t (number k l)=false:=by
 intro l
 induction l with
 | nil=>intro k _;rfl
 | cons o l ih =>
   intro k h
   simp only[number,kM]
   cases hd:o.dst with
   | none=>simp only[nc,hd] at h;rw[ih h];rfl
   | some d =>
     simp only[nc,hd,cT,Bool.or_eq_false_iff] at h
     rw[ih h.2]
     simp only[Bool.or_false]
     exact fQ fun e=>by subst e;simp at h
theorem Jc{l:List Oper}{o:Oper}(h:o∈l){k:Nat}(hk:o.dst=some k):k∈nc l:=by
 induction l with
 | nil=>cases h
 | cons p l ih =>
   rcases List.mem_cons.1 h with h|h
   ·subst h;simp only[nc,hk];exact List.mem_cons_self ..
   ·simp only[nc]
    split
    ·exact List.mem_cons_of_mem _ (ih h)
    ·exact ih h
theorem HC{α:Type}{f:Nat→Tree α}:∀{es:List Nat} {e i:Nat},Db es e=some i→(zR es i f).run=(f e).run:=by
 intro es
 induction es with
 | nil=>intro e i h;cases h
 | cons k r ih =>
   intro e i h
   simp only[Db] at h
   have one:∀{b:Bool},(bif b then some 0 else(Db r e).map (·+1))=some i→(b=true∧i=0)∨(b=false∧∃j,Db r e=some j∧i=j+1):=by
    intro b hb
    cases b with
    | true=>exact .inl ⟨rfl,(Option.some.inj hb).symm⟩
    | false =>
      obtain⟨j,h1,h2⟩:=Option.map_eq_some_iff.1 hb
      exact .inr ⟨rfl,j,h1,h2.symm⟩
   rcases one h with ⟨h1,rfl⟩|⟨h1,j,h2,rfl⟩
   ·obtain rfl:=Nat.eq_of_beq_eq_true h1
    cases r with
    | nil=>rfl
    | cons m s=>rfl
   ·cases r with
    | nil=>cases h2
    | cons m s=>exact ih h2
section
variable {P:Program} {B:nY} {N:Nat} {cx:Ctx} {nb:Nat} {bf:List Nat} {inl:Nat→List aQ→St→Tree (aQ×St)}
theorem M1(hkeep:∀f vals σ v σ',(inl f vals σ).run=some (v,σ')→aY σ σ'):∀(l:List Oper) (k:Nat) (done:List wg) (σ σ':St),(D7 cx nb bf inl (number k l) done σ).run=some σ'→aY σ σ':=by
 intro l
 induction l with
 | nil=>intro k done σ σ' h;obtain rfl:=Option.some.inj h;exact aY.refl _
 | cons o l ih =>
   intro k done σ σ' h
   simp only[number,D7] at h
   split at h
   ·cases h
   ·obtain⟨hc,h1⟩:=aA h
    obtain⟨σ1,h2,h3⟩:=bind_some h1
    exact(wH hkeep σ1 (xQ (fun hb=>DT o σ hb) h2)).trans (ih _ _ _ _ h3)
theorem Pd{fz:Bool}{M V:Nat→Bool}:∀{l:List (Nat×Sh×bL)} {x:(UB l).den} {t:Nat},tX l t=false→D8 fz M V l x t=none:=by
 intro l
 induction l with
 | nil=>intro x t _;rfl
 | cons p r ih =>
   obtain⟨i,s,b⟩:=p
   intro x t h
   simp only[tX,Bool.or_eq_false_iff] at h
   simp only[D8,h.1,cond_false]
   exact ih h.2
theorem KK{k:Carry}{fz lock:Bool}{wr:List Nat}{σ:St}{x:k.ty.den}{b:Nat}{bx:bL}(hb:σ.mem b=some bx)(h:tX k.M b=false):(k.sB fz lock wr σ x).mem b=some { bx with lk:=bx.lk||lock }:=by
 simp only[Carry.sB]
 rw[Pd h,hb]
theorem Ay{k:Carry}{fz lock:Bool}{wr:List Nat}{σ:St}{x:k.ty.den}(hk:Aw k σ):aY σ (k.sB fz lock wr σ x):=by
 intro b bx hb hl
 have:tX k.M b=false:=by
  cases hq:tX k.M b with
  | false=>rfl
  | true =>
    obtain⟨s,b0,hm⟩:=Tp hq
    obtain⟨h1,_,h3⟩:=hk.M b s b0 hm
    rw[hb] at h1
    obtain rfl:=Option.some.inj h1
    rw[hl] at h3;cases h3
 rw[KK hb this]
 cases bx
 simp only at hl
 subst hl
 rfl
theorem CB{α:Type}{Q:α→Prop}{f:Nat→Tree α}(hf:∀e y,(f e).run=some y→Q y):∀{es:List Nat} {i:Nat} {y:α},(zR es i f).run=some y→Q y:=by
 intro es
 induction es with
 | nil=>intro i y h;cases h
 | cons k r ih =>
   intro i y h
   cases r with
   | nil=>exact hf k y h
   | cons m s =>
     have:=eU h
     cases hq:tM i 0 with
     | true=>rw[hq] at this;exact hf k y this
     | false=>rw[hq] at this;exact ih this
theorem M3:∀{l:List Nat} {σ σ':St},Cl l σ=some σ'→aY σ σ':=by
 intro l
 induction l with
 | nil=>intro σ σ' h;obtain rfl:=Option.some.inj h;exact aY.refl _
 | cons m r ih =>
   intro σ σ' h
   unfold Cl at h
   cases hm:Nat.ble 2000000 m with
   | false=>rw[hm] at h;exact ih h
   | true =>
     rw[hm] at h
     simp only[cond_true] at h
     split at h
     ·split at h
      ·split at h
       ·split at h
        ·rename_i hg
         exact(mD hg).trans ((aY.put _ _ _).trans (ih h))
        ·cases h
       ·cases h
      ·cases h
     ·exact ih h
theorem KL{B:nY}{N:Nat}{a:Act}{w:World}:∀{l:List Nat} {σ σ':St} {γ:Gh},Cl l σ=some σ'→cG B N γ σ a w→∃γ',cG B N γ' σ' a w∧Ext B γ σ.mem w γ' σ'.mem w:=by
 intro l
 induction l with
 | nil=>intro σ σ' γ h hs;obtain rfl:=Option.some.inj h;exact⟨γ,hs,Ext.refl _ _ _ _⟩
 | cons m r ih =>
   intro σ σ' γ h hs
   unfold Cl at h
   cases hm:Nat.ble 2000000 m with
   | false=>rw[hm] at h;exact ih h hs
   | true =>
     rw[hm] at h
     simp only[cond_true] at h
     generalize m-2000000=k at h
     split at h
     ·rename_i b v hb
      split at h
      ·split at h
       ·split at h
        ·rename_i x σ1 hg
         have hv:=hs.slots k
         rw[hb] at hv
         obtain⟨ij,s1,s2,s3⟩:=jZ hs hv hg
         have s4:cG B N ij (σ1.put k (.data (.slice _) x)) a w:=⟨fun t=>by
          unfold St.put
          dsimp only
          cases ht:Nat.beq t k with
          | false=>exact s1.slots t
          | true =>
            obtain rfl:=Nat.eq_of_beq_eq_true ht
            exact s3,s1.size,s1.defers,s1.ok⟩
         obtain⟨BD,t1,t2⟩:=ih h s4
         exact⟨BD,t1,s2.trans t2⟩
        ·cases h
       ·cases h
      ·cases h
     ·exact ih h hs
theorem M4{f:St→Tree (Nat×St)}(hf:∀σ r,(f σ).run=some r→aY σ r.2):∀(n:Nat) (σ:St) (r:Nat×St),(again f n σ).run=some r→aY σ r.2:=by
 intro n
 induction n with
 | zero=>intro σ r h;cases h
 | succ n ih =>
   intro σ r h
   obtain⟨r1,h1,h2⟩:=bind_some h
   have k1:=hf _ _ h1
   cases hq:Nat.beq r1.1 0 with
   | true=>rw[hq] at h2;exact k1.trans (ih _ _ h2)
   | false=>rw[hq] at h2;obtain rfl:=Option.some.inj h2;exact k1
theorem uT(hkeep:∀f vals σ v σ',(inl f vals σ).run=some (v,σ')→aY σ σ'):∀(c:Code) (pl:List (Option Mf)) (σ:St) (r:Nat×St),(ia cx nb bf inl c pl σ).run=some r→aY σ r.2:=by
 intro c
 induction c with
 | skip=>intro pl σ r h;obtain rfl:=Option.some.inj h;exact aY.refl _
 | label l=>intro pl σ r h;obtain rfl:=Option.some.inj h;exact aY.refl _
 | ret=>intro pl σ r h;obtain rfl:=Option.some.inj h;exact aY.refl _
 | exit i=>intro pl σ r h;obtain rfl:=Option.some.inj h;exact aY.refl _
 | region id ops dr =>
   intro pl σ r h
   obtain⟨σ1,h1,h2⟩:=bind_some h
   obtain rfl:=Option.some.inj h2
   cases dr with
   | true =>
     have h1':(tW cx nb bf inl ops σ).run=some σ1:=h1
     unfold tW at h1'
     cases hg:ops.any fun o=>o.guard.isSome with
     | true =>
       rw[hg] at h1'
       obtain⟨hnt,h3⟩:=aA (show(bif ja ops.toList then qs cx nb bf inl ops (number 0 ops.toList) [] σ (fun _=>false) else .fail).run=some σ1 from h1')
       exact MV hkeep _ _ _ _ _ _ h3
     | false =>
       rw[hg] at h1'
       exact M1 hkeep _ _ _ _ _ h1'
   | false=>exact Aq hkeep _ _ _ _ h1
 | seq a b iQ kX =>
   intro pl σ r h
   obtain⟨r1,h1,h2⟩:=bind_some h
   have k1:=iQ _ _ _ h1
   cases hq:Nat.beq r1.1 0 with
   | true=>rw[hq] at h2;exact k1.trans (kX _ _ _ h2)
   | false=>rw[hq] at h2;obtain rfl:=Option.some.inj h2;exact k1
 | block i a ih =>
   intro pl σ r h
   obtain⟨r1,h1,h2⟩:=bind_some h
   obtain rfl:=Option.some.inj h2
   exact ih _ _ r1 h1
 | scope a ih=>intro pl σ r h;exact ih _ _ _ h
 | cond c a b iQ kX =>
   intro pl σ r h
   unfold ia at h
   split at h
   ·rename_i c0 SP hn
    change Bool at c0
    have:=eU h
    cases c0 with
    | false=>exact kX _ _ _ this
    | true=>exact iQ _ _ _ this
   ·split at h
    ·cases h
    ·rename_i k hk
     have hok:=uS hk
     dsimp only at h
     split at h
     ·rw[Tree.vY] at h
      obtain⟨x,h1,h2⟩:=Option.bind_eq_some_iff.1 h
      obtain rfl:=Option.some.inj h2
      exact Ay hok
     ·rw[Tree.vY] at h
      obtain⟨x,h1,h2⟩:=Option.bind_eq_some_iff.1 h
      exact CB (Q:=fun r:Nat×St=>aY σ r.2) (fun e y hy=>by obtain rfl:=Option.some.inj hy;exact Ay hok) h2
   ·cases h
 | loop a ih =>
   intro pl σ r h
   unfold ia at h
   split at h
   ·split at h
    ·cases h
    rename_i σ UY
    refine(M3 UY).trans ?_
    split at h
    ·cases h
    ·rename_i k hk
     have hok:=uS hk
     dsimp only at h
     split at h
     ·cases h
     ·split at h
      ·obtain⟨x,h1,h2⟩:=bR h
       obtain rfl:=Option.some.inj h2
       exact Ay hok
      ·obtain⟨x,h1,h2⟩:=bR h
       exact CB (Q:=fun r:Nat×St=>aY σ r.2) (fun e y hy=>by obtain rfl:=Option.some.inj hy;exact Ay hok) h2
   ·exact M4 (fun σ r hr=>ih _ _ _ hr) _ _ _ h
   ·cases h
 | _=>intro pl σ r h;cases h
end
end Go.Ge
