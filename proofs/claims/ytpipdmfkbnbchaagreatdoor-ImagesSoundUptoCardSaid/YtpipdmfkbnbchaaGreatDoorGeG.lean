/- A ghost interpreter of the model's code, and that it tells the truth: part 7. It says of a function of plain data what a call of it comes to. -/
import Derived.Test.YtpipdmfkbnbchaaGreatDoorGeF
import Derived.Scope
namespace Go.Ge
set_option linter.unusedVariables false
set_option linter.unusedSimpArgs false
open RowKit
theorem nK{l:List Nat}{t:Nat}:dJ l t=true↔t∈l:=by
 induction l with
 | nil=>simp[dJ]
 | cons i r ih =>
   simp only[dJ,Bool.or_eq_true,List.mem_cons,ih]
   constructor
   ·rintro(h|h)
    ·exact .inl (Nat.eq_of_beq_eq_true h)
    ·exact .inr h
   ·rintro(h|h)
    ·subst h;exact .inl (by simp)
    ·exact .inr h
theorem iT{l:List Nat}{t:Nat}:dJ l t=false↔t∉l:=by
 rw[←nK];simp
theorem RH{l:List Operand}{t:Nat}(h:Operand.tmp t∈l):t∈tmpsOf l:=by
 induction l with
 | nil=>cases h
 | cons x r ih =>
   rcases List.mem_cons.1 h with h'|h'
   ·subst h';exact List.mem_cons_self ..
   ·clear h
    have h:=h'
    cases x<;>simp only[tmpsOf]
    case tmp k=>exact List.mem_cons_of_mem _ (ih h)
    all_goals exact ih h
section
variable {cx:Ctx} {nb:Nat} {bf:List Nat} {inl:Nat→List aS→St→Tree (aS×St)} {σ σ' τ:St}
structure OZ (cx:Ctx) (nb:Nat) (o:Oper) (fp:Fp):Prop where
 own:∀k,o.dst=some k→nb+k∈fp.rd
 sub:∀b∈fp.wr,b∈fp.rd
 w1:cls cx fp.fn o≠0→∀k,o.dst=some k→nb+k∈fp.wr
 w2:cls cx fp.fn o≠0→cls cx fp.fn o≠1→∀b∈fp.rd,b∈fp.wr
 c3:cls cx fp.fn o≠3
theorem HD(o:Oper)(σ:St)(h:(wz cx nb o σ).Hu=false):OZ cx nb o (wz cx nb o σ):=by
 have hown:∀k,o.dst=some k→nb+k∈Go.Ge.own nb o:=fun k hk=>by simp[Go.Ge.own,hk]
 unfold wz at h⊢
 dsimp only at h⊢
 split at h<;>rename_i hc
 ·exact⟨fun k hk=>List.mem_append_left _ (hown k hk),fun b hb=>(nomatch hb),fun h0=>absurd hc h0,fun h0=>absurd hc h0,by rw[hc];decide⟩
 ·exact⟨fun k hk=>List.mem_append_left _ (hown k hk),fun b hb=>List.mem_append_left _ hb,fun _ k hk=>hown k hk,fun _ h1=>absurd hc h1,by rw[hc];decide⟩
 ·exact⟨fun k hk=>List.mem_append_left _ (hown k hk),fun b hb=>hb,fun _ k hk=>List.mem_append_left _ (hown k hk),fun _ _ b hb=>hb,by rw[hc];decide⟩
 ·cases h
theorem YD{ts rd:List Nat}:Le { (σ.only ts rd) with slots:=σ.slots } σ:=fun b bx hb=>by
 simp only[St.only] at hb
 cases hm:dJ rd b with
 | true=>rw[hm] at hb;exact hb
 | false=>rw[hm] at hb;cases hb
theorem O0{ts rd:List Nat}:Le (σ.only ts rd) σ:=fun b bx hb=>YD (ts:=ts) b bx hb
theorem O1{l:List Operand}{rd:List Nat}{x:Operand}(hx:x∈l):cJ (σ.only (tmpsOf l) rd) x=cJ σ x:=by
 cases x with
 | tmp t =>
   have:=nK.2 (RH hx)
   simp only[cJ,St.only,this,cond_true]
 | _=>rfl
theorem YE{a b:Option Nat}(h:abv a b=true):a=b:=by
 cases a<;>cases b<;>first|rfl|cases h|exact congrArg some (Nat.eq_of_beq_eq_true h)
theorem Ku(o:Oper)(rd:List Nat):nJ o (σ.only (tmpsOf (eO o.op)) rd)=nJ o σ:=by
 unfold nJ
 split
 ·rename_i c hc
  split
  ·rename_i x hx
   rw[O1 (by rw[hc];simp[eO,hx])]
  ·rfl
 ·rfl
theorem AF{fp:Fp}{o:Oper}(hf:fp.Hu=false→OZ cx nb o fp)(hr:(gX cx nb bf inl fp o σ).run=some σ'):(pI cx nb bf inl o σ).run=some σ':=by
 unfold gX at hr
 cases M3:fp.Hu with
 | true=>rw[M3] at hr;exact hr
 | false =>
   have hf:=hf M3
   rw[M3] at hr
   simp only[cond_false] at hr
   obtain⟨τ,h1,h2⟩:=bind_some hr
   obtain rfl:=Option.some.inj h2
   obtain⟨hfn,h1⟩:=aD h1
   have hfn:=YE hfn
   have adW:nJ o σ=fp.fn:=by rw[←hfn];exact(Ku ..).symm
   have hL:=Uo (cx:=cx) (nb:=nb) (bf:=bf) (inl:=inl) (σ1:=σ.only (tmpsOf (eO o.op)) fp.rd) (σ2:=σ) O0 (o:=o) adW hf.c3 (fun x hx=>O1 hx)
    (fun k hk=>by simp only[St.only,nK.2 (hf.own k hk),cond_true]) τ h1
   rw[hL]
   have hC:=RB (cx:=cx) (nb:=nb) (bf:=bf) (σ:=σ.only (tmpsOf (eO o.op)) fp.rd) (o:=o) (p:=fun b=>b∈fp.wr) hfn hf.c3 (fun h0 k hk=>hf.w1 h0 k hk) (fun h0 h1 b hb=>by
    refine hf.w2 h0 h1 b ?_
    simp only[St.only] at hb
    cases hm:dJ fp.rd b with
    | true=>exact nK.1 hm
    | false=>rw[hm] at hb;exact absurd rfl hb) τ h1
   have hm:(fun b=>match τ.mem b with|some x=>some x|none=>σ.mem b)=fun b=>bif dJ fp.wr b then τ.mem b else σ.mem b:=by
    funext b
    have hrd:b∈fp.rd→(σ.only (tmpsOf (eO o.op)) fp.rd).mem b=σ.mem b:=fun h=>by simp only[St.only,nK.2 h,cond_true]
    cases hw:dJ fp.wr b with
    | true =>
      simp only[cond_true]
      cases hq:τ.mem b with
      | some x=>rfl
      | none =>
        simp only
        rw[←hrd (hf.sub b (nK.1 hw))]
        rcases hC b with k|k
        ·rw[←k,hq]
        ·exact absurd hq k.1
    | false =>
      simp only[cond_false]
      rcases hC b with k|k
      ·rw[k]
       cases hq:(σ.only (tmpsOf (eO o.op)) fp.rd).mem b with
       | none=>rfl
       | some x=>simp only;exact(O0 b x hq).symm
      ·exact absurd k.2 (iT.1 hw)
   unfold lift lay
   exact congrArg (fun m=>some (St.mk _ m)) hm
theorem AG{a b:List Nat}(h:T4 a b=true){x:Nat}(hx:x∈a):x∉b:=by
 simp only[T4,List.all_eq_true,Bool.not_eq_true'] at h
 exact iT.1 (h x hx)
theorem apart_spec{x y:Oper}{f g:Fp}(h:apart x y f g=true):f.Hu=false∧g.Hu=false∧(∀b∈f.wr,b∉g.rd)∧(∀b∈g.wr,b∉f.rd) ∧
  (∀d,x.dst=some d→d∉tmpsOf (eO y.op))∧(∀d,y.dst=some d→d∉tmpsOf (eO x.op))∧(∀d e,x.dst=some d→y.dst=some e→d≠e):=by
 simp only[apart,Bool.and_eq_true,Bool.not_eq_true'] at h
 obtain⟨⟨⟨⟨⟨h1,h2⟩,h3⟩,h4⟩,h5⟩,h6⟩:=h
 refine⟨h1,h2,fun b hb=>AG h3 hb,fun b hb=>AG h4 hb,fun d hd=>?_,fun d hd=>?_,fun d e hd he=>?_⟩
 ·rw[hd] at h5
  simp only[Bool.and_eq_true,Bool.not_eq_true'] at h5
  exact iT.1 h5.1
 ·rw[hd] at h6
  simp only[Bool.not_eq_true'] at h6
  exact iT.1 h6
 ·rw[hd,he] at h5
  simp only[Bool.and_eq_true,Bool.not_eq_true'] at h5
  intro q
  subst q
  simp at h5
theorem DB{d:Option Nat}{wr ts rd:List Nat}(h1:∀k,d=some k→k∉ts)(h2:∀b∈wr,b∉rd):(lay σ d wr τ).only ts rd=σ.only ts rd:=by
 unfold St.only lay
 congr 1
 ·funext t
  cases hm:dJ ts t with
  | false=>rfl
  | true =>
    simp only[cond_true]
    cases d with
    | none=>rfl
    | some k =>
      have:t≠k:=fun e=>h1 k rfl (by rw[←e];exact nK.1 hm)
      simp[gK this]
 ·funext b
  cases hm:dJ rd b with
  | false=>rfl
  | true =>
    have:b∉wr:=fun hw=>h2 b hw (nK.1 hm)
    simp[iT.2 this]
theorem V9{oi oj:Oper}{fi fj:Fp}{σ1 σ2:St}(hap:apart oi oj fi fj=true)(hsi:∀b∈fi.wr,b∈fi.rd)(h1:(gX cx nb bf inl fi oi σ).run=some σ1)(h2:(gX cx nb bf inl fj oj σ1).run=some σ2) :
  ∃Wa,(gX cx nb bf inl fj oj σ).run=some Wa∧(gX cx nb bf inl fi oi Wa).run=some σ2:=by
 obtain⟨b1,b2,w1,w2,d1,d2,d3⟩:=apart_spec hap
 unfold gX at h1 h2⊢
 rw[b1] at h1
 rw[b2] at h2
 simp only[b1,b2,cond_false] at h1 h2⊢
 obtain⟨τi,i1,i2⟩:=bind_some h1
 obtain rfl:=Option.some.inj i2
 obtain⟨τj,j1,j2⟩:=bind_some h2
 obtain rfl:=Option.some.inj j2
 rw[DB d1 w1] at j1
 refine⟨lay σ oj.dst fj.wr τj,by rw[Tree.run_bind,j1];rfl,?_⟩
 rw[DB d2 w2,Tree.run_bind,i1]
 show some _=some _
 congr 1
 unfold lay
 congr 1
 ·cases hi:oi.dst with
  | none=>rfl
  | some k =>
    cases hj:oj.dst with
    | none=>rfl
    | some e =>
      have hne:=d3 k e hi hj
      funext t
      dsimp only
      by_cases q1:t=k
      ·subst q1;simp[gK hne]
      ·by_cases q2:t=e
       ·subst q2;simp[gK q1]
       ·simp[gK q1,gK q2]
 ·funext b
  dsimp only
  cases hw1:dJ fi.wr b with
  | false=>rfl
  | true =>
    have:b∉fj.wr:=fun hw=>w2 b hw (hsi b (nK.1 hw1))
    simp[iT.2 this]
inductive Reach (ops:Array Oper):Nat→Nat→Prop where
 | step {i:Nat} {o:Oper} {e:Edge} (h:ops[i]?=some o) (he:e∈o.after) (hb:Region.binds .any e=true):Reach ops i e.on
 | more {i k:Nat} {o:Oper} {e:Edge} (h:ops[i]?=some o) (he:e∈o.after) (hb:Region.binds .any e=true) (r:Reach ops e.on k):Reach ops i k
def M4(ops:Array Oper)(listed:Array Bool):Prop:=∀i o e,listed.getD i false=true→ops[i]?=some o→e∈o.after→Region.binds .any e=true→listed.getD e.on false=true
theorem Reach.listed{ops:Array Oper}{listed:Array Bool}(hs:M4 ops listed){i k:Nat}(h:Reach ops i k):listed.getD i false=true→listed.getD k false=true:=by
 induction h with
 | step h he hb=>exact fun hl=>hs _ _ _ hl h he hb
 | more h he hb r ih=>exact fun hl=>ih (hs _ _ _ hl h he hb)
theorem Reach.ready{ops:Array Oper}{listed:Array Bool}(hs:M4 ops listed){i k:Nat}(h:Reach ops i k)(hr:i∈Region.ready .any ops listed):listed.getD k false=true:=by
 obtain⟨_,o,ho,hall⟩:=mem_ready.1 hr
 cases h with
 | step h he hb =>
   obtain rfl:=Option.some.inj (ho.symm.trans h)
   exact hall _ he hb
 | more h he hb r =>
   obtain rfl:=Option.some.inj (ho.symm.trans h)
   exact r.listed hs (hall _ he hb)
theorem M4.list{ops:Array Oper}{listed:Array Bool}(hs:M4 ops listed){i:Nat}(hr:i∈Region.ready .any ops listed):M4 ops (listed.setIfInBounds i true):=by
 obtain⟨_,oi,hoi,hall⟩:=mem_ready.1 hr
 have up:∀k,listed.getD k false=true→(listed.setIfInBounds i true).getD k false=true:=by
  intro k hk
  by_cases e:i=k
  ·subst e
   rcases Nat.lt_or_ge i listed.size with h'|h'
   ·simp[h']
   ·simp[Array.getElem?_eq_none h'] at hk
  ·rw[getD_set_ne false e];exact hk
 intro j o e hj ho he hb
 by_cases q:i=j
 ·subst q
  obtain rfl:=Option.some.inj (hoi.symm.trans ho)
  exact up _ (hall e he hb)
 ·rw[getD_set_ne false q] at hj
  exact up _ (hs j o e hj ho he hb)
theorem O2{listed:Array Bool}{i:Nat}(h0:listed.getD i true=false)(h1:listed.getD i false=true):False:=by
 rcases Nat.lt_or_ge i listed.size with h'|h'
 ·simp[h'] at h0 h1;rw[h0] at h1;cases h1
 ·simp[Array.getElem?_eq_none h'] at h1
def qX(ops:Array Oper)(done:List yY):Prop:=∀k,∀b,Nat.testBit (maskAt done k) b=true→Reach ops k b
theorem Cq{ops:Array Oper}{done:List yY}(hd:qX ops done){i:Nat}{o:Oper}(ho:ops[i]?=some o){b:Nat}(h:Nat.testBit (mask done o) b=true):Reach ops i b:=by
 unfold mask at h
 have key:∀l:List Edge,(∀e∈l,e∈o.after)→Nat.testBit (tN done l) b=true→Reach ops i b:=by
  intro l
  induction l with
  | nil=>intro _ h;simp[tN] at h
  | cons e r ih =>
    intro hl h
    simp only[tN] at h
    cases hb:Region.binds .any e with
    | false=>rw[hb] at h;exact ih (fun e' he'=>hl e' (List.mem_cons_of_mem _ he')) h
    | true =>
      rw[hb] at h
      simp only[cond_true,Nat.testBit_or,Bool.or_eq_true] at h
      rcases h with (h|h)|h
      ·exact ih (fun e' he'=>hl e' (List.mem_cons_of_mem _ he')) h
      ·rw[Nat.testBit_two_pow] at h
       have:e.on=b:=by simpa using h
       subst this
       exact .step ho (hl e (List.mem_cons_self ..)) hb
      ·exact .more ho (hl e (List.mem_cons_self ..)) hb (hd _ _ h)
 exact key _ (fun e he=>by simpa using he) h
theorem qX.nil{ops:Array Oper}:qX ops []:=fun k b h=>by simp[maskAt] at h
theorem qX.cons{ops:Array Oper}{done:List yY}(hd:qX ops done){i:Nat}{o:Oper}{f:Fp}(ho:ops[i]?=some o):qX ops ((i,o,f,mask done o)::done):=by
 intro k b h
 simp only[maskAt] at h
 cases hk:Nat.beq i k with
 | true =>
   rw[hk] at h
   obtain rfl:=Nat.eq_of_beq_eq_true hk
   exact Cq hd ho h
 | false=>rw[hk] at h;exact hd k b h
def Wb(cx:Ctx)(nb:Nat)(bf:List Nat)(inl:Nat→List aS→St→Tree (aS×St))(ops:Array Oper)(fp:Nat→Fp)(Q:St→Prop):Nat→Array Bool→St→Prop
 | 0,listed,σ=>Region.ready .any ops listed=[]∧Q σ
 | n+1,listed,σ=>(Region.ready .any ops listed=[]→Q σ) ∧
  ∀i∈Region.ready .any ops listed,∃o σ',ops[i]?=some o∧o.guard=none∧(gX cx nb bf inl (fp i) o σ).run=some σ'∧Wb cx nb bf inl ops fp Q n (listed.setIfInBounds i true) σ'
variable {ops:Array Oper} {fp:Nat→Fp} {Q:St→Prop}
theorem RI{i:Nat}{oi:Oper}(hi:ops[i]?=some oi)(hgi:oi.guard=none)(hsub:∀b∈(fp i).wr,b∈(fp i).rd):∀(n:Nat) (listed:Array Bool) (σ σ1:St),
  M4 ops listed→(∀j oj,ops[j]?=some oj→j≠i→listed.getD j true=false→Reach ops j i∨apart oi oj (fp i) (fp j)=true) →
  i∈Region.ready .any ops listed→(gX cx nb bf inl (fp i) oi σ).run=some σ1→Wb cx nb bf inl ops fp Q n (listed.setIfInBounds i true) σ1→Wb cx nb bf inl ops fp Q (n+1) listed σ:=by
 intro n
 induction n with
 | zero =>
   intro listed σ σ1 uf hfree hr h1 H
   refine⟨fun h=>(by rw[h] at hr;cases hr),fun j hj=>?_⟩
   by_cases hji:j=i
   ·subst hji;exact⟨oi,σ1,hi,hgi,h1,H⟩
   ·have:=ready_mono hj hji
    rw[H.1] at this
    cases this
 | succ n ih =>
   intro listed σ σ1 uf hfree hr h1 H
   refine⟨fun h=>(by rw[h] at hr;cases hr),fun j hj=>?_⟩
   by_cases hji:j=i
   ·subst hji;exact⟨oi,σ1,hi,hgi,h1,H⟩
   ·obtain⟨oj,σ2,hoj,hgj,h2,H2⟩:=H.2 j (ready_mono hj hji)
    obtain⟨Wc,oj',Wd,hall⟩:=mem_ready.1 hj
    rw[hoj] at Wd
    obtain rfl:=Option.some.inj Wd
    have hap:apart oi oj (fp i) (fp j)=true:=by
     rcases hfree j oj hoj hji Wc with hw|hap
     ·exact(O2 (mem_ready.1 hr).1 (hw.ready uf hj)).elim
     ·exact hap
    obtain⟨Wa,k1,k2⟩:=V9 hap hsub h1 h2
    refine⟨oj,Wa,hoj,hgj,k1,ih (listed.setIfInBounds j true) Wa σ2 (uf.list hj) (fun k ok hk hki hun=>hfree k ok hk hki ?_) (ready_mono hr (Ne.symm hji)) k2 ?_⟩
    ·by_cases hjk:j=k
     ·subst hjk;exact Wc
     ·rw[getD_set_ne true hjk] at hun;exact hun
    ·rw[Array.setIfInBounds_comm _ _ hji];exact H2
end
end Go.Ge
namespace Go.Ge
set_option linter.unusedVariables false
set_option linter.unusedSimpArgs false
open RowKit
section
variable {P:Program} {B:qz} {N:Nat} {γ:Gh} {cx:Ctx} {nb:Nat} {bf:List Nat} {inl:Nat→List aS→St→Tree (aS×St)} {σ σ' τ:St} {ops:Array Oper} {fp:Nat→Fp}
def YF(cx:Ctx)(nb:Nat)(bf:List Nat)(inl:Nat→List aS→St→Tree (aS×St))(ops:Array Oper)(fp:Nat→Fp):Nat→List Oper→St→St→Prop
 | _,[],σ,σ'=>σ=σ'
 | k,o::l,σ,σ'=>o.guard=none∧((fp k).Hu=false→OZ cx nb o (fp k))∧((fp k).Hu=true→(fp k).wr=[])∧(∀e∈o.after,Region.binds .any e=true→e.on<k) ∧
  (∀j oj,l[j]?=some oj→Reach ops (k+1+j) k∨apart o oj (fp k) (fp (k+1+j))=true) ∧
  ∃σ1,(gX cx nb bf inl (fp k) o σ).run=some σ1∧YF cx nb bf inl ops fp (k+1) l σ1 σ'
theorem IE{o:Oper}{f fk:Fp}{k m mk:Nat}{ok:Oper}{r:List yY}(h:loose o f m ((k,ok,fk,mk)::r)=true):(Nat.testBit m k=true∨apart ok o fk f=true)∧loose o f m r=true:=by
 simp only[loose,Bool.and_eq_true,Bool.or_eq_true] at h
 exact h
theorem We(o:Oper)(σ:St)(h:(wz cx nb o σ).Hu=true):(wz cx nb o σ).wr=[]:=by
 unfold wz at h⊢
 dsimp only at h⊢
 split at h<;>first|cases h|skip
 rfl
theorem M5:∀(l:List Oper) (k:Nat) (done:List yY) (σ:St),(∀j o,l[j]?=some o→ops[k+j]?=some o)→qX ops done→(HR cx nb bf inl (number k l) done σ).run=some σ' →
  ∃fs:List (Fp×Nat),fs.length=l.length∧(∀j m b,fs[j]?=some m→Nat.testBit m.2 b=true→Reach ops (k+j) b) ∧
   ∀fp:Nat→Fp,(∀j f,fs[j]?=some f→fp (k+j)=f.1)→YF cx nb bf inl ops fp k l σ σ'∧∀j o f,l[j]?=some o→fs[j]?=some f→loose o (fp (k+j)) f.2 done=true:=by
 intro l
 induction l with
 | nil =>
   intro k done σ _ _ h
   exact⟨[],rfl,fun j m b h=>absurd h (by simp),fun fp _=>⟨Option.some.inj h,fun j o f hj=>absurd hj (by simp)⟩⟩
 | cons o l ih =>
   intro k done σ hl hm h
   simp only[number,HR] at h
   split at h
   ·cases h
   ·rename_i hg
    obtain⟨hc,h1⟩:=aD h
    obtain⟨σ1,h2,h3⟩:=bind_some h1
    simp only[Bool.and_eq_true] at hc
    have hk:ops[k]?=some o:=hl 0 o rfl
    obtain⟨fs,f1,fm,f2⟩:=ih (k+1) _ σ1 (fun j o' hj=>by have:=hl (j+1) o' (by simpa using hj);rw[←this];congr 1;omega) (hm.cons hk) h3
    refine⟨(wz cx nb o σ,mask done o)::fs,by simp[f1],fun j m b hj hb=>?_,fun fp VD=>?_⟩
    ·cases j with
     | zero=>obtain rfl:=Option.some.inj hj;exact Cq hm hk hb
     | succ j=>have:=fm j m b (by simpa using hj) hb;rw[show k+(j+1)=k+1+j by omega];exact this
    have h0:fp k=wz cx nb o σ:=VD 0 _ rfl
    obtain⟨g1,g2⟩:=f2 fp fun j f hj=>by have:=VD (j+1) f (by simpa using hj);rw[←this];congr 1;omega
    refine⟨⟨hg,fun hb=>by rw[h0] at hb⊢;exact HD o σ hb,fun hb=>by rw[h0] at hb⊢;exact We o σ hb,fun e he hb=>?_,fun j oj hj=>?_,σ1,by rw[h0];exact h2,g1⟩,fun j o' f hj hf=>?_⟩
    ·have:=hc.2
     rw[←Array.all_toList,List.all_eq_true] at this
     have:=this e (by simpa using he)
     rw[hb] at this
     have:=Nat.le_of_ble_eq_true (by simpa [Nat.blt] using this)
     omega
    ·obtain⟨f,hf⟩:∃f,fs[j]?=some f:=⟨_,List.getElem?_eq_getElem (by rw[f1];exact(List.getElem?_eq_some_iff.1 hj).1)⟩
     rcases(IE (g2 j oj f hj hf)).1 with q|q
     ·exact .inl (fm j f k hf q)
     ·rw[h0];exact .inr q
    ·cases j with
     | zero =>
       obtain rfl:=Option.some.inj hj
       obtain rfl:=Option.some.inj hf
       rw[Nat.add_zero,h0];exact hc.1
     | succ j =>
       have:=(IE (g2 j o' f (by simpa using hj) (by simpa using hf))).2
       rw[show k+(j+1)=k+1+j by omega];exact this
theorem Wf:∀(l:List Oper) (k:Nat) (listed:Array Bool) (σ:St),(∀j,l[j]?=ops[k+j]?)→listed.size=ops.size→(∀j,j<k→j<ops.size→listed.getD j false=true) →
  (∀j,k≤j→j<ops.size→listed.getD j true=false)→M4 ops listed→YF cx nb bf inl ops fp k l σ σ'→Wb cx nb bf inl ops fp (·=σ') l.length listed σ:=by
 intro l
 induction l with
 | nil =>
   intro k listed σ hl hs h1 h2 uf h
   refine⟨?_,h⟩
   cases hr:Region.ready .any ops listed with
   | nil=>rfl
   | cons i r =>
     exfalso
     have hi:i∈Region.ready .any ops listed:=by rw[hr];exact List.mem_cons_self ..
     obtain⟨g1,o,g2,_⟩:=mem_ready.1 hi
     have hlt:i<ops.size:=(Array.getElem?_eq_some_iff.1 g2).1
     rcases Nat.lt_or_ge i k with hk|hk
     ·have:=h1 i hk hlt
      simp[hs,hlt] at this g1
      rw[this] at g1;cases g1
     ·have:=hl (i-k)
      rw[show k+(i-k)=i by omega,g2] at this
      cases this
 | cons o l ih =>
   intro k listed σ hl hs h1 h2 uf h
   have hk:ops[k]?=some o:=by simpa using(hl 0).symm
   have hlt:k<ops.size:=(Array.getElem?_eq_some_iff.1 hk).1
   obtain⟨c1,c2,c2',c3,c4,σ1,c5,c6⟩:=h
   have IF:k∈Region.ready .any ops listed:=mem_ready.2 ⟨h2 k (Nat.le_refl _) hlt,o,hk,fun e he hb=>by
    have:=c3 e he hb
    exact h1 e.on this (by omega)⟩
   refine RI hk c1 (fun b hb=>?_) l.length listed σ σ1 uf (fun j oj hj hne hun=>?_) IF c5 (ih (k+1) _ σ1 (fun j=>?_) (by simp[hs]) (fun j hj X8=>?_) (fun j hj X8=>?_) (uf.list IF) c6)
   ·cases M3:(fp k).Hu with
    | true=>rw[c2' M3] at hb;cases hb
    | false=>exact(c2 M3).sub b hb
   ·have Wg:j<ops.size:=(Array.getElem?_eq_some_iff.1 hj).1
    rcases Nat.lt_or_ge j k with hjk|hjk
    ·exfalso
     have:=h1 j hjk Wg
     simp[hs,Wg] at this hun
     rw[this] at hun;cases hun
    ·have hq:=hl (j-k)
     rw[show k+(j-k)=j by omega,hj] at hq
     obtain⟨m,hm⟩:∃m,j-k=m+1:=⟨j-k-1,by omega⟩
     rw[hm] at hq
     have:=c4 m oj (by simpa using hq)
     rw[show k+1+m=j by omega] at this
     exact this
   ·have:=hl (j+1)
    rw[show k+1+j=k+(j+1) by omega,←this];simp
   ·by_cases e:j=k
    ·subst e;simp[hs,hlt]
    ·rw[getD_set_ne false (Ne.symm e)];exact h1 j (by omega) X8
   ·rw[getD_set_ne true (by omega:k≠j)];exact h2 j (by omega) X8
theorem IG:∀{l:List Oper} {k j:Nat} {o:Oper},l[j]?=some o→(k+j,o)∈number k l:=by
 intro l
 induction l with
 | nil=>intro k j o h;cases h
 | cons p l ih =>
   intro k j o h
   cases j with
   | zero=>obtain rfl:=Option.some.inj h;exact List.mem_cons_self ..
   | succ j=>exact List.mem_cons_of_mem _ (by rw[show k+(j+1)=k+1+j by omega];exact ih (by simpa using h))
theorem II{d:Nat}:∀{items:List (Nat×Oper)},mJ d items=false→∀{i:Nat} {o:Oper},(i,o)∈items→o.dst≠some d:=fun h _ _ hm=>Ru h _ _ hm
theorem Kv(hc:fC P cx)(eg:oR P B.G cx)(lf:uV P B.G inl){Q:Exit→Act→World→Prop}(VD:∀i o,ops[i]?=some o→(fp i).Hu=false→OZ cx nb o (fp i))
  (hd:∀o∈ops.toList,∀k,o.dst=some k→k<N):∀(n:Nat) (listed:Array Bool) (σ:St) (γ:Gh) (a:Act) (w:World),Wb cx nb bf inl ops fp (·=σ') n listed σ→cX B N γ σ a w →
   (∀γ' a' w',cX B N γ' σ' a' w'→Ext B γ σ.mem w γ' σ'.mem w'→Fr (number 0 ops.toList) a a'→Q .normal a' w')→wpAny P .any ops Q n listed a w:=by
 intro n
 induction n with
 | zero =>
   intro listed σ γ a w h hs hK
   obtain⟨h1,rfl⟩:=h
   exact⟨h1,hK γ a w hs (Ext.refl _ _ _ _) fun t _=>rfl⟩
 | succ n ih =>
   intro listed σ γ a w h hs hK
   refine⟨fun h0=>?_,fun i hi=>?_⟩
   ·obtain rfl:=h.1 h0
    exact hK γ a w hs (Ext.refl _ _ _ _) fun t _=>rfl
   ·obtain⟨o,σ1,h1,h2,h3,h4⟩:=h.2 i hi
    have hmem:o∈ops.toList:=by
     have:=Array.mem_of_getElem? h1
     simpa using this
    have Tp:(i,o)∈number 0 ops.toList:=by
     have:=IG (l:=ops.toList) (k:=0) (j:=i) (o:=o) (by simpa using h1)
     simpa using this
    unfold wpOp
    rw[h1]
    dsimp only
    have hw:Region.wanted o (yielded ops a.tmps)=true:=by unfold Region.wanted;rw[h2]
    rw[hw]
    simp only[if_true]
    refine .inl (Iq hc eg lf hs (hd o hmem) (AF (VD i o h1) h3) fun jb v w1 s1 x1=>?_)
    refine ih _ σ1 jb _ w1 h4 s1 fun EW a2 w2 s2 x2 f2=>hK EW a2 w2 s2 (x1.trans x2) fun t ht=>?_
    rw[f2 t ht,fu (II ht Tp)]
theorem cX.draw{a:Act}{w:World}(h:cX B N γ σ a w)(n:Nat):cX B N γ σ a { w with drawn:=n }∧Ext B γ σ.mem w γ σ.mem { w with drawn:=n }:=by
 obtain⟨m1,m2⟩:=h.ok.far (w':={ w with drawn:=n }) (I':=γ.I) ⟨rfl,rfl,rfl,Nat.le_refl _,fun _ _=>rfl⟩ (fun _ _ k=>k) (fun b o k=>h.ok.sU b o k) (fun b o k k'=>absurd k k')
 exact⟨h.go m2 m1,m2⟩
theorem M6(rV:P.follows .mixedOrders=true)(hc:fC P cx)(eg:oR P B.G cx)(lf:uV P B.G inl){Q:Exit→Act→World→Prop}{id:Nat}{a:Act}{w:World}
  (hd:∀o∈ops.toList,∀k,o.dst=some k→k<N) (hr:(HR cx nb bf inl (number 0 ops.toList) [] σ).run=some σ') (h:cX B N γ σ a w)
  (hK:∀γ' a' w',cX B N γ' σ' a' w'→Ext B γ σ.mem w γ' σ'.mem w'→Fr (number 0 ops.toList) a a'→Q .normal a' w'):(Code.region id ops true).wp P Q a w:=by
 refine wp_region_any rV ?_
 obtain⟨fs,f1,fm,f2⟩:=M5 (ops:=ops) ops.toList 0 [] σ (fun j o hj=>by simpa using hj) qX.nil hr
 let fp:Nat→Fp:=fun i=>(fs[i]?.map (·.1)).getD ⟨[],[],true,none⟩
 obtain⟨g1,_⟩:=f2 fp fun j f hj=>by simp[fp,hj]
 have key:∀(l:List Oper) (k:Nat) (σ:St),YF cx nb bf inl ops fp k l σ σ'→∀j o,l[j]?=some o→(fp (k+j)).Hu=false→OZ cx nb o (fp (k+j)):=by
  intro l
  induction l with
  | nil=>intro k σ _ j o hj;cases hj
  | cons o l ih =>
    intro k σ hL j o' hj
    obtain⟨c1,c2,c2',c3,c4,σ1,c5,c6⟩:=hL
    cases j with
    | zero=>obtain rfl:=Option.some.inj hj;exact c2
    | succ j=>rw[show k+(j+1)=k+1+j by omega];exact ih (k+1) σ1 c6 j o' (by simpa using hj)
 have hA:=Wf (ops:=ops) (cx:=cx) (nb:=nb) (bf:=bf) (inl:=inl) (fp:=fp) (σ':=σ') ops.toList 0 (Array.replicate ops.size false) σ (by simp) (by simp) (fun j hj=>by omega)
  (fun j _ hj=>by simp[hj]) (fun i o e hi=>by
   exfalso
   rcases Nat.lt_or_ge i ops.size with h'|h'<;>simp[h'] at hi) g1
 obtain⟨s1,x1⟩:=h.draw (w.drawn+1)
 refine Kv hc eg lf (fun i o hi=>by have:=key _ 0 σ g1 i o (by simpa using hi);simpa using this) hd _ _ σ γ a _ (by simpa using hA) s1 fun γ' a' w' s x f=>hK γ' a' w' s (x1.trans x) f
end
end Go.Ge
namespace Go.Ge
set_option linter.unusedVariables false
set_option linter.unusedSimpArgs false
open RowKit
section
variable {cx:Ctx} {nb:Nat} {bf:List Nat} {inl:Nat→List aS→St→Tree (aS×St)} {ops:Array Oper} {fp:Nat→Fp}
abbrev J8:=St×(Nat→Bool)
def Cr(ops:Array Oper)(o:Oper)(s:J8):Option Bool:=match o.guard with
 | none=>some true
 | some (g,want)=>match(ops[g]?).bind (·.dst) with
   | none=>none
   | some dg=>bif s.2 g then some false else match s.1.slots dg with
     | .data .bool c=>some ((show Bool from c)==want)
     | _=>none
def nu(cx:Ctx)(nb:Nat)(bf:List Nat)(inl:Nat→List aS→St→Tree (aS×St))(ops:Array Oper)(f:Fp)(i:Nat)(o:Oper)(s:J8):Option J8:=match Cr ops o s with
 | none=>none
 | some true=>(gX cx nb bf inl f o s.1).run.map fun σ=>(σ,s.2)
 | some false=>some (s.1.aU o.dst .undef,gd i s.2)
def abX:St:={ slots:=fun _=>.undef,mem:=fun _=>none }
theorem O3(σ:St)(d:Option Nat):σ.aU d .undef=lay σ d [] abX:=by
 unfold lay
 cases d with
 | none=>rfl
 | some k=>rfl
theorem LB{f:Fp}{i:Nat}{o:Oper}{s s':J8}(hb:f.Hu=false)(h:nu cx nb bf inl ops f i o s=some s'):∃b wr τ,Cr ops o s=some b∧s'=(lay s.1 o.dst wr τ,bif b then s.2 else gd i s.2)∧(∀x∈wr,x∈f.wr) ∧
  ∀s0:J8,Cr ops o s0=some b→(b=true→s0.1.only (tmpsOf (eO o.op)) f.rd=s.1.only (tmpsOf (eO o.op)) f.rd)→nu cx nb bf inl ops f i o s0=some (lay s0.1 o.dst wr τ,bif b then s0.2 else gd i s0.2):=by
 unfold nu at h
 cases hd:Cr ops o s with
 | none=>rw[hd] at h;cases h
 | some b =>
   rw[hd] at h
   cases b with
   | true =>
     simp only at h
     obtain⟨σ',h1,rfl⟩:=Option.map_eq_some_iff.1 h
     unfold gX at h1
     rw[hb] at h1
     simp only[cond_false] at h1
     obtain⟨τ,h2,h3⟩:=bind_some h1
     obtain rfl:=Option.some.inj h3
     refine⟨true,f.wr,τ,rfl,rfl,fun x hx=>hx,fun s0 h0 h4=>?_⟩
     unfold nu
     rw[h0]
     simp only
     unfold gX
     rw[hb]
     simp only[cond_false]
     rw[Tree.run_bind,h4 rfl,h2]
     rfl
   | false =>
     simp only at h
     obtain rfl:=Option.some.inj h
     refine⟨false,[],abX,rfl,by rw[O3];rfl,fun x hx=>(nomatch hx),fun s0 h0 _=>?_⟩
     unfold nu
     rw[h0]
     simp only
     rw[O3]
     rfl
theorem O4{i j:Nat}{x y:Oper}{f g:Fp}(h:yZ ops i j x y f g=true):f.Hu=false∧g.Hu=false∧(∀b∈f.wr,b∉g.rd)∧(∀b∈g.wr,b∉f.rd)∧wA x j=true∧wA y i=true ∧
  (∀d,x.dst=some d→d∉Cb ops y)∧(∀d,y.dst=some d→d∉Cb ops x)∧(∀d e,x.dst=some d→y.dst=some e→d≠e):=by
 simp only[yZ,Bool.and_eq_true,Bool.not_eq_true'] at h
 obtain⟨⟨⟨⟨⟨⟨⟨h1,h2⟩,h3⟩,h4⟩,g1⟩,g2⟩,h5⟩,h6⟩:=h
 refine⟨h1,h2,fun b hb=>AG h3 hb,fun b hb=>AG h4 hb,g1,g2,fun d hd=>?_,fun d hd=>?_,fun d e hd he=>?_⟩
 ·rw[hd] at h5
  simp only[Bool.and_eq_true,Bool.not_eq_true'] at h5
  exact iT.1 h5.1
 ·rw[hd] at h6
  simp only[Bool.not_eq_true'] at h6
  exact iT.1 h6
 ·rw[hd,he] at h5
  simp only[Bool.and_eq_true,Bool.not_eq_true'] at h5
  intro q
  subst q
  simp at h5
theorem IJ{i:Nat}{o:Oper}{s:J8}{d:Option Nat}{wr:List Nat}{τ:St}{b:Bool}(hg:wA o i=true)(hd:∀k,d=some k→k∉Cb ops o):Cr ops o (lay s.1 d wr τ,bif b then s.2 else gd i s.2)=Cr ops o s:=by
 unfold Cr
 cases hgd:o.guard with
 | none=>rfl
 | some p =>
   obtain⟨g,want⟩:=p
   dsimp only
   cases hdg:(ops[g]?).bind (·.dst) with
   | none=>rfl
   | some dg =>
     dsimp only
     have hgi:Nat.beq g i=false:=by
      unfold wA at hg
      rw[hgd] at hg
      simpa using hg
     have h1:(bif b then s.2 else gd i s.2) g=s.2 g:=by
      cases b with
      | true=>rfl
      | false=>simp only[cond_false,gd,hgi,Bool.false_or]
     have h2:(lay s.1 d wr τ).slots dg=s.1.slots dg:=by
      unfold lay
      cases d with
      | none=>rfl
      | some k =>
        have hne:dg≠k:=fun e=>hd k rfl (by
         unfold Cb Lq
         rw[hgd]
         dsimp only
         rw[hdg]
         subst e
         exact List.mem_cons_self ..)
        simp[gK hne]
     rw[h1,h2]
theorem Wh(σ:St){di dj:Option Nat}{wi wj:List Nat}{τi τj:St}(hd:∀d e,di=some d→dj=some e→d≠e)(hw:∀b∈wi,b∉wj):lay (lay σ dj wj τj) di wi τi=lay (lay σ di wi τi) dj wj τj:=by
 unfold lay
 congr 1
 ·cases di with
  | none=>rfl
  | some k =>
    cases dj with
    | none=>rfl
    | some e =>
      have hne:=hd k e rfl rfl
      funext t
      dsimp only
      by_cases q1:t=k
      ·subst q1;simp[gK hne]
      ·by_cases q2:t=e
       ·subst q2;simp[gK q1]
       ·simp[gK q1,gK q2]
 ·funext b
  dsimp only
  cases hw1:dJ wi b with
  | false=>rfl
  | true =>
    have:b∉wj:=hw b (nK.1 hw1)
    simp[iT.2 this]
theorem RJ{i j:Nat}{oi oj:Oper}{fi fj:Fp}{s s1 s2:J8}(hap:yZ ops i j oi oj fi fj=true)(hsi:∀b∈fi.wr,b∈fi.rd)(h1:nu cx nb bf inl ops fi i oi s=some s1)(h2:nu cx nb bf inl ops fj j oj s1=some s2) :
  ∃s1',nu cx nb bf inl ops fj j oj s=some s1'∧nu cx nb bf inl ops fi i oi s1'=some s2:=by
 obtain⟨b1,b2,w1,w2,g1,g2,d1,d2,d3⟩:=O4 hap
 obtain⟨bi,wi,τi,e1,e2,e3,e4⟩:=LB b1 h1
 subst e2
 obtain⟨bj,wj,τj,k1,k2,k3,k4⟩:=LB b2 h2
 subst k2
 rw[IJ g2 d1] at k1
 have tm:∀{o:Oper} {k:Nat},k∉Cb ops o→k∉tmpsOf (eO o.op):=fun h hm=>h (List.mem_append_right _ hm)
 have hj:=k4 s k1 fun _=>(DB (fun k hk=>tm (d1 k hk)) (fun b hb=>w1 b (e3 b hb))).symm
 refine⟨_,hj,?_⟩
 have hi:=e4 (lay s.1 oj.dst wj τj,bif bj then s.2 else gd j s.2) (by rw[IJ g1 d2];exact e1) fun _=>DB (fun k hk=>tm (d2 k hk)) (fun b hb=>w2 b (k3 b hb))
 rw[hi]
 congr 1
 refine Prod.ext ?_ ?_
 ·exact Wh s.1 d3 (fun b hb hb2=>w2 b (k3 b hb2) (hsi b (e3 b hb)))
 ·dsimp only
  cases bi<;>cases bj<;>first|rfl|skip
  simp only[cond_false]
  funext k
  simp only[gd]
  cases Nat.beq k i<;>cases Nat.beq k j<;>rfl
def M7(cx:Ctx)(nb:Nat)(bf:List Nat)(inl:Nat→List aS→St→Tree (aS×St))(ops:Array Oper)(fp:Nat→Fp)(Q:J8→Prop):Nat→Array Bool→J8→Prop
 | 0,listed,s=>Region.ready .any ops listed=[]∧Q s
 | n+1,listed,s=>(Region.ready .any ops listed=[]→Q s) ∧
  ∀i∈Region.ready .any ops listed,∃o s',ops[i]?=some o∧nu cx nb bf inl ops (fp i) i o s=some s'∧M7 cx nb bf inl ops fp Q n (listed.setIfInBounds i true) s'
variable {Q:J8→Prop}
theorem RL{i:Nat}{oi:Oper}(hi:ops[i]?=some oi)(hsub:∀b∈(fp i).wr,b∈(fp i).rd):∀(n:Nat) (listed:Array Bool) (s s1:J8),
  M4 ops listed→(∀j oj,ops[j]?=some oj→j≠i→listed.getD j true=false→Reach ops j i∨yZ ops i j oi oj (fp i) (fp j)=true) →
  i∈Region.ready .any ops listed→nu cx nb bf inl ops (fp i) i oi s=some s1→M7 cx nb bf inl ops fp Q n (listed.setIfInBounds i true) s1→M7 cx nb bf inl ops fp Q (n+1) listed s:=by
 intro n
 induction n with
 | zero =>
   intro listed s s1 uf hfree hr h1 H
   refine⟨fun h=>(by rw[h] at hr;cases hr),fun j hj=>?_⟩
   by_cases hji:j=i
   ·subst hji;exact⟨oi,s1,hi,h1,H⟩
   ·have:=ready_mono hj hji
    rw[H.1] at this
    cases this
 | succ n ih =>
   intro listed s s1 uf hfree hr h1 H
   refine⟨fun h=>(by rw[h] at hr;cases hr),fun j hj=>?_⟩
   by_cases hji:j=i
   ·subst hji;exact⟨oi,s1,hi,h1,H⟩
   ·obtain⟨oj,s2,hoj,h2,H2⟩:=H.2 j (ready_mono hj hji)
    obtain⟨Wc,oj',Wd,hall⟩:=mem_ready.1 hj
    rw[hoj] at Wd
    obtain rfl:=Option.some.inj Wd
    have hap:yZ ops i j oi oj (fp i) (fp j)=true:=by
     rcases hfree j oj hoj hji Wc with hw|hap
     ·exact(O2 (mem_ready.1 hr).1 (hw.ready uf hj)).elim
     ·exact hap
    obtain⟨s1',k1,k2⟩:=RJ hap hsub h1 h2
    refine⟨oj,s1',hoj,k1,ih (listed.setIfInBounds j true) s1' s2 (uf.list hj) (fun k ok hk hki hun=>hfree k ok hk hki ?_) (ready_mono hr (Ne.symm hji)) k2 ?_⟩
    ·by_cases hjk:j=k
     ·subst hjk;exact Wc
     ·rw[getD_set_ne true hjk] at hun;exact hun
    ·rw[Array.setIfInBounds_comm _ _ hji];exact H2
end
end Go.Ge
namespace Go.Ge
set_option linter.unusedVariables false
set_option linter.unusedSimpArgs false
open RowKit
section
variable {P:Program} {B:qz} {N:Nat} {γ:Gh} {cx:Ctx} {nb:Nat} {bf:List Nat} {inl:Nat→List aS→St→Tree (aS×St)} {σ σ':St} {ops:Array Oper} {fp:Nat→Fp}
theorem Wi{σ:St}{d:Nat}{v:aS}(h:σ.slots d=v):σ.put d v=σ:=by
 unfold St.put
 obtain⟨sl,mm⟩:=σ
 congr 1
 funext t
 cases hb:Nat.beq t d with
 | true=>obtain rfl:=Nat.eq_of_beq_eq_true hb;exact h.symm
 | false=>rfl
def YG(cx:Ctx)(nb:Nat)(bf:List Nat)(inl:Nat→List aS→St→Tree (aS×St))(ops:Array Oper)(fp:Nat→Fp):Nat→List Oper→J8→J8→Prop
 | _,[],s,s'=>s=s'
 | k,o::l,s,s'=>(((fp k).Hu=false→OZ cx nb o (fp k))∧((fp k).Hu=true→(fp k).wr=[]))∧(∀e∈o.after,Region.binds .any e=true→e.on<k) ∧
  (∀j oj,l[j]?=some oj→Reach ops (k+1+j) k∨yZ ops k (k+1+j) o oj (fp k) (fp (k+1+j))=true) ∧
  ∃s1,nu cx nb bf inl ops (fp k) k o s=some s1∧YG cx nb bf inl ops fp (k+1) l s1 s'
theorem F2{i:Nat}{o:Oper}{f fk:Fp}{k m mk:Nat}{ok:Oper}{r:List yY}(h:Cc ops i o f m ((k,ok,fk,mk)::r)=true):(Nat.testBit m k=true∨yZ ops k i ok o fk f=true)∧Cc ops i o f m r=true:=by
 simp only[Cc,Bool.and_eq_true,Bool.or_eq_true] at h
 exact h
theorem IK{i:Nat}{o:Oper}{r:List (Nat×Oper)}{done:List yY}{sk:Nat→Bool}(h:(sR cx nb bf inl ops ((i,o)::r) done σ sk).run=some σ') :
  ∃s1:J8,Cc ops i o (wz cx nb o σ) (mask done o) done=true∧(∀e∈o.after,Region.binds .any e=true→e.on<i)∧nu cx nb bf inl ops (wz cx nb o σ) i o (σ,sk)=some s1 ∧
   (sR cx nb bf inl ops r ((i,o,wz cx nb o σ,mask done o)::done) s1.1 s1.2).run=some σ':=by
 simp only[sR] at h
 obtain⟨hc,h1⟩:=aD h
 simp only[Bool.and_eq_true] at hc
 obtain⟨hc2,hc3⟩:=hc
 have abY:∀e∈o.after,Region.binds .any e=true→e.on<i:=fun e he hb=>by
  rw[←Array.all_toList,List.all_eq_true] at hc3
  have:=hc3 e (by simpa using he)
  rw[hb] at this
  have:=Nat.le_of_ble_eq_true (by simpa [Nat.blt] using this)
  omega
 suffices ∃s1:J8,nu cx nb bf inl ops (wz cx nb o σ) i o (σ,sk)=some s1∧(sR cx nb bf inl ops r ((i,o,wz cx nb o σ,mask done o)::done) s1.1 s1.2).run=some σ' by
  obtain⟨s1,k1,k2⟩:=this
  exact⟨s1,hc2,abY,k1,k2⟩
 split at h1
 ·rename_i hg
  obtain⟨σ1,h2,h3⟩:=bind_some h1
  refine⟨(σ1,sk),?_,h3⟩
  have hd:Cr ops o (σ,sk)=some true:=by unfold Cr;rw[hg]
  unfold nu
  rw[hd]
  dsimp only
  rw[h2];rfl
 ·rename_i g want hg
  split at h1
  ·cases h1
  ·rename_i dg hdg
   cases hsk:sk g with
   | true =>
     rw[hsk] at h1
     refine⟨(σ.aU o.dst .undef,gd i sk),?_,h1⟩
     have hd:Cr ops o (σ,sk)=some false:=by unfold Cr;rw[hg];dsimp only;rw[hdg];dsimp only;rw[hsk];rfl
     unfold nu
     rw[hd]
   | false =>
     rw[hsk] at h1
     simp only[cond_false] at h1
     split at h1
     ·rename_i c Dx
      change Bool at c
      have hn:=fL h1
      have hd:Cr ops o (σ,sk)=some (c==want):=by unfold Cr;rw[hg];dsimp only;rw[hdg];dsimp only;rw[hsk];simp only[cond_false];rw[Dx]
      have hput:=Wi Dx
      have run:∀{σ1:St},(gX cx nb bf inl (wz cx nb o σ) o σ).run=some σ1→(c==want)=true→nu cx nb bf inl ops (wz cx nb o σ) i o (σ,sk)=some (σ1,sk):=fun h2 hw=>by
       unfold nu
       rw[hd,hw]
       dsimp only
       rw[h2];rfl
      have skip:(c==want)=false→nu cx nb bf inl ops (wz cx nb o σ) i o (σ,sk)=some (σ.aU o.dst .undef,gd i sk):=fun hw=>by
       unfold nu
       rw[hd,hw]
      cases c with
      | true =>
        simp only[cond_true] at hn
        rw[hput] at hn
        cases want with
        | true=>obtain⟨σ1,h2,h3⟩:=bind_some hn;exact⟨(σ1,sk),run h2 rfl,h3⟩
        | false=>exact⟨_,skip rfl,hn⟩
      | false =>
        simp only[cond_false] at hn
        rw[hput] at hn
        cases want with
        | true=>exact⟨_,skip rfl,hn⟩
        | false=>obtain⟨σ1,h2,h3⟩:=bind_some hn;exact⟨(σ1,sk),run h2 rfl,h3⟩
     ·cases h1
theorem Kw:∀(l:List Oper) (k:Nat) (done:List yY) (σ:St) (sk:Nat→Bool),(∀j o,l[j]?=some o→ops[k+j]?=some o)→qX ops done→(sR cx nb bf inl ops (number k l) done σ sk).run=some σ' →
  ∃(fs:List (Fp×Nat)) (sk':Nat→Bool),fs.length=l.length∧(∀j m b,fs[j]?=some m→Nat.testBit m.2 b=true→Reach ops (k+j) b) ∧
   ∀fp:Nat→Fp,(∀j f,fs[j]?=some f→fp (k+j)=f.1)→YG cx nb bf inl ops fp k l (σ,sk) (σ',sk')∧∀j o f,l[j]?=some o→fs[j]?=some f→Cc ops (k+j) o (fp (k+j)) f.2 done=true:=by
 intro l
 induction l with
 | nil =>
   intro k done σ sk _ _ h
   obtain rfl:=Option.some.inj h
   exact⟨[],sk,rfl,fun j m b h=>absurd h (by simp),fun fp _=>⟨rfl,fun j o f hj=>absurd hj (by simp)⟩⟩
 | cons o l ih =>
   intro k done σ sk hl hm h
   obtain⟨s1,h2,h3,h4,h5⟩:=IK (r:=number (k+1) l) h
   have hk:ops[k]?=some o:=hl 0 o rfl
   obtain⟨fs,sk',f1,fm,f2⟩:=ih (k+1) _ s1.1 s1.2 (fun j o' hj=>by have:=hl (j+1) o' (by simpa using hj);rw[←this];congr 1;omega) (hm.cons hk) h5
   refine⟨(wz cx nb o σ,mask done o)::fs,sk',by simp[f1],fun j m b hj hb=>?_,fun fp VD=>?_⟩
   ·cases j with
    | zero=>obtain rfl:=Option.some.inj hj;exact Cq hm hk hb
    | succ j=>have:=fm j m b (by simpa using hj) hb;rw[show k+(j+1)=k+1+j by omega];exact this
   have h0:fp k=wz cx nb o σ:=VD 0 _ rfl
   obtain⟨g1,g2⟩:=f2 fp fun j f hj=>by have:=VD (j+1) f (by simpa using hj);rw[←this];congr 1;omega
   refine⟨⟨⟨fun hb=>by rw[h0] at hb⊢;exact HD o σ hb,fun hb=>by rw[h0] at hb⊢;exact We o σ hb⟩,h3,fun j oj hj=>?_,s1,by rw[h0];exact h4,g1⟩,fun j o' f hj hf=>?_⟩
   ·obtain⟨f,hf⟩:∃f,fs[j]?=some f:=⟨_,List.getElem?_eq_getElem (by rw[f1];exact(List.getElem?_eq_some_iff.1 hj).1)⟩
    rcases(F2 (g2 j oj f hj hf)).1 with q|q
    ·exact .inl (fm j f k hf q)
    ·rw[h0];exact .inr q
   ·cases j with
    | zero =>
      obtain rfl:=Option.some.inj hj
      obtain rfl:=Option.some.inj hf
      rw[Nat.add_zero,h0];exact h2
    | succ j =>
      have:=(F2 (g2 j o' f (by simpa using hj) (by simpa using hf))).2
      rw[show k+(j+1)=k+1+j by omega];exact this
theorem Wj{s':J8}:∀(l:List Oper) (k:Nat) (listed:Array Bool) (s:J8),(∀j,l[j]?=ops[k+j]?)→listed.size=ops.size→(∀j,j<k→j<ops.size→listed.getD j false=true) →
  (∀j,k≤j→j<ops.size→listed.getD j true=false)→M4 ops listed→YG cx nb bf inl ops fp k l s s'→M7 cx nb bf inl ops fp (·=s') l.length listed s:=by
 intro l
 induction l with
 | nil =>
   intro k listed s hl hs h1 h2 uf h
   refine⟨?_,h⟩
   cases hr:Region.ready .any ops listed with
   | nil=>rfl
   | cons i r =>
     exfalso
     have hi:i∈Region.ready .any ops listed:=by rw[hr];exact List.mem_cons_self ..
     obtain⟨g1,o,g2,_⟩:=mem_ready.1 hi
     have hlt:i<ops.size:=(Array.getElem?_eq_some_iff.1 g2).1
     rcases Nat.lt_or_ge i k with hk|hk
     ·have:=h1 i hk hlt
      simp[hs,hlt] at this g1
      rw[this] at g1;cases g1
     ·have:=hl (i-k)
      rw[show k+(i-k)=i by omega,g2] at this
      cases this
 | cons o l ih =>
   intro k listed s hl hs h1 h2 uf h
   have hk:ops[k]?=some o:=by simpa using(hl 0).symm
   have hlt:k<ops.size:=(Array.getElem?_eq_some_iff.1 hk).1
   obtain⟨c2,c3,c4,s1,c5,c6⟩:=h
   have IF:k∈Region.ready .any ops listed:=mem_ready.2 ⟨h2 k (Nat.le_refl _) hlt,o,hk,fun e he hb=>by
    have:=c3 e he hb
    exact h1 e.on this (by omega)⟩
   refine RL hk (fun b hb=>by
    cases M3:(fp k).Hu with
    | true=>rw[c2.2 M3] at hb;cases hb
    | false=>exact(c2.1 M3).sub b hb) l.length listed s s1 uf (fun j oj hj hne hun=>?_) IF c5 (ih (k+1) _ s1 (fun j=>?_) (by simp[hs]) (fun j hj X8=>?_) (fun j hj X8=>?_) (uf.list IF) c6)
   ·have Wg:j<ops.size:=(Array.getElem?_eq_some_iff.1 hj).1
    rcases Nat.lt_or_ge j k with hjk|hjk
    ·exfalso
     have:=h1 j hjk Wg
     simp[hs,Wg] at this hun
     rw[this] at hun;cases hun
    ·have hq:=hl (j-k)
     rw[show k+(j-k)=j by omega,hj] at hq
     obtain⟨m,hm⟩:∃m,j-k=m+1:=⟨j-k-1,by omega⟩
     rw[hm] at hq
     have:=c4 m oj (by simpa using hq)
     rw[show k+1+m=j by omega] at this
     exact this
   ·have:=hl (j+1)
    rw[show k+1+j=k+(j+1) by omega,←this];simp
   ·by_cases e:j=k
    ·subst e;simp[hs,hlt]
    ·rw[getD_set_ne false (Ne.symm e)];exact h1 j (by omega) X8
   ·rw[getD_set_ne true (by omega:k≠j)];exact h2 j (by omega) X8
theorem RM(hkeep:∀f vals σ v σ',(inl f vals σ).run=some (v,σ')→br σ σ'):∀(l:List Oper) (k:Nat) (done:List yY) (σ σ':St) (sk:Nat→Bool),(sR cx nb bf inl ops (number k l) done σ sk).run=some σ'→br σ σ':=by
 intro l
 induction l with
 | nil=>intro k done σ σ' sk h;obtain rfl:=Option.some.inj h;exact br.refl _
 | cons o l ih =>
   intro k done σ σ' sk h
   obtain⟨s1,h2,h3,h4,h5⟩:=IK (r:=number (k+1) l) h
   refine br.trans ?_ (ih _ _ _ _ _ h5)
   unfold nu at h4
   split at h4
   ·cases h4
   ·obtain⟨σ1,q1,rfl⟩:=Option.map_eq_some_iff.1 h4
    exact zn hkeep σ1 (AF (fun hb=>HD o σ hb) q1)
   ·obtain rfl:=Option.some.inj h4
    exact br.aU _ _ _
end
end Go.Ge
namespace Go.Ge
set_option linter.unusedVariables false
set_option linter.unusedSimpArgs false
open RowKit
section
variable {P:Program} {B:qz} {N:Nat} {γ:Gh} {cx:Ctx} {nb:Nat} {bf:List Nat} {inl:Nat→List aS→St→Tree (aS×St)} {σ σ':St} {ops:Array Oper} {fp:Nat→Fp}
theorem RN{l:List Oper}{j:Nat}{o:Oper}{d:Nat}(h:l[j]?=some o)(hd:o.dst=some d):d∈jR.EO l:=by
 induction l generalizing j with
 | nil=>cases h
 | cons p l ih =>
   cases j with
   | zero=>obtain rfl:=Option.some.inj h;simp only[jR.EO,hd];exact List.mem_cons_self ..
   | succ j =>
     have:=ih (j:=j) (by simpa using h)
     simp only[jR.EO]
     split
     ·exact List.mem_cons_of_mem _ this
     ·exact this
theorem IL:∀{l:List Oper},jR l=true→∀{i j:Nat} {x y:Oper} {d:Nat},i<j→l[i]?=some x→l[j]?=some y→x.dst=some d→y.dst≠some d:=by
 intro l
 induction l with
 | nil=>intro _ i j x y d _ h;cases h
 | cons p l ih =>
   intro h i j x y d hij hx hy hd he
   simp only[jR,Bool.and_eq_true] at h
   obtain⟨m,rfl⟩:∃m,j=m+1:=⟨j-1,by omega⟩
   have hy':l[m]?=some y:=by simpa using hy
   cases i with
   | zero =>
     obtain rfl:=Option.some.inj hx
     have h1:=h.1
     rw[hd] at h1
     simp only[Bool.not_eq_true'] at h1
     exact iT.1 h1 (RN hy' he)
   | succ i=>exact ih h.2 (i:=i) (j:=m) (by omega) (by simpa using hx) hy' hd he
theorem RO(h:jR ops.toList=true){i j:Nat}{x y:Oper}{d:Nat}(hij:i≠j)(hx:ops[i]?=some x)(hy:ops[j]?=some y)(hd:x.dst=some d):y.dst≠some d:=by
 rcases Nat.lt_or_gt_of_ne hij with h1|h1
 ·exact IL h h1 (by simpa using hx) (by simpa using hy) hd
 ·intro he
  exact IL h h1 (by simpa using hy) (by simpa using hx) he hd
def RP(ops:Array Oper)(sk:Nat→Bool)(listed:Array Bool)(a:Act):Prop:=∀k,sk k=true→yielded ops a.tmps k=none∧listed.getD k true=true
theorem uX{a:Act}{i k:Nat}{o:Oper}{v:Value}(hnt:jR ops.toList=true)(hi:ops[i]?=some o)(hne:k≠i):yielded ops (a.put o.dst v).tmps k=yielded ops a.tmps k:=by
 unfold yielded
 cases hk:ops[k]? with
 | none=>rfl
 | some y =>
   simp only[Option.bind_some]
   cases hd:y.dst with
   | none=>rfl
   | some dk =>
     simp only[Option.bind_some]
     have:o.dst≠some dk:=RO hnt hne hk hi hd
     rw[fu this]
theorem RP.run{sk:Nat→Bool}{listed:Array Bool}{a:Act}{i:Nat}{o:Oper}{v:Value}(h:RP ops sk listed a)(hnt:jR ops.toList=true)(hi:ops[i]?=some o)(hl:listed.getD i true=false):RP ops sk (listed.setIfInBounds i true) (a.put o.dst v):=fun k hk=>by
 obtain⟨h1,h2⟩:=h k hk
 have hne:k≠i:=fun e=>by subst e;rw[h2] at hl;cases hl
 exact⟨by rw[uX hnt hi hne];exact h1,by rw[getD_set_ne true (Ne.symm hne)];exact h2⟩
theorem RP.skip{sk:Nat→Bool}{listed:Array Bool}{a:Act}{i:Nat}{o:Oper}(h:RP ops sk listed a)(hnt:jR ops.toList=true)(hi:ops[i]?=some o)(hl:listed.getD i true=false):RP ops (gd i sk) (listed.setIfInBounds i true) (a.put o.dst Go.undef):=fun k hk=>by
 by_cases hne:k=i
 ·subst hne
  refine⟨Dv hi,?_⟩
  rcases Nat.lt_or_ge k listed.size with h'|h'
  ·simp[h']
  ·simp[Array.getElem?_eq_none h'] at hl
 ·have hk':sk k=true:=by
   simp only[gd,gK hne,Bool.false_or] at hk
   exact hk
  obtain⟨h1,h2⟩:=h k hk'
  exact⟨by rw[uX hnt hi hne];exact h1,by rw[getD_set_ne true (Ne.symm hne)];exact h2⟩
theorem Kx(hc:fC P cx)(eg:oR P B.G cx)(lf:uV P B.G inl){Q:Exit→Act→World→Prop}(hnt:jR ops.toList=true)(VD:∀i o,ops[i]?=some o→(fp i).Hu=false→OZ cx nb o (fp i))
  (hd:∀o∈ops.toList,∀k,o.dst=some k→k<N):∀(n:Nat) (listed:Array Bool) (s:J8) (γ:Gh) (a:Act) (w:World),M7 cx nb bf inl ops fp (fun s=>s.1=σ') n listed s→cX B N γ s.1 a w→RP ops s.2 listed a →
   (∀γ' a' w',cX B N γ' σ' a' w'→Ext B γ s.1.mem w γ' σ'.mem w'→Fr (number 0 ops.toList) a a'→Q .normal a' w')→wpAny P .any ops Q n listed a w:=by
 intro n
 induction n with
 | zero =>
   intro listed s γ a w h hs hsk hK
   obtain⟨h1,h2⟩:=h
   rw[←h2] at hK
   exact⟨h1,hK γ a w hs (Ext.refl _ _ _ _) fun t _=>rfl⟩
 | succ n ih =>
   intro listed s γ a w h hs hsk hK
   refine⟨fun h0=>?_,fun i hi=>?_⟩
   ·have h2:=h.1 h0
    rw[←h2] at hK
    exact hK γ a w hs (Ext.refl _ _ _ _) fun t _=>rfl
   ·obtain⟨o,s1,h1,h3,h4⟩:=h.2 i hi
    have hun:=(mem_ready.1 hi).1
    have hmem:o∈ops.toList:=by
     have:=Array.mem_of_getElem? h1
     simpa using this
    have Tp:(i,o)∈number 0 ops.toList:=by
     have:=IG (l:=ops.toList) (k:=0) (j:=i) (o:=o) (by simpa using h1)
     simpa using this
    have hw:∀b,Cr ops o s=some b→Region.wanted o (yielded ops a.tmps)=b:=by
     intro b hb
     unfold Cr at hb
     cases hgd:o.guard with
     | none =>
       rw[hgd] at hb
       obtain rfl:=Option.some.inj hb
       unfold Region.wanted;rw[hgd]
     | some p =>
       obtain⟨g,want⟩:=p
       rw[hgd] at hb
       dsimp only at hb
       split at hb
       ·cases hb
       ·rename_i dg hdg
        cases hg:s.2 g with
        | true =>
          rw[hg] at hb
          obtain rfl:=Option.some.inj hb
          unfold Region.wanted
          rw[hgd]
          simp only[(hsk g hg).1]
          rfl
        | false =>
          rw[hg] at hb
          simp only[cond_false] at hb
          split at hb
          ·rename_i c Dx
           change Bool at c
           obtain rfl:=Option.some.inj hb
           have ht:=F0 hs Dx
           unfold Region.wanted
           rw[hgd]
           simp only[yielded,hdg,Option.bind_some,ht]
           cases c<;>cases want<;>rfl
          ·cases hb
    unfold wpOp
    rw[h1]
    dsimp only
    unfold nu at h3
    split at h3
    ·cases h3
    ·rename_i aah
     obtain⟨σ1,q1,rfl⟩:=Option.map_eq_some_iff.1 h3
     rw[hw true aah]
     simp only[if_true]
     refine .inl (Iq hc eg lf hs (hd o hmem) (AF (VD i o h1) q1) fun jb v w1 s1 x1=>?_)
     refine ih _ (σ1,s.2) jb _ w1 h4 s1 (hsk.run hnt h1 hun) fun EW a2 w2 s2 x2 f2=>hK EW a2 w2 s2 (x1.trans x2) fun t ht=>?_
     rw[f2 t ht,fu (II ht Tp)]
    ·rename_i aah
     obtain rfl:=Option.some.inj h3
     rw[hw false aah]
     simp only[Bool.false_eq_true,if_false]
     have hs1:cX B N γ (s.1.aU o.dst .undef) (a.put o.dst Go.undef) w:=hs.ua (hd o hmem) ⟨_,rfl⟩
     have hm:(s.1.aU o.dst .undef).mem=s.1.mem:=by cases o.dst<;>rfl
     refine ih _ (s.1.aU o.dst .undef,gd i s.2) γ _ w h4 hs1 (hsk.skip hnt h1 hun) fun EW a2 w2 s2 x2 f2=>hK EW a2 w2 s2 (by rw[←hm];exact x2) fun t ht=>?_
     rw[f2 t ht,fu (II ht Tp)]
theorem M7.mono{Q Q':J8→Prop}(hq:∀s,Q s→Q' s):∀{n:Nat} {listed:Array Bool} {s:J8},M7 cx nb bf inl ops fp Q n listed s→M7 cx nb bf inl ops fp Q' n listed s:=by
 intro n
 induction n with
 | zero=>intro listed s h;exact⟨h.1,hq _ h.2⟩
 | succ n ih =>
   intro listed s h
   refine⟨fun h0=>hq _ (h.1 h0),fun i hi=>?_⟩
   obtain⟨o,s',h1,h2,h3⟩:=h.2 i hi
   exact⟨o,s',h1,h2,ih h3⟩
theorem M8(rV:P.follows .mixedOrders=true)(hc:fC P cx)(eg:oR P B.G cx)(lf:uV P B.G inl){Q:Exit→Act→World→Prop}{id:Nat}{a:Act}{w:World}(hnt:jR ops.toList=true)
  (hd:∀o∈ops.toList,∀k,o.dst=some k→k<N) (hr:(sR cx nb bf inl ops (number 0 ops.toList) [] σ (fun _=>false)).run=some σ') (h:cX B N γ σ a w)
  (hK:∀γ' a' w',cX B N γ' σ' a' w'→Ext B γ σ.mem w γ' σ'.mem w'→Fr (number 0 ops.toList) a a'→Q .normal a' w'):(Code.region id ops true).wp P Q a w:=by
 refine wp_region_any rV ?_
 obtain⟨fs,sk',f1,fm,f2⟩:=Kw (ops:=ops) ops.toList 0 [] σ (fun _=>false) (fun j o hj=>by simpa using hj) qX.nil hr
 let fp:Nat→Fp:=fun i=>(fs[i]?.map (·.1)).getD ⟨[],[],true,none⟩
 obtain⟨g1,_⟩:=f2 fp fun j f hj=>by simp[fp,hj]
 have key:∀(l:List Oper) (k:Nat) (s s':J8),YG cx nb bf inl ops fp k l s s'→∀j o,l[j]?=some o→(fp (k+j)).Hu=false→OZ cx nb o (fp (k+j)):=by
  intro l
  induction l with
  | nil=>intro k s s' _ j o hj;cases hj
  | cons o l ih =>
    intro k s s' hL j o' hj
    obtain⟨c2,c3,c4,s1,c5,c6⟩:=hL
    cases j with
    | zero=>obtain rfl:=Option.some.inj hj;exact c2.1
    | succ j=>rw[show k+(j+1)=k+1+j by omega];exact ih (k+1) s1 s' c6 j o' (by simpa using hj)
 have hA:=Wj (ops:=ops) (cx:=cx) (nb:=nb) (bf:=bf) (inl:=inl) (fp:=fp) (s':=(σ',sk')) ops.toList 0 (Array.replicate ops.size false) (σ,fun _=>false) (by simp) (by simp) (fun j hj=>by omega)
  (fun j _ hj=>by simp[hj]) (fun i o e hi=>by
   exfalso
   rcases Nat.lt_or_ge i ops.size with h'|h'<;>simp[h'] at hi) g1
 have hA':=M7.mono (Q':=fun s:J8=>s.1=σ') (fun s hs=>by rw[hs]) hA
 obtain⟨s1,x1⟩:=h.draw (w.drawn+1)
 refine Kx hc eg lf hnt (fun i o hi=>by have:=key _ 0 _ _ g1 i o (by simpa using hi);simpa using this) hd _ _ (σ,fun _=>false) γ a _ (by simpa using hA') s1 (fun k hk=>by cases hk) fun γ' a' w' s x f=>hK γ' a' w' s (x1.trans x) f
theorem O5(rV:P.follows .mixedOrders=true)(hc:fC P cx)(eg:oR P B.G cx)(lf:uV P B.G inl){Q:Exit→Act→World→Prop}{id:Nat}{a:Act}{w:World}
  (hd:∀o∈ops.toList,∀k,o.dst=some k→k<N) (hr:(wB cx nb bf inl ops σ).run=some σ') (h:cX B N γ σ a w)
  (hK:∀γ' a' w',cX B N γ' σ' a' w'→Ext B γ σ.mem w γ' σ'.mem w'→Fr (number 0 ops.toList) a a'→Q .normal a' w'):(Code.region id ops true).wp P Q a w:=by
 unfold wB at hr
 cases hg:ops.any fun o=>o.guard.isSome with
 | true =>
   rw[hg] at hr
   obtain⟨hnt,hr2⟩:=aD (show(bif jR ops.toList then sR cx nb bf inl ops (number 0 ops.toList) [] σ (fun _=>false) else .fail).run=some σ' from hr)
   exact M8 rV hc eg lf hnt hd hr2 h hK
 | false =>
   rw[hg] at hr
   exact M6 rV hc eg lf hd hr h hK
end
end Go.Ge
namespace Go.Ge
set_option linter.unusedVariables false
set_option linter.unusedSimpArgs false
open RowKit
def wK(f:Nat→bU→Bool)(mem:Nat→Option bU):Nat→Option bU:=fun b=>match mem b with|some bx=>some { bx with lk:=f b bx }|none=>none
section
variable {P:Program} {B:qz} {N:Nat} {γ RQ:Gh} {mem m0 me m1:Nat→Option bU} {w w0:World} {f:Nat→bU→Bool}
theorem LC{b:Nat}{bx:bU}(h:mem b=some bx):wK f mem b=some { bx with lk:=f b bx }:=by simp[wK,h]
theorem O6{b:Nat}{bx:bU}(h:wK f mem b=some bx):∃dh,mem b=some dh∧bx={ dh with lk:=f b dh }:=by
 simp only[wK] at h
 split at h
 ·rename_i dh h0;exact⟨dh,h0,(Option.some.inj h).symm⟩
 ·cases h
theorem Ext.wK:Ext B γ mem w γ (wK f mem) w where
 below:=tZ.refl _ _
 I:=fun _ _ h=>h
 pO:=fun _ _ h=>.inl h
 cells:=fun _ _ _=>rfl
 boxes:=fun b bx hb=>⟨_,LC hb,Nat.le_refl _,fun _=>⟨rfl,rfl,rfl⟩⟩
theorem bE.wK(h:bE B γ mem w):bE B γ (Go.Ge.wK f mem) w:=by
 have hne:∀{b},Go.Ge.wK f mem b≠none→mem b≠none:=by
  intro b hb hq
  apply hb
  simp[Go.Ge.wK,hq]
 exact
  { bg:=h.bg
    base:=h.base
    boxes:=fun b bx hb=>by
     obtain⟨dh,h0,rfl⟩:=O6 hb
     exact(h.boxes b dh h0).keep (Ext.wK (B:=B) (γ:=γ) (w:=w) (f:=f) (mem:=mem)) rfl (fun _ _ _=>rfl)
    inj:=fun b c blk k k' hb hc h1 h2=>h.inj b c blk k k' (hne hb) (hne hc) h1 h2
    fresh:=fun b blk k hb h1=>h.fresh b blk k (hne hb) h1
    sU:=h.sU
    sep:=fun b bx blk k off hb h1 hi=>by
     obtain⟨dh,h0,rfl⟩:=O6 hb
     exact h.sep b dh blk k off h0 h1 hi }
theorem cX.wK{σ:St}{a:Act}(h:cX B N γ σ a w):cX B N γ { σ with mem:=Go.Ge.wK f σ.mem } a w:=h.go Ext.wK h.ok.wK
def Mid(m0 me m1:Nat→Option bU):Prop:=∀b dh,m0 b=some dh→∃vG,m1 b=some vG∧dh.aC≤vG.aC ∧
 (vG.aC=dh.aC→∃yR,me b=some yR∧yR.aC=dh.aC∧yR.buf=vG.buf∧yR.row=vG.row)
theorem lQ.down(hm:Mid m0 me m1){b aC:Nat}{K0 K K':bU→Prop}(h0:lQ m0 b aC K0)(h:lQ me b aC K)(hK:∀yR vG:bU,yR.buf=vG.buf→yR.row=vG.row→K yR→K' vG):lQ m1 b aC K':=by
 obtain⟨dh,h1,h2,_⟩:=h0
 obtain⟨yR,k1,k2,k3⟩:=h
 obtain⟨vG,l1,l2,l3⟩:=hm b dh h1
 refine⟨vG,l1,by omega,fun e=>?_⟩
 obtain⟨adX,q1,q2,q3,q4⟩:=l3 (by omega)
 rw[k1] at q1
 obtain rfl:=Option.some.inj q1
 exact hK yR vG q3 q4 (k3 (by omega))
theorem cw.down(hm:Mid m0 me m1):∀{v:aS} {m:Mode} {us vs:List Value},cw RQ m0 w0 v m us→cw γ me w v m vs→cw γ m1 w v m vs:=by
 intro v
 induction v with
 | undef=>intro m us vs _ r;cases m<;>exact r
 | data t x=>intro m us vs _ r;cases m<;>exact r
 | nH=>intro m us vs _ r;cases m<;>exact r
 | qB=>intro m us vs _ r;cases m<;>exact r
 | cell t x=>intro m us vs _ r;cases m<;>exact r
 | nl=>intro m us vs _ r;cases m<;>exact r
 | rO=>intro m us vs _ r;cases m<;>exact r
 | uS b aC =>
   intro m us vs r0 r
   cases m with
   | many=>exact r
   | cells=>exact⟨r.1,r0.2.down hm r.2 fun _ _ _ _ k=>k⟩
   | val=>exact⟨r.1,r0.2.down hm r.2 fun _ _ _ _ k=>k⟩
 | ptr b aC p =>
   intro m us vs r0 r
   cases m with
   | many=>exact r
   | cells=>exact⟨r.1,r0.2.down hm r.2 fun _ _ _ _ k=>k⟩
   | val=>exact⟨r.1,r0.2.down hm r.2 fun _ _ _ _ k=>k⟩
 | whole b aC =>
   intro m us vs r0 r
   cases m with
   | many=>exact r
   | cells=>exact⟨r.1,r0.2.down hm r.2 fun _ _ e1 e2 k=>by rw[←e1,←e2];exact k⟩
   | val=>exact⟨r.1,r0.2.down hm r.2 fun _ _ e1 e2 k=>by rw[←e1,←e2];exact k⟩
 | part b aC lo n =>
   intro m us vs r0 r
   cases m with
   | many=>exact r
   | cells=>exact⟨r.1,r0.2.down hm r.2 fun _ _ e1 e2 k=>by unfold C6 at k⊢;rw[←e1,←e2];exact k⟩
   | val=>exact⟨r.1,r0.2.down hm r.2 fun _ _ e1 e2 k=>by unfold C6 at k⊢;rw[←e1,←e2];exact k⟩
 | win b aC q e k lo n =>
   intro m us vs r0 r
   cases m with
   | many=>exact r
   | cells=>exact⟨r.1,r0.2.down hm r.2 fun _ _ e1 e2 k=>k⟩
   | val=>exact⟨r.1,r0.2.down hm r.2 fun _ _ e1 e2 k=>k⟩
 | fn f caps =>
   intro m us vs r0 r
   cases m with
   | many=>exact r
   | cells=>obtain⟨_,_,_,s⟩:=r0;obtain⟨arr,r1,r2,r3⟩:=r;exact⟨arr,r1,r2,fun i b aC hc=>(s i b aC hc).down hm (r3 i b aC hc) fun _ _ _ _ k=>k⟩
   | val=>obtain⟨_,_,_,s⟩:=r0;obtain⟨arr,r1,r2,r3⟩:=r;exact⟨arr,r1,r2,fun i b aC hc=>(s i b aC hc).down hm (r3 i b aC hc) fun _ _ _ _ k=>k⟩
 | mix a b jE nr =>
   intro m us vs r0 r
   cases m with
   | cells=>obtain⟨_,_,_,s1,s2⟩:=r0;obtain⟨c1,c2,r0,r1,r2⟩:=r;exact⟨c1,c2,r0,jE s1 r1,nr s2 r2⟩
   | val=>obtain⟨_,_,_,s1,s2⟩:=r0;obtain⟨c1,c2,r0,r1,r2⟩:=r;exact⟨c1,c2,r0,jE s1 r1,nr s2 r2⟩
   | many=>obtain⟨_,_,_,s1,s2⟩:=r0;obtain⟨c1,c2,r0,r1,r2⟩:=r;exact⟨c1,c2,r0,jE s1 r1,nr s2 r2⟩
 | Ca u ih =>
   intro m us vs r0 r
   cases m with
   | val=>obtain⟨_,_,s⟩:=r0;obtain⟨arr,r1,r2⟩:=r;exact⟨arr,r1,ih s r2⟩
   | cells=>exact r
   | many=>exact r
def Wk(M V:Nat→Bool)(m0 me m1:Nat→Option bU):Prop:=∀b dh,m0 b=some dh→∃yR vG,me b=some yR∧m1 b=some vG∧yR.buf=dh.buf∧vG.buf=dh.buf∧vG.row=yR.row ∧
 vG.aC=(bif M b&&(dh.buf||V b) then dh.aC+1 else dh.aC)∧((M b&&(dh.buf||V b))=false→yR.aC=dh.aC)
theorem Wk.mid{M V:Nat→Bool}(h:Wk M V m0 me m1):Mid m0 me m1:=fun b dh hb=>by
 obtain⟨yR,vG,h1,h2,h3,h4,h5,h6,h7⟩:=h b dh hb
 cases hc:(M b&&(dh.buf||V b)) with
 | true =>
   rw[hc] at h6
   simp only[cond_true] at h6
   exact⟨vG,h2,by omega,fun e=>absurd e (by omega)⟩
 | false =>
   rw[hc] at h6
   simp only[cond_false] at h6
   exact⟨vG,h2,by omega,fun e=>⟨yR,h1,h7 hc,h3.trans h4.symm,h5.symm⟩⟩
def IM:Sh→aS→Prop
 | .d _,_=>True
 | .k v,u=>v=u
 | .m a b,u=>∃p q,u=.mix p q∧IM a p∧IM b q
theorem YH(v:aS):IM (Yh v) v:=by
 induction v with
 | mix a b jE nr=>exact⟨a,b,rfl,jE,nr⟩
 | data t x=>trivial
 | _=>rfl
theorem Wl{t:Ty}{v:aS}{y:t.den}(h:T0 t v=some y){m:Mode}{vs:List Value}(hv:cw γ me w v m vs):cw γ m1 w (.data t y) m vs:=by
 unfold T0 at h
 split at h
 ·obtain⟨q,hq⟩:=Ty.jP h
  subst q;subst hq
  cases m<;>exact hv
 ·split at h
  ·obtain rfl:=Option.some.inj h
   cases m with
   | many=>exact hv
   | cells=>exact .inl ⟨⟨none,hv⟩,rfl⟩
   | val=>exact⟨[.slice none 0 0],.inl ⟨⟨none,rfl⟩,rfl⟩,(show vs=[Value.slice none 0 0] from hv)⟩
  ·cases h
 ·cases h
theorem O7{M V:Nat→Bool}{ji oV:St}(hc:Wk M V ji.mem oV.mem m1)(hV:∀b x,V b=true→ji.mem b=some x→x.buf=false){u v:aS}(hs:xE V ji oV u v=true){m:Mode}{us vs:List Value}(h0:cw RQ ji.mem w0 u m us)(he:cw γ oV.mem w v m vs) :
  cw γ m1 w (bump M V u) m vs:=by
 unfold xE at hs
 split at hs
 ·rename_i b aC p b' T9 p'
  simp only[Bool.and_eq_true] at hs
  obtain⟨⟨h1,h3⟩,h2⟩:=hs
  obtain rfl:=Nat.eq_of_beq_eq_true h1
  obtain rfl:=Q0 h3
  have still:aC=T9→(M b&&V b)=false→cw γ m1 w (bump M V (.ptr b aC p)) m vs:=by
   intro e q
   subst e
   have e:bump M V (.ptr b aC p)=.ptr b aC p:=by simp only[bump,q];rfl
   rw[e]
   exact cw.down hc.mid h0 he
  cases hVb:V b with
  | false =>
    rw[hVb] at h2
    exact still (Nat.eq_of_beq_eq_true h2) (by simp[hVb])
  | true =>
    rw[hVb] at h2
    simp only[cond_true] at h2
    split at h2
    ·rename_i x y hx hy
     simp only[Bool.and_eq_true] at h2
     have h4:=Nat.eq_of_beq_eq_true h2.1
     have h5:=Nat.eq_of_beq_eq_true h2.2
     obtain⟨yR,vG,g1,g2,g3,g4,g5,g6,g7⟩:=hc b x hx
     rw[hy] at g1
     obtain rfl:=Option.some.inj g1
     cases hM:M b with
     | false=>exact still (by have:=g7 (by simp[hM]);omega) (by simp[hM])
     | true =>
       have e:bump M V (.ptr b aC p)=.ptr b (aC+1) p:=by simp only[bump,hM,hVb];rfl
       have hv1:vG.aC=aC+1:=by rw[g6,hM,hVb];simp;omega
       rw[e]
       cases m with
       | many=>exact he
       | cells=>exact⟨he.1,vG,g2,by omega,fun _=>bq hy h5 he.2⟩
       | val=>exact⟨he.1,vG,g2,by omega,fun _=>bq hy h5 he.2⟩
    ·cases h2
 ·rename_i b aC b' T9
  simp only[Bool.and_eq_true] at hs
  obtain⟨h1,h2⟩:=hs
  obtain rfl:=Nat.eq_of_beq_eq_true h1
  split at h2
  ·rename_i x y hx hy
   simp only[Bool.and_eq_true] at h2
   obtain⟨⟨h3,h4⟩,h5⟩:=h2
   have h3:=Nat.eq_of_beq_eq_true h3
   have h4:=Nat.eq_of_beq_eq_true h4
   obtain⟨yR,vG,g1,g2,g3,g4,g5,g6,g7⟩:=hc b x hx
   rw[hy] at g1
   obtain rfl:=Option.some.inj g1
   have hxb:x.buf=true:=by rw[←g3];exact h5
   have key:∀v1,vG.aC=v1→((∃v,vs=[v]∧v.oneCell'=true)∧lQ oV.mem b T9 fun bx=>∃e n,bx.buf=true∧bx.row=some (e,n) ∧
     ((γ.loc b=none∧vs=[.slice none 0 0])∨∃blk cap,γ.loc b=some (blk,cap)∧vs=[.slice (some ⟨blk,0,none⟩) n cap])) →
     ((∃v,vs=[v]∧v.oneCell'=true)∧lQ m1 b v1 fun bx=>∃e n,bx.buf=true∧bx.row=some (e,n) ∧
     ((γ.loc b=none∧vs=[.slice none 0 0])∨∃blk cap,γ.loc b=some (blk,cap)∧vs=[.slice (some ⟨blk,0,none⟩) n cap])):=by
    intro v1 hv1 hr
    have hk:=bq hy h4 hr.2
    exact⟨hr.1,vG,g2,by omega,fun _=>by obtain⟨e,n,q1,q2,q3⟩:=hk;exact⟨e,n,g4.trans hxb,g5.trans q2,q3⟩⟩
   have hv1:∃v1,bump M V (.whole b aC)=.whole b v1∧vG.aC=v1:=by
    unfold bump
    cases hM:M b with
    | true=>exact⟨aC+1,by simp[hM],by rw[g6,hM,hxb,←h3];rfl⟩
    | false=>exact⟨aC,by simp[hM],by rw[g6,hM,←h3];rfl⟩
   obtain⟨v1,e1,e2⟩:=hv1
   rw[e1]
   cases m with
   | many=>exact he
   | cells=>exact key v1 e2 he
   | val=>exact key v1 e2 he
  ·cases h2
 ·rename_i f caps f' ae7
  simp only[Bool.and_eq_true] at hs
  obtain rfl:=Nat.eq_of_beq_eq_true hs.1
  obtain rfl:=Q1 hs.2
  exact cw.down hc.mid h0 he
 ·cases m<;>exact he
 ·cases m<;>exact he
 ·simp only[Bool.and_eq_true] at hs
  obtain rfl:=Nat.eq_of_beq_eq_true hs.1
  obtain rfl:=Nat.eq_of_beq_eq_true hs.2
  exact cw.down hc.mid h0 he
 ·cases hs
theorem Wm{V:Nat→Bool}{ji σ:St}{u v:aS}:Sh.out V ji σ (.k u) v=bif xE V ji σ u v then some () else none:=rfl
theorem ab1{V:Nat→Bool}{ji σ:St}{a b:Sh}{v w:aS}:Sh.out V ji σ (.m a b) (.mix v w)=(match Sh.out V ji σ a v,Sh.out V ji σ b w with
 | some x,some y=>some ((x,y):(Sh.m a b).ty.den)
 | _,_=>none):=rfl
theorem Tq{M V:Nat→Bool}{ji oV:St}(hc:Wk M V ji.mem oV.mem m1)(hV:∀b x,V b=true→ji.mem b=some x→x.buf=false):∀{s:Sh} {u v:aS} {y:s.ty.den} {m:Mode} {us vs:List Value},IM s u→Sh.out V ji oV s v=some y →
  cw RQ ji.mem w0 u m us→cw γ oV.mem w v m vs→cw γ m1 w (s.sC M V y) m vs:=by
 intro s
 induction s with
 | d t=>intro u v y m us vs _ ho _ he;exact Wl ho he
 | k x =>
   intro u v y m us vs hk ho h0 he
   obtain rfl:=hk
   rw[Wm] at ho
   cases hs:xE V ji oV x v with
   | false=>rw[hs] at ho;cases ho
   | true=>exact O7 hc hV hs h0 he
 | m a b jE nr =>
   intro u v y m us vs hk ho h0 he
   obtain⟨p,q,rfl,k1,k2⟩:=hk
   cases v with
   | mix v1 v2 =>
     rw[ab1] at ho
     split at ho
     ·rename_i y1 y2 o1 o2
      obtain rfl:=Option.some.inj ho
      cases m with
      | cells=>obtain⟨_,_,_,s1,s2⟩:=h0;obtain⟨c1,c2,r0,r1,r2⟩:=he;exact⟨c1,c2,r0,jE k1 o1 s1 r1,nr k2 o2 s2 r2⟩
      | val=>obtain⟨_,_,_,s1,s2⟩:=h0;obtain⟨c1,c2,r0,r1,r2⟩:=he;exact⟨c1,c2,r0,jE k1 o1 s1 r1,nr k2 o2 s2 r2⟩
      | many=>obtain⟨_,_,_,s1,s2⟩:=h0;obtain⟨c1,c2,r0,r1,r2⟩:=he;exact⟨c1,c2,r0,jE k1 o1 s1 r1,nr k2 o2 s2 r2⟩
     ·cases ho
   | _=>cases ho
theorem Up{t:Ty}{v:aS}{y:t.den}(h:T0 t v=some y):(v=.data t y)∨(v=.nH∧∃e,t=.slice e):=by
 unfold T0 at h
 split at h
 ·obtain⟨q,hq⟩:=Ty.jP h
  subst q;subst hq
  exact .inl rfl
 ·split at h
  ·exact .inr ⟨rfl,_,rfl⟩
  ·cases h
 ·cases h
theorem Tr{M V:Nat→Bool}{ji oV:St}{s:Sh}{yR vG:bU}{y:s.ty.den}(ho:Sh.out V ji oV s yR.val=some y)(hv:vG.val=s.sC M V y)(hb:vG.buf=yR.buf)(bK:yR.buf=true→∃e l,yR.val=.data (.slice e) l) :
  vG.row=yR.row∧(yR.buf=true→vG.val=yR.val):=by
 have ab2:∀t x,yR.val=.data t x→vG.val=yR.val:=by
  intro t x hx
  rw[hx] at ho
  cases s with
  | d u =>
    obtain⟨q,hq⟩:=Ty.jP (show Ty.to t u x=some y from ho)
    subst q;subst hq
    rw[hv,hx];rfl
  | k z=>rw[Wm] at ho;unfold xE at ho;cases z<;>cases ho
  | m a b=>cases ho
 have hrow:∀{b1 b2:bU},b1.buf=b2.buf→b1.val=b2.val→b1.row=b2.row:=by
  intro b1 b2 h1 h2;unfold bU.row;rw[h1,h2]
 cases hx:yR.val with
 | data t x =>
   have:=ab2 t x hx
   exact⟨hrow hb this,fun _=>by rw[this,hx]⟩
 | _ =>
   refine⟨?_,fun h=>by obtain⟨e,l,q⟩:=bK h;rw[hx] at q;cases q⟩
   cases hq:yR.buf with
   | true=>obtain⟨e,l,q⟩:=bK hq;rw[hx] at q;cases q
   | false =>
     have e1:yR.row=none:=by unfold bU.row;rw[hq,hx]
     rw[e1]
     unfold bU.row
     rw[hb,hq,hv]
     rw[hx] at ho
     cases s with
     | d u =>
       rcases Up (show T0 u _=some y from ho) with q|⟨q,e,rfl⟩
       ·first|cases q|exact absurd hx (by rw[q];intro k;cases k)
       ·rfl
     | k z =>
       rw[Wm] at ho
       simp only[Sh.sC]
       have hnd:∀t x,bump M V z≠.data t x:=by
        intro t x q
        cases z with
        | data t' x'=>unfold xE at ho;cases ho
        | whole b v=>simp only[bump] at q;cases hM:M b<;>rw[hM] at q<;>cases q
        | ptr b v p=>simp only[bump] at q;cases hM:(M b&&V b)<;>rw[hM] at q<;>cases q
        | _=>cases q
       split<;>first|rfl|(rename_i hh;exact absurd hh (hnd _ _))
     | m a b=>rfl
end
end Go.Ge
namespace Go.Ge
set_option linter.unusedVariables false
set_option linter.unusedSimpArgs false
open RowKit
section
variable {P:Program} {B:qz} {N:Nat} {γ RQ:Gh} {w w0:World} {ji oV:St} {a a0:Act} {M V:Nat→Bool}
theorem Wn:∀{l:List (Nat×Sh)} {x:(tyS l).den},Yi V ji oV l=some x→∀t,(Mv M V l x t=none∧∀s,(t,s)∉l)∨∃s y,(t,s)∈l∧Sh.out V ji oV s (oV.slots t)=some y∧Mv M V l x t=some (s.sC M V y):=by
 intro l
 induction l with
 | nil=>intro x _ t;exact .inl ⟨rfl,fun s h=>by cases h⟩
 | cons p r ih =>
   obtain⟨i,s⟩:=p
   intro x h t
   simp only[Yi] at h
   split at h
   ·rename_i y z h1 h2
    obtain rfl:=Option.some.inj h
    by_cases e:t=i
    ·subst e
     refine .inr ⟨s,y,List.mem_cons_self ..,h1,?_⟩
     show(bif Nat.beq t t then some (s.sC M V y) else Mv M V r z t)=_
     simp
    ·have hb:Nat.beq t i=false:=gK e
     have hq:Mv M V ((i,s)::r) ((y,z):(tyS ((i,s)::r)).den) t=Mv M V r z t:=by
      show(bif Nat.beq t i then some (s.sC M V y) else Mv M V r z t)=_
      rw[hb];rfl
     rw[hq]
     rcases ih h2 t with ⟨k1,k2⟩|⟨s',y',k1,k2,k3⟩
     ·refine .inl ⟨k1,fun s' hm=>?_⟩
      rcases List.mem_cons.1 hm with hm|hm
      ·exact e (Prod.mk.inj hm).1
      ·exact k2 s' hm
     ·exact .inr ⟨s',y',List.mem_cons_of_mem _ k1,k2,k3⟩
   ·cases h
theorem Ct{fz mv:Bool}{bx b:bU}(h:FM fz mv bx b=true):(bx.ro=true→(b.ro||fz)=true)∧bx.buf=b.buf∧((b.buf||mv)=false→bx.aC=b.aC):=by
 simp only[FM,Bool.and_eq_true,Bool.or_eq_true,beq_iff_eq] at h
 obtain⟨⟨⟨h1,h2⟩,h3⟩,h4⟩:=h
 refine⟨fun hr=>by rcases h1 with h1|h1<;>simp[h1,←hr],h3,fun hb=>?_⟩
 obtain⟨hb,hm⟩:=Bool.or_eq_false_iff.1 hb
 rcases h4 with (h4|h4)|h4
 ·rw[h3,hb] at h4;cases h4
 ·rw[hm] at h4;cases h4
 ·exact Nat.eq_of_beq_eq_true h4
theorem Uq{fz mv:Bool}{bx b:bU}(h:FM fz mv bx b=true):bx.tid=b.tid:=by
 simp only[FM,Bool.and_eq_true] at h
 exact Nat.eq_of_beq_eq_true h.1.1.2
theorem O8{fz:Bool}:∀{l:List (Nat×Sh×bU)} {x:(ZX l).den},Yj V fz ji oV l=some x→∀t,(HS fz M V l x t=none∧wC l t=false) ∨
  ∃s b y bx,wC l t=true∧(t,s,b)∈l∧oV.mem t=some bx∧FM fz (V t) bx b=true∧Sh.out V ji oV s bx.val=some y∧HS fz M V l x t=some { b with val:=s.sC M V y,ro:=b.ro||fz,aC:=bif b.buf||V t then b.aC+1 else b.aC }:=by
 intro l
 induction l with
 | nil=>intro x _ t;exact .inl ⟨rfl,rfl⟩
 | cons p r ih =>
   obtain⟨i,s,b⟩:=p
   intro x h t
   simp only[Yj] at h
   split at h
   ·rename_i bx rS
    cases hok:FM fz (V i) bx b with
    | false=>rw[hok] at h;cases h
    | true =>
      rw[hok] at h
      simp only[cond_true] at h
      split at h
      ·rename_i y z h1 h2
       obtain rfl:=Option.some.inj h
       by_cases e:t=i
       ·subst e
        refine .inr ⟨s,b,y,bx,by simp[wC],List.mem_cons_self ..,rS,hok,h1,?_⟩
        show(bif Nat.beq t t then some { b with val:=s.sC M V y,ro:=b.ro||fz,aC:=bif b.buf||V t then b.aC+1 else b.aC } else HS fz M V r z t)=_
        simp
       ·have hb:Nat.beq t i=false:=gK e
        have hq:HS fz M V ((i,s,b)::r) ((y,z):(ZX ((i,s,b)::r)).den) t=HS fz M V r z t:=by
         show(bif Nat.beq t i then some { b with val:=s.sC M V y,ro:=b.ro||fz,aC:=bif b.buf||V t then b.aC+1 else b.aC } else HS fz M V r z t)=_
         rw[hb];rfl
        have Z7:wC ((i,s,b)::r) t=wC r t:=by simp only[wC,hb,Bool.false_or]
        rw[hq,Z7]
        rcases ih h2 t with k|⟨s',b',y',gu,k0,k1,k2⟩
        ·exact .inl k
        ·exact .inr ⟨s',b',y',gu,k0,List.mem_cons_of_mem _ k1,k2⟩
      ·cases h
   ·cases h
structure DC (k:Carry) (ji:St):Prop where
 S:∀t s,(t,s)∈k.S→IM s (ji.slots t)
 M:∀b s bx,(b,s,bx)∈k.M→ji.mem b=some bx∧IM s bx.val∧bx.lk=false
 V:∀b x,k.V b=true→ji.mem b=some x→x.buf=false
theorem aai{cx:Ctx}{σ:St}:∀{p:List (Nat×Nat)} {l:List (Nat×Sh)},mkS cx σ p=some l→∀t s,(t,s)∈l→IM s (σ.slots t):=by
 intro p
 induction p with
 | nil=>intro l h t s hm;obtain rfl:=Option.some.inj h;cases hm
 | cons q r ih =>
   obtain⟨i,ty⟩:=q
   intro l h t s hm
   simp only[mkS] at h
   split at h
   ·cases h
   ·rename_i l' hl'
    have fin:∀s0,IM s0 (σ.slots i)→some ((i,s0)::l')=some l→IM s (σ.slots t):=by
     intro s0 h0 e
     obtain rfl:=Option.some.inj e
     rcases List.mem_cons.1 hm with hm|hm
     ·obtain⟨rfl,rfl⟩:=Prod.mk.inj hm;exact h0
     ·exact ih hl' t s hm
    cases hty:Nat.beq ty 999999 with
    | true =>
      rw[hty] at h
      simp only[cond_true] at h
      split at h
      ·rename_i b v hv;exact fin (.k _) hv.symm h
      ·obtain rfl:=Option.some.inj h;exact ih hl' t s hm
    | false =>
    rw[hty] at h
    simp only[cond_false] at h
    split at h
    ·exact fin (.d _) trivial h
    ·split at h
     ·exact fin (.d _) trivial h
     ·cases h
    ·split at h
     ·exact fin (.d _) trivial h
     ·cases h
    ·exact fin (.k _) rfl h
theorem aaj{σ:St}:∀{p:List Nat} {l:List (Nat×Sh×bU)},mkM σ p=some l→∀b s bx,(b,s,bx)∈l→σ.mem b=some bx∧IM s bx.val∧bx.lk=false:=by
 intro p
 induction p with
 | nil=>intro l h b s bx hm;obtain rfl:=Option.some.inj h;cases hm
 | cons i r ih =>
   intro l h b s bx hm
   simp only[mkM] at h
   split at h
   ·rename_i dh l' hb hl'
    cases hlk:dh.lk with
    | true=>rw[hlk] at h;cases h
    | false =>
      rw[hlk] at h
      obtain rfl:=Option.some.inj h
      rcases List.mem_cons.1 hm with hm|hm
      ·injection hm with e1 hm
       injection hm with e2 e3
       subst e1;subst e2;subst e3
       exact⟨hb,YH _,hlk⟩
      ·exact ih hl' b s bx hm
   ·cases h
theorem xK{cx:Ctx}{nb:Nat}{bf:List Nat}{σ:St}{p:Q2}{k:Carry}(h:Hz cx nb bf σ p=some k):DC k σ:=by
 unfold Hz at h
 split at h
 ·rename_i s m hs hm
  obtain rfl:=Option.some.inj h
  refine⟨aai hs,aaj hm,fun b x hb hx=>?_⟩
  simp only[abz,hx,Bool.and_eq_true,Bool.not_eq_true'] at hb
  exact hb.2.1
 ·cases h
theorem YI{l:List (Nat×Sh×bU)}{b:Nat}(h:wC l b=true):∃s bx,(b,s,bx)∈l:=by
 induction l with
 | nil=>cases h
 | cons p r ih =>
   obtain⟨i,s,bx⟩:=p
   simp only[wC,Bool.or_eq_true] at h
   rcases h with h|h
   ·obtain rfl:=Nat.eq_of_beq_eq_true h;exact⟨s,bx,List.mem_cons_self ..⟩
   ·obtain⟨s',gu,hm⟩:=ih h;exact⟨s',gu,List.mem_cons_of_mem _ hm⟩
theorem uY{k:Carry}{fz lock:Bool}{wr:List Nat}{x:k.ty.den}(hk:DC k ji)(h0:cX B N RQ ji a0 w0)(he:cX B N γ oV a w)(hx:Ext B RQ ji.mem w0 γ oV.mem w)
  (hf:∀t,dJ wr t=false→a.tmps[t]?=a0.tmps[t]?) (hkeep:∀b bx,ji.mem b=some bx→wC k.M b=false→∃bl,oV.mem b=some { bx with lk:=bl }) (ho:k.out fz ji oV=some x) :
  cX B N γ (k.sC fz lock wr ji x) a w∧Ext B RQ ji.mem w0 γ (k.sC fz lock wr ji x).mem w:=by
 unfold Carry.out at ho
 split at ho
 case h_2=>cases ho
 rename_i xs xm hxs hxm
 obtain rfl:=Option.some.inj ho
 generalize ab4:k.sC fz lock wr ji (xs,xm)=σ1
 have Dx:∀t,σ1.slots t=match Mv (wC k.M) k.V k.S xs t with|some v=>v|none=>bif dJ wr t then .undef else ji.slots t:=fun t=>by rw[←ab4];rfl
 have hmem:∀b,σ1.mem b=match HS fz (wC k.M) k.V k.M xm b with|some bx=>some bx|none=>match ji.mem b with|some bx=>some { bx with lk:=bx.lk||lock }|none=>none:=fun b=>by rw[←ab4];rfl
 have YJ:∀b,wC k.M b=false→σ1.mem b=match ji.mem b with|some bx=>some { bx with lk:=bx.lk||lock }|none=>none:=by
  intro b hb
  rw[hmem b]
  rcases O8 (M:=wC k.M) hxm b with ⟨q,_⟩|⟨s,b',y,bx,q,_⟩
  ·rw[q]
  ·rw[hb] at q;cases q
 have here:∀b,wC k.M b=true→∃s b0 y bx,ji.mem b=some b0∧IM s b0.val∧oV.mem b=some bx∧FM fz (k.V b) bx b0=true∧Sh.out k.V ji oV s bx.val=some y ∧
   σ1.mem b=some { b0 with val:=s.sC (wC k.M) k.V y,ro:=b0.ro||fz,aC:=bif b0.buf||k.V b then b0.aC+1 else b0.aC }:=by
  intro b hb
  rcases O8 (M:=wC k.M) hxm b with ⟨_,q⟩|⟨s,b0,y,bx,q,q1,q2,q3,q4,q5⟩
  ·rw[hb] at q;cases q
  ·obtain⟨k1,k2,_⟩:=hk.M b s b0 q1
   exact⟨s,b0,y,bx,k1,k2,q2,q3,q4,by rw[hmem b,q5]⟩
 have Wo:∀b bx,oV.mem b=some bx→bx.buf=true→∃e l,bx.val=.data (.slice e) l:=by
  intro b bx hb bK
  have:=he.ok.boxes b bx hb
  rw[cP,bK] at this
  obtain⟨e,l,q,_⟩:=this
  exact⟨e,l,q⟩
 have hC:Wk (wC k.M) k.V ji.mem oV.mem σ1.mem:=by
  intro b dh hb
  cases hin:wC k.M b with
  | false =>
    obtain⟨bl,X9⟩:=hkeep b dh hb hin
    have h1:=YJ b hin
    rw[hb] at h1
    exact⟨_,_,X9,h1,rfl,rfl,rfl,by simp,fun _=>rfl⟩
  | true =>
    obtain⟨s,b0,y,bx,g1,g2,g3,g4,g5,g6⟩:=here b hin
    rw[hb] at g1
    obtain rfl:=Option.some.inj g1
    obtain⟨o1,o2,o3⟩:=Ct g4
    obtain⟨r1,r2⟩:=Tr (M:=wC k.M) (V:=k.V) (vG:={ dh with val:=s.sC (wC k.M) k.V y,ro:=dh.ro||fz,aC:=bif dh.buf||k.V b then dh.aC+1 else dh.aC }) g5 rfl o2.symm (Wo b bx g3)
    refine⟨bx,_,g3,g6,o2,rfl,r1,by simp,fun hq=>o3 ?_⟩
    simpa using hq
 have hE:Ext B RQ ji.mem w0 γ σ1.mem w :=
  { below:=hx.below
    I:=hx.I
    pO:=hx.pO
    cells:=hx.cells
    boxes:=fun b dh hb=>by
     obtain⟨yR,vG,c1,c2,c3,c4,c5,c6,c7⟩:=hC b dh hb
     obtain⟨adX,e1,e2,e3⟩:=hx.boxes b dh hb
     rw[c1] at e1
     obtain rfl:=Option.some.inj e1
     cases hq:(wC k.M b&&(dh.buf||k.V b)) with
     | true =>
       rw[hq] at c6
       simp only[cond_true] at c6
       exact⟨vG,c2,by omega,fun e=>absurd e (by omega)⟩
     | false =>
       rw[hq] at c6
       simp only[cond_false] at c6
       obtain⟨r1,r2,r3⟩:=e3 (c7 hq)
       exact⟨vG,c2,by omega,fun _=>⟨r1,c4,c5.trans r3⟩⟩ }
 refine⟨⟨fun t=>?_,he.size,he.defers,?_⟩,hE⟩
 ·rw[Dx t]
  rcases Wn (M:=wC k.M) hxs t with ⟨q,_⟩|⟨s,y,q1,q2,q3⟩
  ·rw[q]
   simp only
   cases hw:dJ wr t with
   | true=>exact⟨_,rfl⟩
   | false =>
     have:a.tmps.getD t undef=a0.tmps.getD t undef:=by simp only[Array.getD_eq_getD_getElem?,hf t hw]
     rw[this]
     exact(h0.slots t).ext hE
  ·rw[q3]
   exact Tq hC hk.V (hk.S t s q1) q2 (h0.slots t) (he.slots t)
 ·have hne:∀b,σ1.mem b≠none→∃dh,ji.mem b=some dh:=by
   intro b hb
   cases hin:wC k.M b with
   | true=>obtain⟨s,b0,y,bx,g1,_⟩:=here b hin;exact⟨b0,g1⟩
   | false =>
     rw[YJ b hin] at hb
     cases hq:ji.mem b with
     | none=>rw[hq] at hb;exact absurd rfl hb
     | some dh=>exact⟨dh,rfl⟩
  have aak:∀b,σ1.mem b≠none→oV.mem b≠none:=by
   intro b hb
   obtain⟨dh,h1⟩:=hne b hb
   obtain⟨yR,vG,c1,_⟩:=hC b dh h1
   rw[c1];simp
  exact
   { bg:=he.ok.bg
     base:=he.ok.base
     boxes:=fun b vG hb=>by
      cases hin:wC k.M b with
      | true =>
        obtain⟨s,b0,y,bx,g1,g2,g3,g4,g5,g6⟩:=here b hin
        rw[hb] at g6
        obtain rfl:=Option.some.inj g6
        obtain⟨o1,o2,o3⟩:=Ct g4
        have o4:=Uq g4
        obtain⟨r1,r2⟩:=Tr (M:=wC k.M) (V:=k.V) (vG:={ b0 with val:=s.sC (wC k.M) k.V y,ro:=b0.ro||fz,aC:=bif b0.buf||k.V b then b0.aC+1 else b0.aC }) g5 rfl o2.symm (Wo b bx g3)
        have jj:=he.ok.boxes b bx g3
        have RR:=h0.ok.boxes b b0 g1
        unfold cP at jj RR⊢
        dsimp only at r2⊢
        rcases Bool.eq_false_or_eq_true bx.buf with hb1|hb1
        ·rw[hb1] at jj
         rw[←o2,hb1,r2 hb1,←o4]
         exact jj
        ·rw[hb1] at jj
         rw[←o2,hb1]
         rw[←o2,hb1] at RR
         obtain⟨_,_,_,_,_,_,_,_,_,z⟩:=RR
         obtain⟨blk,cap,cur,tid,fr,z1,z2,z3,iq,z4⟩:=jj
         exact⟨blk,cap,cur,tid,fr,z1,z2,z3,o4▸iq,Tq hC hk.V g2 g5 z z4⟩
      | false =>
        have h1:=YJ b hin
        rw[hb] at h1
        cases hq:ji.mem b with
        | none=>rw[hq] at h1;cases h1
        | some dh =>
          rw[hq] at h1
          obtain rfl:=Option.some.inj h1
          obtain⟨bl,X9⟩:=hkeep b dh hq hin
          have jj:=he.ok.boxes b _ X9
          have RR:=h0.ok.boxes b dh hq
          unfold cP at jj RR⊢
          dsimp only at jj⊢
          rcases Bool.eq_false_or_eq_true dh.buf with hb1|hb1
          ·rw[hb1] at jj⊢
           exact jj
          ·rw[hb1] at jj RR⊢
           obtain⟨_,_,_,_,_,_,_,_,_,z⟩:=RR
           obtain⟨blk,cap,cur,tid,fr,z1,z2,z3,iq,z4⟩:=jj
           exact⟨blk,cap,cur,tid,fr,z1,z2,z3,iq,cw.down hC.mid z z4⟩
     inj:=fun b c blk k1 k2 hb hc h1 h2=>he.ok.inj b c blk k1 k2 (aak b hb) (aak c hc) h1 h2
     fresh:=fun b blk k1 hb h1=>he.ok.fresh b blk k1 (aak b hb) h1
     sU:=he.ok.sU
     sep:=fun b vG blk k1 off hb h1 hi=>by
      obtain⟨dh,q0⟩:=hne b (by rw[hb];simp)
      obtain⟨yR,afX,c1,c2,c3,c4,c5,c6,c7⟩:=hC b dh q0
      rw[hb] at c2
      obtain rfl:=Option.some.inj c2
      obtain⟨s1,s2⟩:=he.ok.sep b yR blk k1 off c1 h1 hi
      have hro:yR.ro=true→vG.ro=true:=by
       cases hin:wC k.M b with
       | true =>
         obtain⟨s,b0,y,bx,g1,g2,g3,g4,g5,g6⟩:=here b hin
         rw[c1] at g3
         obtain rfl:=Option.some.inj g3
         rw[hb] at g6
         obtain rfl:=Option.some.inj g6
         exact(Ct g4).1
       | false =>
         have h1:=YJ b hin
         rw[hb,q0] at h1
         obtain rfl:=Option.some.inj h1
         obtain⟨bl,X9⟩:=hkeep b dh q0 hin
         rw[c1] at X9
         obtain rfl:=Option.some.inj X9
         exact fun h=>h
      exact⟨hro s1,fun bK e n hr=>s2 (by rw[c3,←c4];exact bK) e n (by rw[←c5];exact hr)⟩ }
end
end Go.Ge
namespace Go.Ge
set_option linter.unusedSectionVars false
variable [Lp]
set_option linter.unusedVariables false
set_option linter.unusedSimpArgs false
open RowKit
theorem DD{p:Nat→Prop}(h:∃n,p n):∃n,p n∧∀m,p m→n≤m:=by
 obtain⟨n,hn⟩:=h
 induction n using Nat.strongRecOn with
 | _ n ih =>
   by_cases h:∃m,m<n∧p m
   ·obtain⟨m,h1,h2⟩:=h;exact ih m h1 h2
   ·exact⟨n,hn,fun m hm=>Nat.le_of_not_lt fun hlt=>h ⟨m,hlt,hm⟩⟩
open Classical in
noncomputable def least(p:Nat→Prop):Nat:=if h:∃n,p n then Classical.choose (DD h) else 0
theorem IP{p:Nat→Prop}(h:∃n,p n):p (least p)∧∀m,p m→least p≤m:=by
 unfold least
 rw[dif_pos h]
 exact Classical.choose_spec (DD h)
theorem LD{P:Program}{c:Code}{Q:Exit→Act→World→Prop}{a:Act}{w:World}(I:Nat→Act→World→Prop){n:Nat}(h0:I n a w)
  (round:∀n a w,I n a w→c.wp P (Exit.then (fun a' w'=>∃m,m<n∧I m a' w') Q) a w):(Code.loop c).wp P Q a w:=by
 refine wp_loop (fun a w=>∃n,I n a w) (fun a w=>least fun n=>I n a w) ⟨n,h0⟩ fun a w h=>?_
 obtain⟨h1,h2⟩:=IP h
 refine wp_mono (round _ a w h1) fun e a' w' hq=>?_
 cases e with
 | normal =>
   obtain⟨m,m1,m2⟩:=hq
   exact⟨⟨m,m2⟩,Nat.lt_of_le_of_lt ((IP ⟨m,m2⟩).2 m m2) m1⟩
 | _=>exact hq
def IQ:Nat→Exit
 | 0=>.normal
 | 1=>.ret
 | i+2=>.exit i
theorem F3{l m:List Nat}{t:Nat}:dJ (l++m) t=(dJ l t||dJ m t):=by
 induction l with
 | nil=>rfl
 | cons i r ih=>simp only[List.cons_append,dJ,ih,Bool.or_assoc]
def E6(ws:List Nat)(a a':Act):Prop:=∀t,dJ ws t=false→a'.tmps[t]?=a.tmps[t]?
theorem E6.refl(ws:List Nat)(a:Act):E6 ws a a:=fun _ _=>rfl
theorem E6.trans{ws:List Nat}{a b c:Act}(h:E6 ws a b)(k:E6 ws b c):E6 ws a c:=fun t ht=>(k t ht).trans (h t ht)
theorem E6.left{ws vs:List Nat}{a b:Act}(h:E6 ws a b):E6 (ws++vs) a b:=fun t ht=>h t (by rw[F3,Bool.or_eq_false_iff] at ht;exact ht.1)
theorem E6.right{ws vs:List Nat}{a b:Act}(h:E6 vs a b):E6 (ws++vs) a b:=fun t ht=>h t (by rw[F3,Bool.or_eq_false_iff] at ht;exact ht.2)
theorem O9{t:Nat}:∀{l:List Oper} {k:Nat},dJ (pM l) t=false→mJ t (number k l)=false:=by
 intro l
 induction l with
 | nil=>intro k _;rfl
 | cons o l ih =>
   intro k h
   simp only[number,mJ]
   cases hd:o.dst with
   | none=>simp only[pM,hd] at h;rw[ih h];rfl
   | some d =>
     simp only[pM,hd,dJ,Bool.or_eq_false_iff] at h
     rw[ih h.2]
     simp only[Bool.or_false]
     exact gK fun e=>by subst e;simp at h
theorem M9{l:List Oper}{o:Oper}(h:o∈l){k:Nat}(hk:o.dst=some k):k∈pM l:=by
 induction l with
 | nil=>cases h
 | cons p l ih =>
   rcases List.mem_cons.1 h with h|h
   ·subst h;simp only[pM,hk];exact List.mem_cons_self ..
   ·simp only[pM]
    split
    ·exact List.mem_cons_of_mem _ (ih h)
    ·exact ih h
theorem LF{α:Type}{f:Nat→Tree α}:∀{es:List Nat} {e i:Nat},GJ es e=some i→(C0 es i f).run=(f e).run:=by
 intro es
 induction es with
 | nil=>intro e i h;cases h
 | cons k r ih =>
   intro e i h
   simp only[GJ] at h
   have one:∀{b:Bool},(bif b then some 0 else(GJ r e).map (·+1))=some i→(b=true∧i=0)∨(b=false∧∃j,GJ r e=some j∧i=j+1):=by
    intro b hb
    cases b with
    | true=>exact .inl ⟨rfl,(Option.some.inj hb).symm⟩
    | false =>
      obtain⟨j,h1,h2⟩:=Option.map_eq_some_iff.1 hb
      exact .inr ⟨rfl,j,h1,h2.symm⟩
   rcases one h with ⟨h1,rfl⟩|⟨h1,j,h2,rfl⟩
   ·obtain rfl:=Nat.eq_of_beq_eq_true h1
    cases r with
    | nil=>rfl
    | cons m s=>rfl
   ·cases r with
    | nil=>cases h2
    | cons m s=>exact ih h2
section
variable {P:Program} {B:qz} {N:Nat} {cx:Ctx} {nb:Nat} {bf:List Nat} {inl:Nat→List aS→St→Tree (aS×St)}
theorem RS(hkeep:∀f vals σ v σ',(inl f vals σ).run=some (v,σ')→br σ σ'):∀(l:List Oper) (k:Nat) (done:List yY) (σ σ':St),(HR cx nb bf inl (number k l) done σ).run=some σ'→br σ σ':=by
 intro l
 induction l with
 | nil=>intro k done σ σ' h;obtain rfl:=Option.some.inj h;exact br.refl _
 | cons o l ih =>
   intro k done σ σ' h
   simp only[number,HR] at h
   split at h
   ·cases h
   ·obtain⟨hc,h1⟩:=aD h
    obtain⟨σ1,h2,h3⟩:=bind_some h1
    exact(zn hkeep σ1 (AF (fun hb=>HD o σ hb) h2)).trans (ih _ _ _ _ h3)
theorem Ur{fz:Bool}{M V:Nat→Bool}:∀{l:List (Nat×Sh×bU)} {x:(ZX l).den} {t:Nat},wC l t=false→HS fz M V l x t=none:=by
 intro l
 induction l with
 | nil=>intro x t _;rfl
 | cons p r ih =>
   obtain⟨i,s,b⟩:=p
   intro x t h
   simp only[wC,Bool.or_eq_false_iff] at h
   simp only[HS,h.1,cond_false]
   exact ih h.2
theorem Pb{k:Carry}{fz lock:Bool}{wr:List Nat}{σ:St}{x:k.ty.den}{b:Nat}{bx:bU}(hb:σ.mem b=some bx)(h:wC k.M b=false):(k.sC fz lock wr σ x).mem b=some { bx with lk:=bx.lk||lock }:=by
 simp only[Carry.sC]
 rw[Ur h,hb]
theorem DE{k:Carry}{fz lock:Bool}{wr:List Nat}{σ:St}{x:k.ty.den}(hk:DC k σ):br σ (k.sC fz lock wr σ x):=by
 intro b bx hb hl
 have:wC k.M b=false:=by
  cases hq:wC k.M b with
  | false=>rfl
  | true =>
    obtain⟨s,b0,hm⟩:=YI hq
    obtain⟨h1,_,h3⟩:=hk.M b s b0 hm
    rw[hb] at h1
    obtain rfl:=Option.some.inj h1
    rw[hl] at h3;cases h3
 rw[Pb hb this]
 cases bx
 simp only at hl
 subst hl
 rfl
theorem F4{α:Type}{Q:α→Prop}{f:Nat→Tree α}(hf:∀e y,(f e).run=some y→Q y):∀{es:List Nat} {i:Nat} {y:α},(C0 es i f).run=some y→Q y:=by
 intro es
 induction es with
 | nil=>intro i y h;cases h
 | cons k r ih =>
   intro i y h
   cases r with
   | nil=>exact hf k y h
   | cons m s =>
     have:=fL h
     cases hq:fB i 0 with
     | true=>rw[hq] at this;exact hf k y this
     | false=>rw[hq] at this;exact ih this
theorem RT:∀{l:List Nat} {σ σ':St},FN l σ=some σ'→br σ σ':=by
 intro l
 induction l with
 | nil=>intro σ σ' h;obtain rfl:=Option.some.inj h;exact br.refl _
 | cons m r ih =>
   intro σ σ' h
   unfold FN at h
   cases hm:Nat.ble 2000000 m with
   | false=>rw[hm] at h;exact ih h
   | true =>
     rw[hm] at h
     simp only[cond_true] at h
     split at h
     ·split at h
      ·split at h
       ·split at h
        ·rename_i hg
         exact(oT hg).trans ((br.put _ _ _).trans (ih h))
        ·cases h
       ·cases h
      ·cases h
     ·exact ih h
theorem Pc{B:qz}{N:Nat}{a:Act}{w:World}:∀{l:List Nat} {σ σ':St} {γ:Gh},FN l σ=some σ'→cX B N γ σ a w→∃γ',cX B N γ' σ' a w∧Ext B γ σ.mem w γ' σ'.mem w:=by
 intro l
 induction l with
 | nil=>intro σ σ' γ h hs;obtain rfl:=Option.some.inj h;exact⟨γ,hs,Ext.refl _ _ _ _⟩
 | cons m r ih =>
   intro σ σ' γ h hs
   unfold FN at h
   cases hm:Nat.ble 2000000 m with
   | false=>rw[hm] at h;exact ih h hs
   | true =>
     rw[hm] at h
     simp only[cond_true] at h
     generalize m-2000000=k at h
     split at h
     ·rename_i b v hb
      split at h
      ·split at h
       ·split at h
        ·rename_i x σ1 hg
         have hv:=hs.slots k
         rw[hb] at hv
         obtain⟨jb,s1,s2,s3⟩:=lS hs hv hg
         have s4:cX B N jb (σ1.put k (.data (.slice _) x)) a w:=⟨fun t=>by
          unfold St.put
          dsimp only
          cases ht:Nat.beq t k with
          | false=>exact s1.slots t
          | true =>
            obtain rfl:=Nat.eq_of_beq_eq_true ht
            exact s3,s1.size,s1.defers,s1.ok⟩
         obtain⟨EW,t1,t2⟩:=ih h s4
         exact⟨EW,t1,s2.trans t2⟩
        ·cases h
       ·cases h
      ·cases h
     ·exact ih h hs
theorem RU{f:St→Tree (Nat×St)}(hf:∀σ r,(f σ).run=some r→br σ r.2):∀(n:Nat) (σ:St) (r:Nat×St),(again f n σ).run=some r→br σ r.2:=by
 intro n
 induction n with
 | zero=>intro σ r h;cases h
 | succ n ih =>
   intro σ r h
   obtain⟨r1,h1,h2⟩:=bind_some h
   have k1:=hf _ _ h1
   cases hq:Nat.beq r1.1 0 with
   | true=>rw[hq] at h2;exact k1.trans (ih _ _ h2)
   | false=>rw[hq] at h2;obtain rfl:=Option.some.inj h2;exact k1
theorem xL(hkeep:∀f vals σ v σ',(inl f vals σ).run=some (v,σ')→br σ σ'):∀(c:Code) (pl:List (Option Q2)) (σ:St) (r:Nat×St),(iY cx nb bf inl c pl σ).run=some r→br σ r.2:=by
 intro c
 induction c with
 | skip=>intro pl σ r h;obtain rfl:=Option.some.inj h;exact br.refl _
 | label l=>intro pl σ r h;obtain rfl:=Option.some.inj h;exact br.refl _
 | ret=>intro pl σ r h;obtain rfl:=Option.some.inj h;exact br.refl _
 | exit i=>intro pl σ r h;obtain rfl:=Option.some.inj h;exact br.refl _
 | region id ops dr =>
   intro pl σ r h
   obtain⟨σ1,h1,h2⟩:=bind_some h
   obtain rfl:=Option.some.inj h2
   cases dr with
   | true =>
     have h1':(wB cx nb bf inl ops σ).run=some σ1:=h1
     unfold wB at h1'
     cases hg:ops.any fun o=>o.guard.isSome with
     | true =>
       rw[hg] at h1'
       obtain⟨hnt,h3⟩:=aD (show(bif jR ops.toList then sR cx nb bf inl ops (number 0 ops.toList) [] σ (fun _=>false) else .fail).run=some σ1 from h1')
       exact RM hkeep _ _ _ _ _ _ h3
     | false =>
       rw[hg] at h1'
       exact RS hkeep _ _ _ _ _ h1'
   | false=>exact Dw hkeep _ _ _ _ h1
 | seq a b jE nr =>
   intro pl σ r h
   obtain⟨r1,h1,h2⟩:=bind_some h
   have k1:=jE _ _ _ h1
   cases hq:Nat.beq r1.1 0 with
   | true=>rw[hq] at h2;exact k1.trans (nr _ _ _ h2)
   | false=>rw[hq] at h2;obtain rfl:=Option.some.inj h2;exact k1
 | block i a ih =>
   intro pl σ r h
   obtain⟨r1,h1,h2⟩:=bind_some h
   obtain rfl:=Option.some.inj h2
   exact ih _ _ r1 h1
 | scope a ih=>intro pl σ r h;exact ih _ _ _ h
 | cond c a b jE nr =>
   intro pl σ r h
   unfold iY at h
   split at h
   ·rename_i c0 Ya hn
    change Bool at c0
    have:=fL h
    cases c0 with
    | false=>exact nr _ _ _ this
    | true=>exact jE _ _ _ this
   ·split at h
    ·cases h
    ·rename_i k hk
     have hok:=xK hk
     dsimp only at h
     split at h
     ·rw[Tree.yT] at h
      obtain⟨x,h1,h2⟩:=Option.bind_eq_some_iff.1 h
      obtain rfl:=Option.some.inj h2
      exact DE hok
     ·rw[Tree.yT] at h
      obtain⟨x,h1,h2⟩:=Option.bind_eq_some_iff.1 h
      exact F4 (Q:=fun r:Nat×St=>br σ r.2) (fun e y hy=>by obtain rfl:=Option.some.inj hy;exact DE hok) h2
   ·cases h
 | loop a ih =>
   intro pl σ r h
   unfold iY at h
   split at h
   ·split at h
    ·cases h
    rename_i σ aal
    refine(RT aal).trans ?_
    split at h
    ·cases h
    ·rename_i k hk
     have hok:=xK hk
     dsimp only at h
     split at h
     ·cases h
     ·split at h
      ·obtain⟨x,h1,h2⟩:=b5 h
       obtain rfl:=Option.some.inj h2
       exact DE hok
      ·obtain⟨x,h1,h2⟩:=b5 h
       exact F4 (Q:=fun r:Nat×St=>br σ r.2) (fun e y hy=>by obtain rfl:=Option.some.inj hy;exact DE hok) h2
   ·exact RU (fun σ r hr=>ih _ _ _ hr) _ _ _ h
   ·cases h
 | _=>intro pl σ r h;cases h
end
end Go.Ge
