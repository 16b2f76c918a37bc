/- A ghost interpreter of the model's code, and that it tells the truth: part 7. It says of a function of plain data what a call of it comes to. -/
import Derived.Test.YtefacgohfjccgaaGreatDoorGeF
import Derived.Scope
set_option linter.unusedVariables false
set_option linter.unusedSimpArgs false
set_option linter.unusedSectionVars false
namespace Go.Ge
open RowKit
theorem qh{l:List Nat}{t:Nat}:dD l t=true↔t∈l:=by
 induction l with
 | nil=>simp[dD]
 | cons i r ih =>
   simp only[dD,zv,IQ,ih];constructor
   ·rintro(h|h)
    ·exact .inl (gz h)
    ·exact .inr h
   ·rintro(h|h)
    ·subst h;exact .inl (by simp)
    ·exact .inr h
theorem ku{l:List Nat}{t:Nat}:dD l t=false↔t∉l:=by
 rw[←qh];simp
theorem Xz{l:List Operand}{t:Nat}(h:Operand.tmp t∈l):t∈tmpsOf l:=by
 induction l with
 | nil=>cases h
 | cons x r ih =>
   rcases List.mem_cons.1 h with h'|h'
   ·subst h';exact nX ..
   ·clear h;have h:=h';cases x<;>simp only[tmpsOf]
    case tmp k=>exact qU _ (ih h)
    all_goals exact ih h
section
variable {cx:Ctx} {nb:Nat} {bf:List Nat} {inl:Nat→List aS→St→Tree (aS×St)} {σ σ' τ:St}
structure UX (cx:Ctx) (nb:Nat) (o:Oper) (fp:Fp):Prop where
 own:∀k,o.dst=some k→nb+k∈fp.rd
 sub:∀b∈fp.wr,b∈fp.rd
 w1:cls cx fp.fn o≠0→∀k,o.dst=some k→nb+k∈fp.wr
 w2:cls cx fp.fn o≠0→cls cx fp.fn o≠1→∀b∈fp.rd,b∈fp.wr
 c3:cls cx fp.fn o≠3
theorem L6(o:Oper)(σ:St)(h:(As cx nb o σ).LX=false):UX cx nb o (As cx nb o σ):=by
 have hown:∀k,o.dst=some k→nb+k∈Go.Ge.own nb o:=fun k hk=>by simp[Go.Ge.own,hk]
 unfold As at h⊢;dsimp only at h⊢;split at h<;>rename_i hc
 ·exact⟨fun k hk=>GH _ (hown k hk),fun b hb=>(nomatch hb),fun h0=>absurd hc h0,fun h0=>absurd hc h0,by rw[hc];decide⟩
 ·exact⟨fun k hk=>GH _ (hown k hk),fun b hb=>GH _ hb,fun _ k hk=>hown k hk,fun _ h1=>absurd hc h1,by rw[hc];decide⟩
 ·exact⟨fun k hk=>GH _ (hown k hk),fun b hb=>hb,fun _ k hk=>GH _ (hown k hk),fun _ _ b hb=>hb,by rw[hc];decide⟩
 ·cases h
theorem agj{ts rd:List Nat}:Le { (σ.only ts rd) with slots:=σ.slots } σ:=fun b bx hb=>by
 simp only[St.only] at hb;cases hm:dD rd b with
 | true=>rw[hm] at hb;exact hb
 | false=>rw[hm] at hb;cases hb
theorem UY{ts rd:List Nat}:Le (σ.only ts rd) σ:=fun b bx hb=>agj (ts:=ts) b bx hb
theorem UZ{l:List Operand}{rd:List Nat}{x:Operand}(hx:x∈l):cL (σ.only (tmpsOf l) rd) x=cL σ x:=by
 cases x with
 | tmp t =>
   have:=qh.2 (Xz hx);simp only[cL,St.only,this,gp]
 | _=>rfl
theorem agk{a b:Option Nat}(h:ajw a b=true):a=b:=by
 cases a<;>cases b<;>first|rfl|cases h|exact congrArg some (gz h)
theorem Px(o:Oper)(rd:List Nat):qf o (σ.only (tmpsOf (fG o.op)) rd)=qf o σ:=by
 unfold qf;split
 ·rename_i c hc;split
  ·rename_i x hx;rw[UZ (by rw[hc];simp[fG,hx])]
  ·rfl
 ·rfl
theorem Eg{fp:Fp}{o:Oper}(hf:fp.LX=false→UX cx nb o fp)(hr:(jr cx nb bf inl fp o σ).run=some σ'):(rW cx nb bf inl o σ).run=some σ':=by
 unfold jr at hr;cases SD:fp.LX with
 | true=>rw[SD] at hr;exact hr
 | false =>
   have hf:=hf SD;rw[SD] at hr;simp only[jM] at hr;obtain⟨τ,h1,h2⟩:=bind_some hr;obtain rfl:=aN h2;obtain⟨hfn,h1⟩:=aD h1;have hfn:=agk hfn;have alY:qf o σ=fp.fn:=by rw[←hfn];exact(Px ..).symm
   have hL:=aaN (cx:=cx) (nb:=nb) (bf:=bf) (inl:=inl) (σ1:=σ.only (tmpsOf (fG o.op)) fp.rd) (σ2:=σ) UY (o:=o) alY hf.c3 (fun x hx=>UZ hx)
    (fun k hk=>by simp only[St.only,qh.2 (hf.own k hk),gp]) τ h1
   rw[hL];have hC:=Xt (cx:=cx) (nb:=nb) (bf:=bf) (σ:=σ.only (tmpsOf (fG o.op)) fp.rd) (o:=o) (p:=fun b=>b∈fp.wr) hfn hf.c3 (fun h0 k hk=>hf.w1 h0 k hk) (fun h0 h1 b hb=>by
    refine hf.w2 h0 h1 b ?_;simp only[St.only] at hb;cases hm:dD fp.rd b with
    | true=>exact qh.1 hm
    | false=>rw[hm] at hb;exact absurd rfl hb) τ h1
   have hm:(fun b=>match τ.mem b with|some x=>some x|none=>σ.mem b)=fun b=>bif dD fp.wr b then τ.mem b else σ.mem b:=by
    funext b;have hrd:b∈fp.rd→(σ.only (tmpsOf (fG o.op)) fp.rd).mem b=σ.mem b:=fun h=>by simp only[St.only,qh.2 h,gp]
    cases hw:dD fp.wr b with
    | true =>
      simp only[gp];cases hq:τ.mem b with
      | some x=>rfl
      | none =>
        simp only;rw[←hrd (hf.sub b (qh.1 hw))];rcases hC b with k|k
        ·rw[←k,hq]
        ·exact absurd hq k.1
    | false =>
      simp only[jM];rcases hC b with k|k
      ·rw[k];cases hq:(σ.only (tmpsOf (fG o.op)) fp.rd).mem b with
       | none=>rfl
       | some x=>simp only;exact(UY b x hq).symm
      ·exact absurd k.2 (ku.1 hw)
   unfold lift lay;exact congrArg (fun m=>some (St.mk _ m)) hm
theorem Eh{a b:List Nat}(h:aar a b=true){x:Nat}(hx:x∈a):x∉b:=by
 simp only[aar,Cx,nq] at h;exact ku.1 (h x hx)
theorem apart_spec{x y:Oper}{f g:Fp}(h:apart x y f g=true):f.LX=false∧g.LX=false∧(∀b∈f.wr,b∉g.rd)∧(∀b∈g.wr,b∉f.rd) ∧
  (∀d,x.dst=some d→d∉tmpsOf (fG y.op))∧(∀d,y.dst=some d→d∉tmpsOf (fG x.op))∧(∀d e,x.dst=some d→y.dst=some e→d≠e):=by
 simp only[apart,dW,nq] at h;obtain⟨⟨⟨⟨⟨h1,h2⟩,h3⟩,h4⟩,h5⟩,h6⟩:=h;refine⟨h1,h2,fun b hb=>Eh h3 hb,fun b hb=>Eh h4 hb,fun d hd=>?_,fun d hd=>?_,fun d e hd he=>?_⟩
 ·rw[hd] at h5;simp only[dW,nq] at h5;exact ku.1 h5.1
 ·rw[hd] at h6;simp only[nq] at h6;exact ku.1 h6
 ·rw[hd,he] at h5;simp only[dW,nq] at h5;intro q;subst q;simp at h5
theorem Hs{d:Option Nat}{wr ts rd:List Nat}(h1:∀k,d=some k→k∉ts)(h2:∀b∈wr,b∉rd):(lay σ d wr τ).only ts rd=σ.only ts rd:=by
 unfold St.only lay
 congr 1
 ·funext t;cases hm:dD ts t with
  | false=>rfl
  | true =>
    simp only[gp];cases d with
    | none=>rfl
    | some k =>
      have:t≠k:=fun e=>h1 k rfl (by rw[←e];exact qh.1 hm);simp[ja this]
 ·funext b;cases hm:dD rd b with
  | false=>rfl
  | true =>
    have:b∉wr:=fun hw=>h2 b hw (qh.1 hm);simp[ku.2 this]
theorem adF{oi oj:Oper}{fi fj:Fp}{σ1 σ2:St}(hap:apart oi oj fi fj=true)(hsi:∀b∈fi.wr,b∈fi.rd)(h1:(jr cx nb bf inl fi oi σ).run=some σ1)(h2:(jr cx nb bf inl fj oj σ1).run=some σ2) :
  ∃adG,(jr cx nb bf inl fj oj σ).run=some adG∧(jr cx nb bf inl fi oi adG).run=some σ2:=by
 obtain⟨b1,b2,w1,w2,d1,d2,d3⟩:=apart_spec hap;unfold jr at h1 h2⊢;rw[b1] at h1;rw[b2] at h2;simp only[b1,b2,jM] at h1 h2⊢;obtain⟨τi,i1,i2⟩:=bind_some h1;obtain rfl:=aN i2;obtain⟨τj,j1,j2⟩:=bind_some h2;obtain rfl:=aN j2;rw[Hs d1 w1] at j1;refine⟨lay σ oj.dst fj.wr τj,by rw[Tree.run_bind,j1];rfl,?_⟩;rw[Hs d2 w2,Tree.run_bind,i1];show some _=some _
 congr 1
 unfold lay
 congr 1
 ·cases hi:oi.dst with
  | none=>rfl
  | some k =>
    cases hj:oj.dst with
    | none=>rfl
    | some e =>
      have hne:=d3 k e hi hj;funext t;dsimp only;by_cases q1:t=k
      ·subst q1;simp[ja hne]
      ·by_cases q2:t=e
       ·subst q2;simp[ja q1]
       ·simp[ja q1,ja q2]
 ·funext b;dsimp only;cases hw1:dD fi.wr b with
  | false=>rfl
  | true =>
    have:b∉fj.wr:=fun hw=>w2 b hw (hsi b (qh.1 hw1));simp[ku.2 this]
inductive Reach (ops:Array Oper):Nat→Nat→Prop where
 | step {i:Nat} {o:Oper} {e:Edge} (h:ops[i]?=some o) (he:e∈o.after) (hb:Region.binds .any e=true):Reach ops i e.on
 | more {i k:Nat} {o:Oper} {e:Edge} (h:ops[i]?=some o) (he:e∈o.after) (hb:Region.binds .any e=true) (r:Reach ops e.on k):Reach ops i k
def SE(ops:Array Oper)(listed:Array Bool):Prop:=∀i o e,listed.getD i false=true→ops[i]?=some o→e∈o.after→Region.binds .any e=true→listed.getD e.on false=true
theorem Reach.listed{ops:Array Oper}{listed:Array Bool}(hs:SE ops listed){i k:Nat}(h:Reach ops i k):listed.getD i false=true→listed.getD k false=true:=by
 induction h with
 | step h he hb=>exact fun hl=>hs _ _ _ hl h he hb
 | more h he hb r ih=>exact fun hl=>ih (hs _ _ _ hl h he hb)
theorem Reach.ready{ops:Array Oper}{listed:Array Bool}(hs:SE ops listed){i k:Nat}(h:Reach ops i k)(hr:i∈Region.ready .any ops listed):listed.getD k false=true:=by
 obtain⟨_,o,ho,hall⟩:=mem_ready.1 hr;cases h with
 | step h he hb =>
   obtain rfl:=aN (ho.symm.trans h);exact hall _ he hb
 | more h he hb r =>
   obtain rfl:=aN (ho.symm.trans h);exact r.listed hs (hall _ he hb)
theorem SE.list{ops:Array Oper}{listed:Array Bool}(hs:SE ops listed){i:Nat}(hr:i∈Region.ready .any ops listed):SE ops (listed.setIfInBounds i true):=by
 obtain⟨_,oi,hoi,hall⟩:=mem_ready.1 hr;have up:∀k,listed.getD k false=true→(listed.setIfInBounds i true).getD k false=true:=by
  intro k hk;by_cases e:i=k
  ·subst e;rcases xe i listed.size with h'|h'
   ·simp[h']
   ·simp[acC h'] at hk
  ·rw[getD_set_ne false e];exact hk
 intro j o e hj ho he hb;by_cases q:i=j
 ·subst q;obtain rfl:=aN (hoi.symm.trans ho);exact up _ (hall e he hb)
 ·rw[getD_set_ne false q] at hj;exact up _ (hs j o e hj ho he hb)
theorem U0{listed:Array Bool}{i:Nat}(h0:listed.getD i true=false)(h1:listed.getD i false=true):False:=by
 rcases xe i listed.size with h'|h'
 ·simp[h'] at h0 h1;rw[h0] at h1;cases h1
 ·simp[acC h'] at h1
def uz(ops:Array Oper)(done:List CO):Prop:=∀k,∀b,Nat.testBit (maskAt done k) b=true→Reach ops k b
theorem F4{ops:Array Oper}{done:List CO}(hd:uz ops done){i:Nat}{o:Oper}(ho:ops[i]?=some o){b:Nat}(h:Nat.testBit (mask done o) b=true):Reach ops i b:=by
 unfold mask at h;have key:∀l:List Edge,(∀e∈l,e∈o.after)→Nat.testBit (wY done l) b=true→Reach ops i b:=by
  intro l;induction l with
  | nil=>intro _ h;simp[wY] at h
  | cons e r ih =>
    intro hl h;simp only[wY] at h;cases hb:Region.binds .any e with
    | false=>rw[hb] at h;exact ih (fun e' he'=>hl e' (qU _ he')) h
    | true =>
      rw[hb] at h;simp only[gp,Nat.testBit_or,zv] at h;rcases h with (h|h)|h
      ·exact ih (fun e' he'=>hl e' (qU _ he')) h
      ·rw[Nat.testBit_two_pow] at h;have:e.on=b:=by simpa using h
       subst this;exact .step ho (hl e (nX ..)) hb
      ·exact .more ho (hl e (nX ..)) hb (hd _ _ h)
 exact key _ (fun e he=>by simpa using he) h
theorem uz.nil{ops:Array Oper}:uz ops []:=fun k b h=>by simp[maskAt] at h
theorem uz.cons{ops:Array Oper}{done:List CO}(hd:uz ops done){i:Nat}{o:Oper}{f:Fp}(ho:ops[i]?=some o):uz ops ((i,o,f,mask done o)::done):=by
 intro k b h;simp only[maskAt] at h;cases hk:Nat.beq i k with
 | true =>
   rw[hk] at h;obtain rfl:=gz hk;exact F4 hd ho h
 | false=>rw[hk] at h;exact hd k b h
def adH(cx:Ctx)(nb:Nat)(bf:List Nat)(inl:Nat→List aS→St→Tree (aS×St))(ops:Array Oper)(fp:Nat→Fp)(Q:St→Prop):Nat→Array Bool→St→Prop
 | 0,listed,σ=>Region.ready .any ops listed=[]∧Q σ
 | n+1,listed,σ=>(Region.ready .any ops listed=[]→Q σ) ∧
  ∀i∈Region.ready .any ops listed,∃o σ',ops[i]?=some o∧o.guard=none∧(jr cx nb bf inl (fp i) o σ).run=some σ'∧adH cx nb bf inl ops fp Q n (listed.setIfInBounds i true) σ'
variable {ops:Array Oper} {fp:Nat→Fp} {Q:St→Prop}
theorem XA{i:Nat}{oi:Oper}(hi:ops[i]?=some oi)(hgi:oi.guard=none)(hsub:∀b∈(fp i).wr,b∈(fp i).rd):∀(n:Nat) (listed:Array Bool) (σ σ1:St),
  SE ops listed→(∀j oj,ops[j]?=some oj→j≠i→listed.getD j true=false→Reach ops j i∨apart oi oj (fp i) (fp j)=true) →
  i∈Region.ready .any ops listed→(jr cx nb bf inl (fp i) oi σ).run=some σ1→adH cx nb bf inl ops fp Q n (listed.setIfInBounds i true) σ1→adH cx nb bf inl ops fp Q (n+1) listed σ:=by
 intro n;induction n with
 | zero =>
   intro listed σ σ1 xD hfree hr h1 H;refine⟨fun h=>(by rw[h] at hr;cases hr),fun j hj=>?_⟩;by_cases hji:j=i
   ·subst hji;exact⟨oi,σ1,hi,hgi,h1,H⟩
   ·have:=ready_mono hj hji;rw[H.1] at this;cases this
 | succ n ih =>
   intro listed σ σ1 xD hfree hr h1 H;refine⟨fun h=>(by rw[h] at hr;cases hr),fun j hj=>?_⟩;by_cases hji:j=i
   ·subst hji;exact⟨oi,σ1,hi,hgi,h1,H⟩
   ·obtain⟨oj,σ2,hoj,hgj,h2,H2⟩:=H.2 j (ready_mono hj hji);obtain⟨adI,oj',adJ,hall⟩:=mem_ready.1 hj;rw[hoj] at adJ;obtain rfl:=aN adJ;have hap:apart oi oj (fp i) (fp j)=true:=by
     rcases hfree j oj hoj hji adI with hw|hap
     ·exact(U0 (mem_ready.1 hr).1 (hw.ready xD hj)).elim
     ·exact hap
    obtain⟨adG,k1,k2⟩:=adF hap hsub h1 h2;refine⟨oj,adG,hoj,hgj,k1,ih (listed.setIfInBounds j true) adG σ2 (xD.list hj) (fun k ok hk hki hun=>hfree k ok hk hki ?_) (ready_mono hr (Mt hji)) k2 ?_⟩
    ·by_cases hjk:j=k
     ·subst hjk;exact adI
     ·rw[getD_set_ne true hjk] at hun;exact hun
    ·rw[ahn _ _ hji];exact H2
end
end Go.Ge
namespace Go.Ge
open RowKit
section
variable {P:Program} {B:tJ} {N:Nat} {γ:Gh} {cx:Ctx} {nb:Nat} {bf:List Nat} {inl:Nat→List aS→St→Tree (aS×St)} {σ σ' τ:St} {ops:Array Oper} {fp:Nat→Fp}
def agl(cx:Ctx)(nb:Nat)(bf:List Nat)(inl:Nat→List aS→St→Tree (aS×St))(ops:Array Oper)(fp:Nat→Fp):Nat→List Oper→St→St→Prop
 | _,[],σ,σ'=>σ=σ'
 | k,o::l,σ,σ'=>o.guard=none∧((fp k).LX=false→UX cx nb o (fp k))∧((fp k).LX=true→(fp k).wr=[])∧(∀e∈o.after,Region.binds .any e=true→e.on<k) ∧
  (∀j oj,l[j]?=some oj→Reach ops (k+1+j) k∨apart o oj (fp k) (fp (k+1+j))=true) ∧
  ∃σ1,(jr cx nb bf inl (fp k) o σ).run=some σ1∧agl cx nb bf inl ops fp (k+1) l σ1 σ'
theorem Nk{o:Oper}{f fk:Fp}{k m mk:Nat}{ok:Oper}{r:List CO}(h:loose o f m ((k,ok,fk,mk)::r)=true):(Nat.testBit m k=true∨apart ok o fk f=true)∧loose o f m r=true:=by
 simp only[loose,dW,zv] at h;exact h
theorem adK(o:Oper)(σ:St)(h:(As cx nb o σ).LX=true):(As cx nb o σ).wr=[]:=by
 unfold As at h⊢;dsimp only at h⊢;split at h<;>first|cases h|skip
 rfl
theorem SF:∀(l:List Oper) (k:Nat) (done:List CO) (σ:St),(∀j o,l[j]?=some o→ops[k+j]?=some o)→uz ops done→(MA cx nb bf inl (number k l) done σ).run=some σ' →
  ∃fs:List (Fp×Nat),fs.length=l.length∧(∀j m b,fs[j]?=some m→Nat.testBit m.2 b=true→Reach ops (k+j) b) ∧
   ∀fp:Nat→Fp,(∀j f,fs[j]?=some f→fp (k+j)=f.1)→agl cx nb bf inl ops fp k l σ σ'∧∀j o f,l[j]?=some o→fs[j]?=some f→loose o (fp (k+j)) f.2 done=true:=by
 intro l;induction l with
 | nil =>
   intro k done σ _ _ h;exact⟨[],rfl,fun j m b h=>absurd h (by simp),fun fp _=>⟨aN h,fun j o f hj=>absurd hj (by simp)⟩⟩
 | cons o l ih =>
   intro k done σ hl hm h;simp only[number,MA] at h;split at h
   ·cases h
   ·rename_i hg;obtain⟨hc,h1⟩:=aD h;obtain⟨σ1,h2,h3⟩:=bind_some h1;simp only[dW] at hc;have hk:ops[k]?=some o:=hl 0 o rfl;obtain⟨fs,f1,fm,f2⟩:=ih (k+1) _ σ1 (fun j o' hj=>by have:=hl (j+1) o' (by simpa using hj);rw[←this];congr 1;omega) (hm.cons hk) h3;refine⟨(As cx nb o σ,mask done o)::fs,by simp[f1],fun j m b hj hb=>?_,fun fp hfp=>?_⟩
    ·cases j with
     | zero=>obtain rfl:=aN hj;exact F4 hm hk hb
     | succ j=>have:=fm j m b (by simpa using hj) hb;rw[show k+(j+1)=k+1+j by omega];exact this
    have h0:fp k=As cx nb o σ:=hfp 0 _ rfl;obtain⟨g1,g2⟩:=f2 fp fun j f hj=>by have:=hfp (j+1) f (by simpa using hj);rw[←this];congr 1;omega
    refine⟨⟨hg,fun hb=>by rw[h0] at hb⊢;exact L6 o σ hb,fun hb=>by rw[h0] at hb⊢;exact adK o σ hb,fun e he hb=>?_,fun j oj hj=>?_,σ1,by rw[h0];exact h2,g1⟩,fun j o' f hj hf=>?_⟩
    ·have:=hc.2;rw[←Array.all_toList,Cx] at this;have:=this e (by simpa using he);rw[hb] at this;have:=KV (by simpa [Nat.blt] using this);omega
    ·obtain⟨f,hf⟩:∃f,fs[j]?=some f:=⟨_,kL (by rw[f1];exact(List.getElem?_eq_some_iff.1 hj).1)⟩;rcases(Nk (g2 j oj f hj hf)).1 with q|q
     ·exact .inl (fm j f k hf q)
     ·rw[h0];exact .inr q
    ·cases j with
     | zero =>
       obtain rfl:=aN hj;obtain rfl:=aN hf;rw[An,h0];exact hc.1
     | succ j =>
       have:=(Nk (g2 j o' f (by simpa using hj) (by simpa using hf))).2;rw[show k+(j+1)=k+1+j by omega];exact this
theorem adL:∀(l:List Oper) (k:Nat) (listed:Array Bool) (σ:St),(∀j,l[j]?=ops[k+j]?)→listed.size=ops.size→(∀j,j<k→j<ops.size→listed.getD j false=true) →
  (∀j,k≤j→j<ops.size→listed.getD j true=false)→SE ops listed→agl cx nb bf inl ops fp k l σ σ'→adH cx nb bf inl ops fp (·=σ') l.length listed σ:=by
 intro l;induction l with
 | nil =>
   intro k listed σ hl hs h1 h2 xD h;refine⟨?_,h⟩;cases hr:Region.ready .any ops listed with
   | nil=>rfl
   | cons i r =>
     exfalso;have hi:i∈Region.ready .any ops listed:=by rw[hr];exact nX ..
     obtain⟨g1,o,g2,_⟩:=mem_ready.1 hi;have hlt:i<ops.size:=(Array.getElem?_eq_some_iff.1 g2).1;rcases xe i k with hk|hk
     ·have:=h1 i hk hlt;simp[hs,hlt] at this g1;rw[this] at g1;cases g1
     ·have:=hl (i-k);rw[show k+(i-k)=i by omega,g2] at this;cases this
 | cons o l ih =>
   intro k listed σ hl hs h1 h2 xD h;have hk:ops[k]?=some o:=by simpa using(hl 0).symm
   have hlt:k<ops.size:=(Array.getElem?_eq_some_iff.1 hk).1;obtain⟨c1,c2,c2',c3,c4,σ1,c5,c6⟩:=h;have Nl:k∈Region.ready .any ops listed:=mem_ready.2 ⟨h2 k (cU _) hlt,o,hk,fun e he hb=>by
    have:=c3 e he hb;exact h1 e.on this (by omega)⟩
   refine XA hk c1 (fun b hb=>?_) l.length listed σ σ1 xD (fun j oj hj hne hun=>?_) Nl c5 (ih (k+1) _ σ1 (fun j=>?_) (by simp[hs]) (fun j hj hjs=>?_) (fun j hj hjs=>?_) (xD.list Nl) c6)
   ·cases SD:(fp k).LX with
    | true=>rw[c2' SD] at hb;cases hb
    | false=>exact(c2 SD).sub b hb
   ·have adM:j<ops.size:=(Array.getElem?_eq_some_iff.1 hj).1;rcases xe j k with hjk|hjk
    ·exfalso;have:=h1 j hjk adM;simp[hs,adM] at this hun;rw[this] at hun;cases hun
    ·have hq:=hl (j-k);rw[show k+(j-k)=j by omega,hj] at hq;obtain⟨m,hm⟩:∃m,j-k=m+1:=⟨j-k-1,by omega⟩;rw[hm] at hq;have:=c4 m oj (by simpa using hq);rw[show k+1+m=j by omega] at this;exact this
   ·have:=hl (j+1);rw[show k+1+j=k+(j+1) by omega,←this];simp
   ·by_cases e:j=k
    ·subst e;simp[hs,hlt]
    ·rw[getD_set_ne false (Mt e)];exact h1 j (by omega) hjs
   ·rw[getD_set_ne true (by omega:k≠j)];exact h2 j (by omega) hjs
theorem Nn:∀{l:List Oper} {k j:Nat} {o:Oper},l[j]?=some o→(k+j,o)∈number k l:=by
 intro l;induction l with
 | nil=>intro k j o h;cases h
 | cons p l ih =>
   intro k j o h;cases j with
   | zero=>obtain rfl:=aN h;exact nX ..
   | succ j=>exact qU _ (by rw[show k+(j+1)=k+1+j by omega];exact ih (by simpa using h))
theorem Np{d:Nat}:∀{items:List (Nat×Oper)},oY d items=false→∀{i:Nat} {o:Oper},(i,o)∈items→o.dst≠some d:=fun h _ _ hm=>Xm h _ _ hm
theorem Py(hc:gA P cx)(eS:rD P B.G cx)(ny:yG P B.G inl){Q:Exit→Act→World→Prop}(hfp:∀i o,ops[i]?=some o→(fp i).LX=false→UX cx nb o (fp i))
  (hd:∀o∈ops.toList,∀k,o.dst=some k→k<N):∀(n:Nat) (listed:Array Bool) (σ:St) (γ:Gh) (a:Act) (w:World),adH cx nb bf inl ops fp (·=σ') n listed σ→dB B N γ σ a w →
   (∀γ' a' w',dB B N γ' σ' a' w'→Ext B γ σ.mem w γ' σ'.mem w'→Fr (number 0 ops.toList) a a'→Q .normal a' w')→wpAny P .any ops Q n listed a w:=by
 intro n;induction n with
 | zero =>
   intro listed σ γ a w h hs hK;obtain⟨h1,rfl⟩:=h;exact⟨h1,hK γ a w hs (Ext.refl _ _ _ _) fun t _=>rfl⟩
 | succ n ih =>
   intro listed σ γ a w h hs hK;refine⟨fun h0=>?_,fun i hi=>?_⟩
   ·obtain rfl:=h.1 h0;exact hK γ a w hs (Ext.refl _ _ _ _) fun t _=>rfl
   ·obtain⟨o,σ1,h1,h2,h3,h4⟩:=h.2 i hi;have hmem:o∈ops.toList:=by
     have:=acD h1;simpa using this
    have Zs:(i,o)∈number 0 ops.toList:=by
     have:=Nn (l:=ops.toList) (k:=0) (j:=i) (o:=o) (by simpa using h1);simpa using this
    unfold wpOp;rw[h1];dsimp only;have hw:Region.wanted o (yielded ops a.tmps)=true:=by unfold Region.wanted;rw[h2]
    rw[hw];simp only[nZ];refine .inl (M4 hc eS ny hs (hd o hmem) (Eg (hfp i o h1) h3) fun jC v w1 s1 x1=>?_);refine ih _ σ1 jC _ w1 h4 s1 fun I9 a2 w2 s2 x2 f2=>hK I9 a2 w2 s2 (x1.trans x2) fun t ht=>?_;rw[f2 t ht,gB (Np ht Zs)]
theorem dB.draw{a:Act}{w:World}(h:dB B N γ σ a w)(n:Nat):dB B N γ σ a { w with drawn:=n }∧Ext B γ σ.mem w γ σ.mem { w with drawn:=n }:=by
 obtain⟨m1,m2⟩:=h.ok.far (w':={ w with drawn:=n }) (I':=γ.I) ⟨rfl,rfl,rfl,cU _,fun _ _=>rfl⟩ (fun _ _ k=>k) (fun b o k=>h.ok.we b o k) (fun b o k k'=>absurd k k');exact⟨h.go m2 m1,m2⟩
theorem SG(vi:P.follows .mixedOrders=true)(hc:gA P cx)(eS:rD P B.G cx)(ny:yG P B.G inl){Q:Exit→Act→World→Prop}{id:Nat}{a:Act}{w:World}
  (hd:∀o∈ops.toList,∀k,o.dst=some k→k<N) (hr:(MA cx nb bf inl (number 0 ops.toList) [] σ).run=some σ') (h:dB B N γ σ a w)
  (hK:∀γ' a' w',dB B N γ' σ' a' w'→Ext B γ σ.mem w γ' σ'.mem w'→Fr (number 0 ops.toList) a a'→Q .normal a' w'):(Code.region id ops true).wp P Q a w:=by
 refine wp_region_any vi ?_;obtain⟨fs,f1,fm,f2⟩:=SF (ops:=ops) ops.toList 0 [] σ (fun j o hj=>by simpa using hj) uz.nil hr
 let fp:Nat→Fp:=fun i=>(fs[i]?.map (·.1)).getD ⟨[],[],true,none⟩
 obtain⟨g1,_⟩:=f2 fp fun j f hj=>by simp[fp,hj]
 have key:∀(l:List Oper) (k:Nat) (σ:St),agl cx nb bf inl ops fp k l σ σ'→∀j o,l[j]?=some o→(fp (k+j)).LX=false→UX cx nb o (fp (k+j)):=by
  intro l;induction l with
  | nil=>intro k σ _ j o hj;cases hj
  | cons o l ih =>
    intro k σ hL j o' hj;obtain⟨c1,c2,c2',c3,c4,σ1,c5,c6⟩:=hL;cases j with
    | zero=>obtain rfl:=aN hj;exact c2
    | succ j=>rw[show k+(j+1)=k+1+j by omega];exact ih (k+1) σ1 c6 j o' (by simpa using hj)
 have hA:=adL (ops:=ops) (cx:=cx) (nb:=nb) (bf:=bf) (inl:=inl) (fp:=fp) (σ':=σ') ops.toList 0 (Array.replicate ops.size false) σ (by simp) (by simp) (fun j hj=>by omega)
  (fun j _ hj=>by simp[hj]) (fun i o e hi=>by
   exfalso;rcases xe i ops.size with h'|h'<;>simp[h'] at hi) g1
 obtain⟨s1,x1⟩:=h.draw (w.drawn+1);refine Py hc eS ny (fun i o hi=>by have:=key _ 0 σ g1 i o (by simpa using hi);simpa using this) hd _ _ σ γ a _ (by simpa using hA) s1 fun γ' a' w' s x f=>hK γ' a' w' s (x1.trans x) f
end
end Go.Ge
namespace Go.Ge
open RowKit
section
variable {cx:Ctx} {nb:Nat} {bf:List Nat} {inl:Nat→List aS→St→Tree (aS×St)} {ops:Array Oper} {fp:Nat→Fp}
abbrev OV:=St×(Nat→Bool)
def F5(ops:Array Oper)(o:Oper)(s:OV):Option Bool:=match o.guard with
 | none=>some true
 | some (g,want)=>match(ops[g]?).bind (·.dst) with
   | none=>none
   | some dg=>bif s.2 g then some false else match s.1.slots dg with
     | .data .bool c=>some ((show Bool from c)==want)
     | _=>none
def pX(cx:Ctx)(nb:Nat)(bf:List Nat)(inl:Nat→List aS→St→Tree (aS×St))(ops:Array Oper)(f:Fp)(i:Nat)(o:Oper)(s:OV):Option OV:=match F5 ops o s with
 | none=>none
 | some true=>(jr cx nb bf inl f o s.1).run.map fun σ=>(σ,s.2)
 | some false=>some (s.1.aW o.dst .undef,iz i s.2)
def aj0:St:={ slots:=fun _=>.undef,mem:=fun _=>none }
theorem U1(σ:St)(d:Option Nat):σ.aW d .undef=lay σ d [] aj0:=by
 unfold lay;cases d with
 | none=>rfl
 | some k=>rfl
theorem QV{f:Fp}{i:Nat}{o:Oper}{s s':OV}(hb:f.LX=false)(h:pX cx nb bf inl ops f i o s=some s'):∃b wr τ,F5 ops o s=some b∧s'=(lay s.1 o.dst wr τ,bif b then s.2 else iz i s.2)∧(∀x∈wr,x∈f.wr) ∧
  ∀s0:OV,F5 ops o s0=some b→(b=true→s0.1.only (tmpsOf (fG o.op)) f.rd=s.1.only (tmpsOf (fG o.op)) f.rd)→pX cx nb bf inl ops f i o s0=some (lay s0.1 o.dst wr τ,bif b then s0.2 else iz i s0.2):=by
 unfold pX at h;cases hd:F5 ops o s with
 | none=>rw[hd] at h;cases h
 | some b =>
   rw[hd] at h;cases b with
   | true =>
     simp only at h;obtain⟨σ',h1,rfl⟩:=Option.map_eq_some_iff.1 h;unfold jr at h1;rw[hb] at h1;simp only[jM] at h1;obtain⟨τ,h2,h3⟩:=bind_some h1;obtain rfl:=aN h3;refine⟨true,f.wr,τ,rfl,rfl,fun x hx=>hx,fun s0 h0 h4=>?_⟩;unfold pX;rw[h0];simp only;unfold jr;rw[hb];simp only[jM];rw[Tree.run_bind,h4 rfl,h2];rfl
   | false =>
     simp only at h;obtain rfl:=aN h;refine⟨false,[],aj0,rfl,by rw[U1];rfl,fun x hx=>(nomatch hx),fun s0 h0 _=>?_⟩;unfold pX;rw[h0];simp only;rw[U1];rfl
theorem U2{i j:Nat}{x y:Oper}{f g:Fp}(h:CP ops i j x y f g=true):f.LX=false∧g.LX=false∧(∀b∈f.wr,b∉g.rd)∧(∀b∈g.wr,b∉f.rd)∧Au x j=true∧Au y i=true ∧
  (∀d,x.dst=some d→d∉FR ops y)∧(∀d,y.dst=some d→d∉FR ops x)∧(∀d e,x.dst=some d→y.dst=some e→d≠e):=by
 simp only[CP,dW,nq] at h;obtain⟨⟨⟨⟨⟨⟨⟨h1,h2⟩,h3⟩,h4⟩,g1⟩,g2⟩,h5⟩,h6⟩:=h;refine⟨h1,h2,fun b hb=>Eh h3 hb,fun b hb=>Eh h4 hb,g1,g2,fun d hd=>?_,fun d hd=>?_,fun d e hd he=>?_⟩
 ·rw[hd] at h5;simp only[dW,nq] at h5;exact ku.1 h5.1
 ·rw[hd] at h6;simp only[nq] at h6;exact ku.1 h6
 ·rw[hd,he] at h5;simp only[dW,nq] at h5;intro q;subst q;simp at h5
theorem Nq{i:Nat}{o:Oper}{s:OV}{d:Option Nat}{wr:List Nat}{τ:St}{b:Bool}(hg:Au o i=true)(hd:∀k,d=some k→k∉FR ops o):F5 ops o (lay s.1 d wr τ,bif b then s.2 else iz i s.2)=F5 ops o s:=by
 unfold F5;cases hgd:o.guard with
 | none=>rfl
 | some p =>
   obtain⟨g,want⟩:=p;dsimp only;cases hdg:(ops[g]?).bind (·.dst) with
   | none=>rfl
   | some dg =>
     dsimp only;have hgi:Nat.beq g i=false:=by
      unfold Au at hg;rw[hgd] at hg;simpa using hg
     have h1:(bif b then s.2 else iz i s.2) g=s.2 g:=by
      cases b with
      | true=>rfl
      | false=>simp only[jM,iz,hgi,JX]
     have h2:(lay s.1 d wr τ).slots dg=s.1.slots dg:=by
      unfold lay;cases d with
      | none=>rfl
      | some k =>
        have hne:dg≠k:=fun e=>hd k rfl (by
         unfold FR QI;rw[hgd];dsimp only;rw[hdg];subst e;exact nX ..)
        simp[ja hne]
     rw[h1,h2]
theorem adN(σ:St){di dj:Option Nat}{wi wj:List Nat}{τi τj:St}(hd:∀d e,di=some d→dj=some e→d≠e)(hw:∀b∈wi,b∉wj):lay (lay σ dj wj τj) di wi τi=lay (lay σ di wi τi) dj wj τj:=by
 unfold lay
 congr 1
 ·cases di with
  | none=>rfl
  | some k =>
    cases dj with
    | none=>rfl
    | some e =>
      have hne:=hd k e rfl rfl;funext t;dsimp only;by_cases q1:t=k
      ·subst q1;simp[ja hne]
      ·by_cases q2:t=e
       ·subst q2;simp[ja q1]
       ·simp[ja q1,ja q2]
 ·funext b;dsimp only;cases hw1:dD wi b with
  | false=>rfl
  | true =>
    have:b∉wj:=hw b (qh.1 hw1);simp[ku.2 this]
theorem XB{i j:Nat}{oi oj:Oper}{fi fj:Fp}{s s1 s2:OV}(hap:CP ops i j oi oj fi fj=true)(hsi:∀b∈fi.wr,b∈fi.rd)(h1:pX cx nb bf inl ops fi i oi s=some s1)(h2:pX cx nb bf inl ops fj j oj s1=some s2) :
  ∃s1',pX cx nb bf inl ops fj j oj s=some s1'∧pX cx nb bf inl ops fi i oi s1'=some s2:=by
 obtain⟨b1,b2,w1,w2,g1,g2,d1,d2,d3⟩:=U2 hap;obtain⟨bi,wi,τi,e1,e2,e3,e4⟩:=QV b1 h1;subst e2;obtain⟨bj,wj,τj,k1,k2,k3,k4⟩:=QV b2 h2;subst k2;rw[Nq g2 d1] at k1;have tm:∀{o:Oper} {k:Nat},k∉FR ops o→k∉tmpsOf (fG o.op):=fun h hm=>h (KW _ hm);have hj:=k4 s k1 fun _=>(Hs (fun k hk=>tm (d1 k hk)) (fun b hb=>w1 b (e3 b hb))).symm;refine⟨_,hj,?_⟩;have hi:=e4 (lay s.1 oj.dst wj τj,bif bj then s.2 else iz j s.2) (by rw[Nq g1 d2];exact e1) fun _=>Hs (fun k hk=>tm (d2 k hk)) (fun b hb=>w2 b (k3 b hb));rw[hi]
 congr 1
 refine Prod.ext ?_ ?_
 ·exact adN s.1 d3 (fun b hb hb2=>w2 b (k3 b hb2) (hsi b (e3 b hb)))
 ·dsimp only;cases bi<;>cases bj<;>first|rfl|skip
  simp only[jM];funext k;simp only[iz];cases Nat.beq k i<;>cases Nat.beq k j<;>rfl
def SH(cx:Ctx)(nb:Nat)(bf:List Nat)(inl:Nat→List aS→St→Tree (aS×St))(ops:Array Oper)(fp:Nat→Fp)(Q:OV→Prop):Nat→Array Bool→OV→Prop
 | 0,listed,s=>Region.ready .any ops listed=[]∧Q s
 | n+1,listed,s=>(Region.ready .any ops listed=[]→Q s) ∧
  ∀i∈Region.ready .any ops listed,∃o s',ops[i]?=some o∧pX cx nb bf inl ops (fp i) i o s=some s'∧SH cx nb bf inl ops fp Q n (listed.setIfInBounds i true) s'
variable {Q:OV→Prop}
theorem XC{i:Nat}{oi:Oper}(hi:ops[i]?=some oi)(hsub:∀b∈(fp i).wr,b∈(fp i).rd):∀(n:Nat) (listed:Array Bool) (s s1:OV),
  SE ops listed→(∀j oj,ops[j]?=some oj→j≠i→listed.getD j true=false→Reach ops j i∨CP ops i j oi oj (fp i) (fp j)=true) →
  i∈Region.ready .any ops listed→pX cx nb bf inl ops (fp i) i oi s=some s1→SH cx nb bf inl ops fp Q n (listed.setIfInBounds i true) s1→SH cx nb bf inl ops fp Q (n+1) listed s:=by
 intro n;induction n with
 | zero =>
   intro listed s s1 xD hfree hr h1 H;refine⟨fun h=>(by rw[h] at hr;cases hr),fun j hj=>?_⟩;by_cases hji:j=i
   ·subst hji;exact⟨oi,s1,hi,h1,H⟩
   ·have:=ready_mono hj hji;rw[H.1] at this;cases this
 | succ n ih =>
   intro listed s s1 xD hfree hr h1 H;refine⟨fun h=>(by rw[h] at hr;cases hr),fun j hj=>?_⟩;by_cases hji:j=i
   ·subst hji;exact⟨oi,s1,hi,h1,H⟩
   ·obtain⟨oj,s2,hoj,h2,H2⟩:=H.2 j (ready_mono hj hji);obtain⟨adI,oj',adJ,hall⟩:=mem_ready.1 hj;rw[hoj] at adJ;obtain rfl:=aN adJ;have hap:CP ops i j oi oj (fp i) (fp j)=true:=by
     rcases hfree j oj hoj hji adI with hw|hap
     ·exact(U0 (mem_ready.1 hr).1 (hw.ready xD hj)).elim
     ·exact hap
    obtain⟨s1',k1,k2⟩:=XB hap hsub h1 h2;refine⟨oj,s1',hoj,k1,ih (listed.setIfInBounds j true) s1' s2 (xD.list hj) (fun k ok hk hki hun=>hfree k ok hk hki ?_) (ready_mono hr (Mt hji)) k2 ?_⟩
    ·by_cases hjk:j=k
     ·subst hjk;exact adI
     ·rw[getD_set_ne true hjk] at hun;exact hun
    ·rw[ahn _ _ hji];exact H2
end
end Go.Ge
namespace Go.Ge
open RowKit
section
variable {P:Program} {B:tJ} {N:Nat} {γ:Gh} {cx:Ctx} {nb:Nat} {bf:List Nat} {inl:Nat→List aS→St→Tree (aS×St)} {σ σ':St} {ops:Array Oper} {fp:Nat→Fp}
theorem adO{σ:St}{d:Nat}{v:aS}(h:σ.slots d=v):σ.put d v=σ:=by
 unfold St.put;obtain⟨sl,mm⟩:=σ
 congr 1
 funext t;cases hb:Nat.beq t d with
 | true=>obtain rfl:=gz hb;exact h.symm
 | false=>rfl
def agm(cx:Ctx)(nb:Nat)(bf:List Nat)(inl:Nat→List aS→St→Tree (aS×St))(ops:Array Oper)(fp:Nat→Fp):Nat→List Oper→OV→OV→Prop
 | _,[],s,s'=>s=s'
 | k,o::l,s,s'=>(((fp k).LX=false→UX cx nb o (fp k))∧((fp k).LX=true→(fp k).wr=[]))∧(∀e∈o.after,Region.binds .any e=true→e.on<k) ∧
  (∀j oj,l[j]?=some oj→Reach ops (k+1+j) k∨CP ops k (k+1+j) o oj (fp k) (fp (k+1+j))=true) ∧
  ∃s1,pX cx nb bf inl ops (fp k) k o s=some s1∧agm cx nb bf inl ops fp (k+1) l s1 s'
theorem Kg{i:Nat}{o:Oper}{f fk:Fp}{k m mk:Nat}{ok:Oper}{r:List CO}(h:FT ops i o f m ((k,ok,fk,mk)::r)=true):(Nat.testBit m k=true∨CP ops k i ok o fk f=true)∧FT ops i o f m r=true:=by
 simp only[FT,dW,zv] at h;exact h
theorem Nr{i:Nat}{o:Oper}{r:List (Nat×Oper)}{done:List CO}{sk:Nat→Bool}(h:(vZ cx nb bf inl ops ((i,o)::r) done σ sk).run=some σ') :
  ∃s1:OV,FT ops i o (As cx nb o σ) (mask done o) done=true∧(∀e∈o.after,Region.binds .any e=true→e.on<i)∧pX cx nb bf inl ops (As cx nb o σ) i o (σ,sk)=some s1 ∧
   (vZ cx nb bf inl ops r ((i,o,As cx nb o σ,mask done o)::done) s1.1 s1.2).run=some σ':=by
 simp only[vZ] at h;obtain⟨hc,h1⟩:=aD h;simp only[dW] at hc;obtain⟨hc2,hc3⟩:=hc;have aj1:∀e∈o.after,Region.binds .any e=true→e.on<i:=fun e he hb=>by
  rw[←Array.all_toList,Cx] at hc3;have:=hc3 e (by simpa using he);rw[hb] at this;have:=KV (by simpa [Nat.blt] using this);omega
 suffices ∃s1:OV,pX cx nb bf inl ops (As cx nb o σ) i o (σ,sk)=some s1∧(vZ cx nb bf inl ops r ((i,o,As cx nb o σ,mask done o)::done) s1.1 s1.2).run=some σ' by
  obtain⟨s1,k1,k2⟩:=this;exact⟨s1,hc2,aj1,k1,k2⟩
 split at h1
 ·rename_i hg;obtain⟨σ1,h2,h3⟩:=bind_some h1;refine⟨(σ1,sk),?_,h3⟩;have hd:F5 ops o (σ,sk)=some true:=by unfold F5;rw[hg]
  unfold pX;rw[hd];dsimp only;rw[h2];rfl
 ·rename_i g want hg;split at h1
  ·cases h1
  ·rename_i dg hdg;cases hsk:sk g with
   | true =>
     rw[hsk] at h1;refine⟨(σ.aW o.dst .undef,iz i sk),?_,h1⟩;have hd:F5 ops o (σ,sk)=some false:=by unfold F5;rw[hg];dsimp only;rw[hdg];dsimp only;rw[hsk];rfl
     unfold pX;rw[hd]
   | false =>
     rw[hsk] at h1;simp only[jM] at h1;split at h1
     ·rename_i c Hp;change Bool at c;have hn:=gP h1;have hd:F5 ops o (σ,sk)=some (c==want):=by unfold F5;rw[hg];dsimp only;rw[hdg];dsimp only;rw[hsk];simp only[jM];rw[Hp]
      have hput:=adO Hp;have run:∀{σ1:St},(jr cx nb bf inl (As cx nb o σ) o σ).run=some σ1→(c==want)=true→pX cx nb bf inl ops (As cx nb o σ) i o (σ,sk)=some (σ1,sk):=fun h2 hw=>by
       unfold pX;rw[hd,hw];dsimp only;rw[h2];rfl
      have skip:(c==want)=false→pX cx nb bf inl ops (As cx nb o σ) i o (σ,sk)=some (σ.aW o.dst .undef,iz i sk):=fun hw=>by
       unfold pX;rw[hd,hw]
      cases c with
      | true =>
        simp only[gp] at hn;rw[hput] at hn;cases want with
        | true=>obtain⟨σ1,h2,h3⟩:=bind_some hn;exact⟨(σ1,sk),run h2 rfl,h3⟩
        | false=>exact⟨_,skip rfl,hn⟩
      | false =>
        simp only[jM] at hn;rw[hput] at hn;cases want with
        | true=>exact⟨_,skip rfl,hn⟩
        | false=>obtain⟨σ1,h2,h3⟩:=bind_some hn;exact⟨(σ1,sk),run h2 rfl,h3⟩
     ·cases h1
theorem Pz:∀(l:List Oper) (k:Nat) (done:List CO) (σ:St) (sk:Nat→Bool),(∀j o,l[j]?=some o→ops[k+j]?=some o)→uz ops done→(vZ cx nb bf inl ops (number k l) done σ sk).run=some σ' →
  ∃(fs:List (Fp×Nat)) (sk':Nat→Bool),fs.length=l.length∧(∀j m b,fs[j]?=some m→Nat.testBit m.2 b=true→Reach ops (k+j) b) ∧
   ∀fp:Nat→Fp,(∀j f,fs[j]?=some f→fp (k+j)=f.1)→agm cx nb bf inl ops fp k l (σ,sk) (σ',sk')∧∀j o f,l[j]?=some o→fs[j]?=some f→FT ops (k+j) o (fp (k+j)) f.2 done=true:=by
 intro l;induction l with
 | nil =>
   intro k done σ sk _ _ h;obtain rfl:=aN h;exact⟨[],sk,rfl,fun j m b h=>absurd h (by simp),fun fp _=>⟨rfl,fun j o f hj=>absurd hj (by simp)⟩⟩
 | cons o l ih =>
   intro k done σ sk hl hm h;obtain⟨s1,h2,h3,h4,h5⟩:=Nr (r:=number (k+1) l) h;have hk:ops[k]?=some o:=hl 0 o rfl;obtain⟨fs,sk',f1,fm,f2⟩:=ih (k+1) _ s1.1 s1.2 (fun j o' hj=>by have:=hl (j+1) o' (by simpa using hj);rw[←this];congr 1;omega) (hm.cons hk) h5;refine⟨(As cx nb o σ,mask done o)::fs,sk',by simp[f1],fun j m b hj hb=>?_,fun fp hfp=>?_⟩
   ·cases j with
    | zero=>obtain rfl:=aN hj;exact F4 hm hk hb
    | succ j=>have:=fm j m b (by simpa using hj) hb;rw[show k+(j+1)=k+1+j by omega];exact this
   have h0:fp k=As cx nb o σ:=hfp 0 _ rfl;obtain⟨g1,g2⟩:=f2 fp fun j f hj=>by have:=hfp (j+1) f (by simpa using hj);rw[←this];congr 1;omega
   refine⟨⟨⟨fun hb=>by rw[h0] at hb⊢;exact L6 o σ hb,fun hb=>by rw[h0] at hb⊢;exact adK o σ hb⟩,h3,fun j oj hj=>?_,s1,by rw[h0];exact h4,g1⟩,fun j o' f hj hf=>?_⟩
   ·obtain⟨f,hf⟩:∃f,fs[j]?=some f:=⟨_,kL (by rw[f1];exact(List.getElem?_eq_some_iff.1 hj).1)⟩;rcases(Kg (g2 j oj f hj hf)).1 with q|q
    ·exact .inl (fm j f k hf q)
    ·rw[h0];exact .inr q
   ·cases j with
    | zero =>
      obtain rfl:=aN hj;obtain rfl:=aN hf;rw[An,h0];exact h2
    | succ j =>
      have:=(Kg (g2 j o' f (by simpa using hj) (by simpa using hf))).2;rw[show k+(j+1)=k+1+j by omega];exact this
theorem adP{s':OV}:∀(l:List Oper) (k:Nat) (listed:Array Bool) (s:OV),(∀j,l[j]?=ops[k+j]?)→listed.size=ops.size→(∀j,j<k→j<ops.size→listed.getD j false=true) →
  (∀j,k≤j→j<ops.size→listed.getD j true=false)→SE ops listed→agm cx nb bf inl ops fp k l s s'→SH cx nb bf inl ops fp (·=s') l.length listed s:=by
 intro l;induction l with
 | nil =>
   intro k listed s hl hs h1 h2 xD h;refine⟨?_,h⟩;cases hr:Region.ready .any ops listed with
   | nil=>rfl
   | cons i r =>
     exfalso;have hi:i∈Region.ready .any ops listed:=by rw[hr];exact nX ..
     obtain⟨g1,o,g2,_⟩:=mem_ready.1 hi;have hlt:i<ops.size:=(Array.getElem?_eq_some_iff.1 g2).1;rcases xe i k with hk|hk
     ·have:=h1 i hk hlt;simp[hs,hlt] at this g1;rw[this] at g1;cases g1
     ·have:=hl (i-k);rw[show k+(i-k)=i by omega,g2] at this;cases this
 | cons o l ih =>
   intro k listed s hl hs h1 h2 xD h;have hk:ops[k]?=some o:=by simpa using(hl 0).symm
   have hlt:k<ops.size:=(Array.getElem?_eq_some_iff.1 hk).1;obtain⟨c2,c3,c4,s1,c5,c6⟩:=h;have Nl:k∈Region.ready .any ops listed:=mem_ready.2 ⟨h2 k (cU _) hlt,o,hk,fun e he hb=>by
    have:=c3 e he hb;exact h1 e.on this (by omega)⟩
   refine XC hk (fun b hb=>by
    cases SD:(fp k).LX with
    | true=>rw[c2.2 SD] at hb;cases hb
    | false=>exact(c2.1 SD).sub b hb) l.length listed s s1 xD (fun j oj hj hne hun=>?_) Nl c5 (ih (k+1) _ s1 (fun j=>?_) (by simp[hs]) (fun j hj hjs=>?_) (fun j hj hjs=>?_) (xD.list Nl) c6)
   ·have adM:j<ops.size:=(Array.getElem?_eq_some_iff.1 hj).1;rcases xe j k with hjk|hjk
    ·exfalso;have:=h1 j hjk adM;simp[hs,adM] at this hun;rw[this] at hun;cases hun
    ·have hq:=hl (j-k);rw[show k+(j-k)=j by omega,hj] at hq;obtain⟨m,hm⟩:∃m,j-k=m+1:=⟨j-k-1,by omega⟩;rw[hm] at hq;have:=c4 m oj (by simpa using hq);rw[show k+1+m=j by omega] at this;exact this
   ·have:=hl (j+1);rw[show k+1+j=k+(j+1) by omega,←this];simp
   ·by_cases e:j=k
    ·subst e;simp[hs,hlt]
    ·rw[getD_set_ne false (Mt e)];exact h1 j (by omega) hjs
   ·rw[getD_set_ne true (by omega:k≠j)];exact h2 j (by omega) hjs
theorem XD(hkeep:∀f vals σ v σ',(inl f vals σ).run=some (v,σ')→bD σ σ'):∀(l:List Oper) (k:Nat) (done:List CO) (σ σ':St) (sk:Nat→Bool),(vZ cx nb bf inl ops (number k l) done σ sk).run=some σ'→bD σ σ':=by
 intro l;induction l with
 | nil=>intro k done σ σ' sk h;obtain rfl:=aN h;exact bD.refl _
 | cons o l ih =>
   intro k done σ σ' sk h;obtain⟨s1,h2,h3,h4,h5⟩:=Nr (r:=number (k+1) l) h;refine bD.trans ?_ (ih _ _ _ _ _ h5);unfold pX at h4;split at h4
   ·cases h4
   ·obtain⟨σ1,q1,rfl⟩:=Option.map_eq_some_iff.1 h4;exact CZ hkeep σ1 (Eg (fun hb=>L6 o σ hb) q1)
   ·obtain rfl:=aN h4;exact bD.aW _ _ _
end
end Go.Ge
namespace Go.Ge
open RowKit
section
variable {P:Program} {B:tJ} {N:Nat} {γ:Gh} {cx:Ctx} {nb:Nat} {bf:List Nat} {inl:Nat→List aS→St→Tree (aS×St)} {σ σ':St} {ops:Array Oper} {fp:Nat→Fp}
theorem XE{l:List Oper}{j:Nat}{o:Oper}{d:Nat}(h:l[j]?=some o)(hd:o.dst=some d):d∈lV.IZ l:=by
 induction l generalizing j with
 | nil=>cases h
 | cons p l ih =>
   cases j with
   | zero=>obtain rfl:=aN h;simp only[lV.IZ,hd];exact nX ..
   | succ j =>
     have:=ih (j:=j) (by simpa using h);simp only[lV.IZ];split
     ·exact qU _ this
     ·exact this
theorem Nt:∀{l:List Oper},lV l=true→∀{i j:Nat} {x y:Oper} {d:Nat},i<j→l[i]?=some x→l[j]?=some y→x.dst=some d→y.dst≠some d:=by
 intro l;induction l with
 | nil=>intro _ i j x y d _ h;cases h
 | cons p l ih =>
   intro h i j x y d hij hx hy hd he;simp only[lV,dW] at h;obtain⟨m,rfl⟩:∃m,j=m+1:=⟨j-1,by omega⟩;have hy':l[m]?=some y:=by simpa using hy
   cases i with
   | zero =>
     obtain rfl:=aN hx;have h1:=h.1;rw[hd] at h1;simp only[nq] at h1;exact ku.1 h1 (XE hy' he)
   | succ i=>exact ih h.2 (i:=i) (j:=m) (by omega) (by simpa using hx) hy' hd he
theorem XF(h:lV ops.toList=true){i j:Nat}{x y:Oper}{d:Nat}(hij:i≠j)(hx:ops[i]?=some x)(hy:ops[j]?=some y)(hd:x.dst=some d):y.dst≠some d:=by
 rcases Nat.lt_or_gt_of_ne hij with h1|h1
 ·exact Nt h h1 (by simpa using hx) (by simpa using hy) hd
 ·intro he;exact Nt h h1 (by simpa using hy) (by simpa using hx) he hd
def XG(ops:Array Oper)(sk:Nat→Bool)(listed:Array Bool)(a:Act):Prop:=∀k,sk k=true→yielded ops a.tmps k=none∧listed.getD k true=true
theorem yJ{a:Act}{i k:Nat}{o:Oper}{v:Value}(hnt:lV ops.toList=true)(hi:ops[i]?=some o)(hne:k≠i):yielded ops (a.put o.dst v).tmps k=yielded ops a.tmps k:=by
 unfold yielded;cases hk:ops[k]? with
 | none=>rfl
 | some y =>
   simp only[TR];cases hd:y.dst with
   | none=>rfl
   | some dk =>
     simp only[TR];have:o.dst≠some dk:=XF hnt hne hk hi hd;rw[gB this]
theorem XG.run{sk:Nat→Bool}{listed:Array Bool}{a:Act}{i:Nat}{o:Oper}{v:Value}(h:XG ops sk listed a)(hnt:lV ops.toList=true)(hi:ops[i]?=some o)(hl:listed.getD i true=false):XG ops sk (listed.setIfInBounds i true) (a.put o.dst v):=fun k hk=>by
 obtain⟨h1,h2⟩:=h k hk;have hne:k≠i:=fun e=>by subst e;rw[h2] at hl;cases hl
 exact⟨by rw[yJ hnt hi hne];exact h1,by rw[getD_set_ne true (Mt hne)];exact h2⟩
theorem XG.skip{sk:Nat→Bool}{listed:Array Bool}{a:Act}{i:Nat}{o:Oper}(h:XG ops sk listed a)(hnt:lV ops.toList=true)(hi:ops[i]?=some o)(hl:listed.getD i true=false):XG ops (iz i sk) (listed.setIfInBounds i true) (a.put o.dst Go.undef):=fun k hk=>by
 by_cases hne:k=i
 ·subst hne;refine⟨Hl hi,?_⟩;rcases xe k listed.size with h'|h'
  ·simp[h']
  ·simp[acC h'] at hl
 ·have hk':sk k=true:=by
   simp only[iz,ja hne,JX] at hk;exact hk
  obtain⟨h1,h2⟩:=h k hk';exact⟨by rw[yJ hnt hi hne];exact h1,by rw[getD_set_ne true (Mt hne)];exact h2⟩
theorem PA(hc:gA P cx)(eS:rD P B.G cx)(ny:yG P B.G inl){Q:Exit→Act→World→Prop}(hnt:lV ops.toList=true)(hfp:∀i o,ops[i]?=some o→(fp i).LX=false→UX cx nb o (fp i))
  (hd:∀o∈ops.toList,∀k,o.dst=some k→k<N):∀(n:Nat) (listed:Array Bool) (s:OV) (γ:Gh) (a:Act) (w:World),SH cx nb bf inl ops fp (fun s=>s.1=σ') n listed s→dB B N γ s.1 a w→XG ops s.2 listed a →
   (∀γ' a' w',dB B N γ' σ' a' w'→Ext B γ s.1.mem w γ' σ'.mem w'→Fr (number 0 ops.toList) a a'→Q .normal a' w')→wpAny P .any ops Q n listed a w:=by
 intro n;induction n with
 | zero =>
   intro listed s γ a w h hs hsk hK;obtain⟨h1,h2⟩:=h;rw[←h2] at hK;exact⟨h1,hK γ a w hs (Ext.refl _ _ _ _) fun t _=>rfl⟩
 | succ n ih =>
   intro listed s γ a w h hs hsk hK;refine⟨fun h0=>?_,fun i hi=>?_⟩
   ·have h2:=h.1 h0;rw[←h2] at hK;exact hK γ a w hs (Ext.refl _ _ _ _) fun t _=>rfl
   ·obtain⟨o,s1,h1,h3,h4⟩:=h.2 i hi;have hun:=(mem_ready.1 hi).1;have hmem:o∈ops.toList:=by
     have:=acD h1;simpa using this
    have Zs:(i,o)∈number 0 ops.toList:=by
     have:=Nn (l:=ops.toList) (k:=0) (j:=i) (o:=o) (by simpa using h1);simpa using this
    have hw:∀b,F5 ops o s=some b→Region.wanted o (yielded ops a.tmps)=b:=by
     intro b hb;unfold F5 at hb;cases hgd:o.guard with
     | none =>
       rw[hgd] at hb;obtain rfl:=aN hb;unfold Region.wanted;rw[hgd]
     | some p =>
       obtain⟨g,want⟩:=p;rw[hgd] at hb;dsimp only at hb;split at hb
       ·cases hb
       ·rename_i dg hdg;cases hg:s.2 g with
        | true =>
          rw[hg] at hb;obtain rfl:=aN hb;unfold Region.wanted;rw[hgd];simp only[(hsk g hg).1];rfl
        | false =>
          rw[hg] at hb;simp only[jM] at hb;split at hb
          ·rename_i c Hp;change Bool at c;obtain rfl:=aN hb;have ht:=Ke hs Hp;unfold Region.wanted;rw[hgd];simp only[yielded,hdg,TR,ht];cases c<;>cases want<;>rfl
          ·cases hb
    unfold wpOp;rw[h1];dsimp only;unfold pX at h3;split at h3
    ·cases h3
    ·rename_i aif;obtain⟨σ1,q1,rfl⟩:=Option.map_eq_some_iff.1 h3;rw[hw true aif];simp only[nZ];refine .inl (M4 hc eS ny hs (hd o hmem) (Eg (hfp i o h1) q1) fun jC v w1 s1 x1=>?_);refine ih _ (σ1,s.2) jC _ w1 h4 s1 (hsk.run hnt h1 hun) fun I9 a2 w2 s2 x2 f2=>hK I9 a2 w2 s2 (x1.trans x2) fun t ht=>?_;rw[f2 t ht,gB (Np ht Zs)]
    ·rename_i aif;obtain rfl:=aN h3;rw[hw false aif];simp only[WJ,EI];have hs1:dB B N γ (s.1.aW o.dst .undef) (a.put o.dst Go.undef) w:=hs.xy (hd o hmem) ⟨_,rfl⟩;have hm:(s.1.aW o.dst .undef).mem=s.1.mem:=by cases o.dst<;>rfl
     refine ih _ (s.1.aW o.dst .undef,iz i s.2) γ _ w h4 hs1 (hsk.skip hnt h1 hun) fun I9 a2 w2 s2 x2 f2=>hK I9 a2 w2 s2 (by rw[←hm];exact x2) fun t ht=>?_;rw[f2 t ht,gB (Np ht Zs)]
theorem SH.mono{Q Q':OV→Prop}(hq:∀s,Q s→Q' s):∀{n:Nat} {listed:Array Bool} {s:OV},SH cx nb bf inl ops fp Q n listed s→SH cx nb bf inl ops fp Q' n listed s:=by
 intro n;induction n with
 | zero=>intro listed s h;exact⟨h.1,hq _ h.2⟩
 | succ n ih =>
   intro listed s h;refine⟨fun h0=>hq _ (h.1 h0),fun i hi=>?_⟩;obtain⟨o,s',h1,h2,h3⟩:=h.2 i hi;exact⟨o,s',h1,h2,ih h3⟩
theorem SI(vi:P.follows .mixedOrders=true)(hc:gA P cx)(eS:rD P B.G cx)(ny:yG P B.G inl){Q:Exit→Act→World→Prop}{id:Nat}{a:Act}{w:World}(hnt:lV ops.toList=true)
  (hd:∀o∈ops.toList,∀k,o.dst=some k→k<N) (hr:(vZ cx nb bf inl ops (number 0 ops.toList) [] σ (fun _=>false)).run=some σ') (h:dB B N γ σ a w)
  (hK:∀γ' a' w',dB B N γ' σ' a' w'→Ext B γ σ.mem w γ' σ'.mem w'→Fr (number 0 ops.toList) a a'→Q .normal a' w'):(Code.region id ops true).wp P Q a w:=by
 refine wp_region_any vi ?_;obtain⟨fs,sk',f1,fm,f2⟩:=Pz (ops:=ops) ops.toList 0 [] σ (fun _=>false) (fun j o hj=>by simpa using hj) uz.nil hr
 let fp:Nat→Fp:=fun i=>(fs[i]?.map (·.1)).getD ⟨[],[],true,none⟩
 obtain⟨g1,_⟩:=f2 fp fun j f hj=>by simp[fp,hj]
 have key:∀(l:List Oper) (k:Nat) (s s':OV),agm cx nb bf inl ops fp k l s s'→∀j o,l[j]?=some o→(fp (k+j)).LX=false→UX cx nb o (fp (k+j)):=by
  intro l;induction l with
  | nil=>intro k s s' _ j o hj;cases hj
  | cons o l ih =>
    intro k s s' hL j o' hj;obtain⟨c2,c3,c4,s1,c5,c6⟩:=hL;cases j with
    | zero=>obtain rfl:=aN hj;exact c2.1
    | succ j=>rw[show k+(j+1)=k+1+j by omega];exact ih (k+1) s1 s' c6 j o' (by simpa using hj)
 have hA:=adP (ops:=ops) (cx:=cx) (nb:=nb) (bf:=bf) (inl:=inl) (fp:=fp) (s':=(σ',sk')) ops.toList 0 (Array.replicate ops.size false) (σ,fun _=>false) (by simp) (by simp) (fun j hj=>by omega)
  (fun j _ hj=>by simp[hj]) (fun i o e hi=>by
   exfalso;rcases xe i ops.size with h'|h'<;>simp[h'] at hi) g1
 have hA':=SH.mono (Q':=fun s:OV=>s.1=σ') (fun s hs=>by rw[hs]) hA;obtain⟨s1,x1⟩:=h.draw (w.drawn+1);refine PA hc eS ny hnt (fun i o hi=>by have:=key _ 0 _ _ g1 i o (by simpa using hi);simpa using this) hd _ _ (σ,fun _=>false) γ a _ (by simpa using hA') s1 (fun k hk=>by cases hk) fun γ' a' w' s x f=>hK γ' a' w' s (x1.trans x) f
theorem U3(vi:P.follows .mixedOrders=true)(hc:gA P cx)(eS:rD P B.G cx)(ny:yG P B.G inl){Q:Exit→Act→World→Prop}{id:Nat}{a:Act}{w:World}
  (hd:∀o∈ops.toList,∀k,o.dst=some k→k<N) (hr:(Av cx nb bf inl ops σ).run=some σ') (h:dB B N γ σ a w)
  (hK:∀γ' a' w',dB B N γ' σ' a' w'→Ext B γ σ.mem w γ' σ'.mem w'→Fr (number 0 ops.toList) a a'→Q .normal a' w'):(Code.region id ops true).wp P Q a w:=by
 unfold Av at hr;cases hg:ops.any fun o=>o.guard.isSome with
 | true =>
   rw[hg] at hr;obtain⟨hnt,hr2⟩:=aD (show(bif lV ops.toList then vZ cx nb bf inl ops (number 0 ops.toList) [] σ (fun _=>false) else .fail).run=some σ' from hr);exact SI vi hc eS ny hnt hd hr2 h hK
 | false =>
   rw[hg] at hr;exact SG vi hc eS ny hd hr h hK
end
end Go.Ge
namespace Go.Ge
open RowKit
def wC(f:Nat→Box→Bool)(mem:Nat→Option Box):Nat→Option Box:=fun b=>match mem b with|some bx=>some { bx with lk:=f b bx }|none=>none
section
variable {P:Program} {B:tJ} {N:Nat} {γ XH:Gh} {mem m0 me m1:Nat→Option Box} {w w0:World} {f:Nat→Box→Bool}
theorem QW{b:Nat}{bx:Box}(h:mem b=some bx):wC f mem b=some { bx with lk:=f b bx }:=by simp[wC,h]
theorem U4{b:Nat}{bx:Box}(h:wC f mem b=some bx):∃dM,mem b=some dM∧bx={ dM with lk:=f b dM }:=by
 simp only[wC] at h;split at h
 ·rename_i dM h0;exact⟨dM,h0,(aN h).symm⟩
 ·cases h
theorem Ext.wC:Ext B γ mem w γ (wC f mem) w where
 below:=xw.refl _ _
 I:=fun _ _ h=>h
 sg:=fun _ _ h=>.inl h
 cells:=fun _ _ _=>rfl
 boxes:=fun b bx hb=>⟨_,QW hb,cU _,fun _=>⟨rfl,rfl,rfl⟩⟩
theorem bK.wC(h:bK B γ mem w):bK B γ (Go.Ge.wC f mem) w:=by
 have hne:∀{b},Go.Ge.wC f mem b≠none→mem b≠none:=by
  intro b hb hq;apply hb;simp[Go.Ge.wC,hq]
 exact
  { bp:=h.bp
    base:=h.base
    boxes:=fun b bx hb=>by
     obtain⟨dM,h0,rfl⟩:=U4 hb;exact(h.boxes b dM h0).keep (Ext.wC (B:=B) (γ:=γ) (w:=w) (f:=f) (mem:=mem)) rfl (fun _ _ _=>rfl)
    inj:=fun b c blk k k' hb hc h1 h2=>h.inj b c blk k k' (hne hb) (hne hc) h1 h2
    fresh:=fun b blk k hb h1=>h.fresh b blk k (hne hb) h1
    we:=h.we
    sep:=fun b bx blk k off hb h1 hi=>by
     obtain⟨dM,h0,rfl⟩:=U4 hb;exact h.sep b dM blk k off h0 h1 hi }
theorem dB.wC{σ:St}{a:Act}(h:dB B N γ σ a w):dB B N γ { σ with mem:=Go.Ge.wC f σ.mem } a w:=h.go Ext.wC h.ok.wC
def Mid(m0 me m1:Nat→Option Box):Prop:=∀b dM,m0 b=some dM→∃zH,m1 b=some zH∧dM.aC≤zH.aC ∧
 (zH.aC=dM.aC→∃Cy,me b=some Cy∧Cy.aC=dM.aC∧Cy.buf=zH.buf∧Cy.row=zH.row)
theorem n9.down(hm:Mid m0 me m1){b aC:Nat}{K0 K K':Box→Prop}(h0:n9 m0 b aC K0)(h:n9 me b aC K)(hK:∀Cy zH:Box,Cy.buf=zH.buf→Cy.row=zH.row→K Cy→K' zH):n9 m1 b aC K':=by
 obtain⟨dM,h1,h2,_⟩:=h0;obtain⟨Cy,k1,k2,k3⟩:=h;obtain⟨zH,l1,l2,l3⟩:=hm b dM h1;refine⟨zH,l1,by omega,fun e=>?_⟩;obtain⟨alZ,q1,q2,q3,q4⟩:=l3 (by omega);rw[k1] at q1;obtain rfl:=aN q1;exact hK Cy zH q3 q4 (k3 (by omega))
theorem cI.down(hm:Mid m0 me m1):∀{v:aS} {m:Mode} {us vs:List Value},cI XH m0 w0 v m us→cI γ me w v m vs→cI γ m1 w v m vs:=by
 intro v;induction v with
 | undef=>intro m us vs _ r;cases m<;>exact r
 | data t x=>intro m us vs _ r;cases m<;>exact r
 | qd=>intro m us vs _ r;cases m<;>exact r
 | tO=>intro m us vs _ r;cases m<;>exact r
 | cell t x=>intro m us vs _ r;cases m<;>exact r
 | nl=>intro m us vs _ r;cases m<;>exact r
 | u7=>intro m us vs _ r;cases m<;>exact r
 | yC b aC =>
   intro m us vs r0 r;cases m with
   | many=>exact r
   | cells=>exact⟨r.1,r0.2.down hm r.2 fun _ _ _ _ k=>k⟩
   | val=>exact⟨r.1,r0.2.down hm r.2 fun _ _ _ _ k=>k⟩
 | ptr b aC p =>
   intro m us vs r0 r;cases m with
   | many=>exact r
   | cells=>exact⟨r.1,r0.2.down hm r.2 fun _ _ _ _ k=>k⟩
   | val=>exact⟨r.1,r0.2.down hm r.2 fun _ _ _ _ k=>k⟩
 | whole b aC =>
   intro m us vs r0 r;cases m with
   | many=>exact r
   | cells=>exact⟨r.1,r0.2.down hm r.2 fun _ _ e1 e2 k=>by rw[←e1,←e2];exact k⟩
   | val=>exact⟨r.1,r0.2.down hm r.2 fun _ _ e1 e2 k=>by rw[←e1,←e2];exact k⟩
 | part b aC lo n =>
   intro m us vs r0 r;cases m with
   | many=>exact r
   | cells=>exact⟨r.1,r0.2.down hm r.2 fun _ _ e1 e2 k=>by unfold GS at k⊢;rw[←e1,←e2];exact k⟩
   | val=>exact⟨r.1,r0.2.down hm r.2 fun _ _ e1 e2 k=>by unfold GS at k⊢;rw[←e1,←e2];exact k⟩
 | win b aC q e k lo n =>
   intro m us vs r0 r;cases m with
   | many=>exact r
   | cells=>exact⟨r.1,r0.2.down hm r.2 fun _ _ e1 e2 k=>k⟩
   | val=>exact⟨r.1,r0.2.down hm r.2 fun _ _ e1 e2 k=>k⟩
 | fn f caps =>
   intro m us vs r0 r;cases m with
   | many=>exact r
   | cells=>obtain⟨_,_,_,s⟩:=r0;obtain⟨arr,r1,r2,r3⟩:=r;exact⟨arr,r1,r2,fun i b aC hc=>(s i b aC hc).down hm (r3 i b aC hc) fun _ _ _ _ k=>k⟩
   | val=>obtain⟨_,_,_,s⟩:=r0;obtain⟨arr,r1,r2,r3⟩:=r;exact⟨arr,r1,r2,fun i b aC hc=>(s i b aC hc).down hm (r3 i b aC hc) fun _ _ _ _ k=>k⟩
 | mix a b kM nV =>
   intro m us vs r0 r;cases m with
   | cells=>obtain⟨_,_,_,s1,s2⟩:=r0;obtain⟨c1,c2,r0,r1,r2⟩:=r;exact⟨c1,c2,r0,kM s1 r1,nV s2 r2⟩
   | val=>obtain⟨_,_,_,s1,s2⟩:=r0;obtain⟨c1,c2,r0,r1,r2⟩:=r;exact⟨c1,c2,r0,kM s1 r1,nV s2 r2⟩
   | many=>obtain⟨_,_,_,s1,s2⟩:=r0;obtain⟨c1,c2,r0,r1,r2⟩:=r;exact⟨c1,c2,r0,kM s1 r1,nV s2 r2⟩
 | FQ u ih =>
   intro m us vs r0 r;cases m with
   | val=>obtain⟨_,_,s⟩:=r0;obtain⟨arr,r1,r2⟩:=r;exact⟨arr,r1,ih s r2⟩
   | cells=>exact r
   | many=>exact r
def adQ(M V:Nat→Bool)(m0 me m1:Nat→Option Box):Prop:=∀b dM,m0 b=some dM→∃Cy zH,me b=some Cy∧m1 b=some zH∧Cy.buf=dM.buf∧zH.buf=dM.buf∧zH.row=Cy.row ∧
 zH.aC=(bif M b&&(dM.buf||V b) then dM.aC+1 else dM.aC)∧((M b&&(dM.buf||V b))=false→Cy.aC=dM.aC)
theorem adQ.mid{M V:Nat→Bool}(h:adQ M V m0 me m1):Mid m0 me m1:=fun b dM hb=>by
 obtain⟨Cy,zH,h1,h2,h3,h4,h5,h6,h7⟩:=h b dM hb;cases hc:(M b&&(dM.buf||V b)) with
 | true =>
   rw[hc] at h6;simp only[gp] at h6;exact⟨zH,h2,by omega,fun e=>absurd e (by omega)⟩
 | false =>
   rw[hc] at h6;simp only[jM] at h6;exact⟨zH,h2,by omega,fun e=>⟨Cy,h1,h7 hc,h3.trans h4.symm,h5.symm⟩⟩
def Nu:Sh→aS→Prop
 | .d _,_=>True
 | .k v,u=>v=u
 | .m a b,u=>∃p q,u=.mix p q∧Nu a p∧Nu b q
theorem agn(v:aS):Nu (afT v) v:=by
 induction v with
 | mix a b kM nV=>exact⟨a,b,rfl,kM,nV⟩
 | data t x=>trivial
 | _=>rfl
theorem adR{t:Ty}{v:aS}{y:t.den}(h:toD t v=some y){m:Mode}{vs:List Value}(hv:cI γ me w v m vs):cI γ m1 w (.data t y) m vs:=by
 unfold toD at h;split at h
 ·obtain⟨q,hq⟩:=Ty.lT h;subst q;subst hq;cases m<;>exact hv
 ·split at h
  ·obtain rfl:=aN h;cases m with
   | many=>exact hv
   | cells=>exact .inl ⟨⟨none,hv⟩,rfl⟩
   | val=>exact⟨[.slice none 0 0],.inl ⟨⟨none,rfl⟩,rfl⟩,(show vs=[Value.slice none 0 0] from hv)⟩
  ·cases h
 ·cases h
theorem U5{M V:Nat→Bool}{kU rH:St}(hc:adQ M V kU.mem rH.mem m1)(hV:∀b x,V b=true→kU.mem b=some x→x.buf=false){u v:aS}(hs:Bg V kU rH u v=true){m:Mode}{us vs:List Value}(h0:cI XH kU.mem w0 u m us)(he:cI γ rH.mem w v m vs) :
  cI γ m1 w (bump M V u) m vs:=by
 unfold Bg at hs;split at hs
 ·rename_i b aC p b' WZ p';simp only[dW] at hs;obtain⟨⟨h1,h3⟩,h2⟩:=hs;obtain rfl:=gz h1;obtain rfl:=WO h3;have still:aC=WZ→(M b&&V b)=false→cI γ m1 w (bump M V (.ptr b aC p)) m vs:=by
   intro e q;subst e;have e:bump M V (.ptr b aC p)=.ptr b aC p:=by simp only[bump,q];rfl
   rw[e];exact cI.down hc.mid h0 he
  cases hVb:V b with
  | false =>
    rw[hVb] at h2;exact still (gz h2) (by simp[hVb])
  | true =>
    rw[hVb] at h2;simp only[gp] at h2;split at h2
    ·rename_i x y hx hy;simp only[dW] at h2;have h4:=gz h2.1;have h5:=gz h2.2;obtain⟨Cy,zH,g1,g2,g3,g4,g5,g6,g7⟩:=hc b x hx;rw[hy] at g1;obtain rfl:=aN g1;cases hM:M b with
     | false=>exact still (by have:=g7 (by simp[hM]);omega) (by simp[hM])
     | true =>
       have e:bump M V (.ptr b aC p)=.ptr b (aC+1) p:=by simp only[bump,hM,hVb];rfl
       have hv1:zH.aC=aC+1:=by rw[g6,hM,hVb];simp;omega
       rw[e];cases m with
       | many=>exact he
       | cells=>exact⟨he.1,zH,g2,by omega,fun _=>bC hy h5 he.2⟩
       | val=>exact⟨he.1,zH,g2,by omega,fun _=>bC hy h5 he.2⟩
    ·cases h2
 ·rename_i b aC b' WZ;simp only[dW] at hs;obtain⟨h1,h2⟩:=hs;obtain rfl:=gz h1;split at h2
  ·rename_i x y hx hy;simp only[dW] at h2;obtain⟨⟨h3,h4⟩,h5⟩:=h2;have h3:=gz h3;have h4:=gz h4;obtain⟨Cy,zH,g1,g2,g3,g4,g5,g6,g7⟩:=hc b x hx;rw[hy] at g1;obtain rfl:=aN g1;have hxb:x.buf=true:=by rw[←g3];exact h5
   have key:∀v1,zH.aC=v1→((∃v,vs=[v]∧v.oneCell'=true)∧n9 rH.mem b WZ fun bx=>∃e n,bx.buf=true∧bx.row=some (e,n) ∧
     ((γ.loc b=none∧vs=[.slice none 0 0])∨∃blk cap,γ.loc b=some (blk,cap)∧vs=[.slice (some ⟨blk,0,none⟩) n cap])) →
     ((∃v,vs=[v]∧v.oneCell'=true)∧n9 m1 b v1 fun bx=>∃e n,bx.buf=true∧bx.row=some (e,n) ∧
     ((γ.loc b=none∧vs=[.slice none 0 0])∨∃blk cap,γ.loc b=some (blk,cap)∧vs=[.slice (some ⟨blk,0,none⟩) n cap])):=by
    intro v1 hv1 hr;have hk:=bC hy h4 hr.2;exact⟨hr.1,zH,g2,by omega,fun _=>by obtain⟨e,n,q1,q2,q3⟩:=hk;exact⟨e,n,g4.trans hxb,g5.trans q2,q3⟩⟩
   have hv1:∃v1,bump M V (.whole b aC)=.whole b v1∧zH.aC=v1:=by
    unfold bump;cases hM:M b with
    | true=>exact⟨aC+1,by simp[hM],by rw[g6,hM,hxb,←h3];rfl⟩
    | false=>exact⟨aC,by simp[hM],by rw[g6,hM,←h3];rfl⟩
   obtain⟨v1,e1,e2⟩:=hv1;rw[e1];cases m with
   | many=>exact he
   | cells=>exact key v1 e2 he
   | val=>exact key v1 e2 he
  ·cases h2
 ·rename_i f caps f' anw;simp only[dW] at hs;obtain rfl:=gz hs.1;obtain rfl:=WQ hs.2;exact cI.down hc.mid h0 he
 ·cases m<;>exact he
 ·cases m<;>exact he
 ·simp only[dW] at hs;obtain rfl:=gz hs.1;obtain rfl:=gz hs.2;exact cI.down hc.mid h0 he
 ·cases hs
theorem adS{V:Nat→Bool}{kU σ:St}{u v:aS}:Sh.out V kU σ (.k u) v=bif Bg V kU σ u v then some () else none:=rfl
theorem aj4{V:Nat→Bool}{kU σ:St}{a b:Sh}{v w:aS}:Sh.out V kU σ (.m a b) (.mix v w)=(match Sh.out V kU σ a v,Sh.out V kU σ b w with
 | some x,some y=>some ((x,y):(Sh.m a b).ty.den)
 | _,_=>none):=rfl
theorem Zt{M V:Nat→Bool}{kU rH:St}(hc:adQ M V kU.mem rH.mem m1)(hV:∀b x,V b=true→kU.mem b=some x→x.buf=false):∀{s:Sh} {u v:aS} {y:s.ty.den} {m:Mode} {us vs:List Value},Nu s u→Sh.out V kU rH s v=some y →
  cI XH kU.mem w0 u m us→cI γ rH.mem w v m vs→cI γ m1 w (s.tI M V y) m vs:=by
 intro s;induction s with
 | d t=>intro u v y m us vs _ ho _ he;exact adR ho he
 | k x =>
   intro u v y m us vs hk ho h0 he;obtain rfl:=hk;rw[adS] at ho;cases hs:Bg V kU rH x v with
   | false=>rw[hs] at ho;cases ho
   | true=>exact U5 hc hV hs h0 he
 | m a b kM nV =>
   intro u v y m us vs hk ho h0 he;obtain⟨p,q,rfl,k1,k2⟩:=hk;cases v with
   | mix v1 v2 =>
     rw[aj4] at ho;split at ho
     ·rename_i y1 y2 o1 o2;obtain rfl:=aN ho;cases m with
      | cells=>obtain⟨_,_,_,s1,s2⟩:=h0;obtain⟨c1,c2,r0,r1,r2⟩:=he;exact⟨c1,c2,r0,kM k1 o1 s1 r1,nV k2 o2 s2 r2⟩
      | val=>obtain⟨_,_,_,s1,s2⟩:=h0;obtain⟨c1,c2,r0,r1,r2⟩:=he;exact⟨c1,c2,r0,kM k1 o1 s1 r1,nV k2 o2 s2 r2⟩
      | many=>obtain⟨_,_,_,s1,s2⟩:=h0;obtain⟨c1,c2,r0,r1,r2⟩:=he;exact⟨c1,c2,r0,kM k1 o1 s1 r1,nV k2 o2 s2 r2⟩
     ·cases ho
   | _=>cases ho
theorem aaO{t:Ty}{v:aS}{y:t.den}(h:toD t v=some y):(v=.data t y)∨(v=.qd∧∃e,t=.slice e):=by
 unfold toD at h;split at h
 ·obtain⟨q,hq⟩:=Ty.lT h;subst q;subst hq;exact .inl rfl
 ·split at h
  ·exact .inr ⟨rfl,_,rfl⟩
  ·cases h
 ·cases h
theorem Zu{M V:Nat→Bool}{kU rH:St}{s:Sh}{Cy zH:Box}{y:s.ty.den}(ho:Sh.out V kU rH s Cy.val=some y)(hv:zH.val=s.tI M V y)(hb:zH.buf=Cy.buf)(bO:Cy.buf=true→∃e l,Cy.val=.data (.slice e) l) :
  zH.row=Cy.row∧(Cy.buf=true→zH.val=Cy.val):=by
 have aj5:∀t x,Cy.val=.data t x→zH.val=Cy.val:=by
  intro t x hx;rw[hx] at ho;cases s with
  | d u =>
    obtain⟨q,hq⟩:=Ty.lT (show Ty.to t u x=some y from ho);subst q;subst hq;rw[hv,hx];rfl
  | k z=>rw[adS] at ho;unfold Bg at ho;cases z<;>cases ho
  | m a b=>cases ho
 have hrow:∀{b1 b2:Box},b1.buf=b2.buf→b1.val=b2.val→b1.row=b2.row:=by
  intro b1 b2 h1 h2;unfold Box.row;rw[h1,h2]
 cases hx:Cy.val with
 | data t x =>
   have:=aj5 t x hx;exact⟨hrow hb this,fun _=>by rw[this,hx]⟩
 | _ =>
   refine⟨?_,fun h=>by obtain⟨e,l,q⟩:=bO h;rw[hx] at q;cases q⟩;cases hq:Cy.buf with
   | true=>obtain⟨e,l,q⟩:=bO hq;rw[hx] at q;cases q
   | false =>
     have e1:Cy.row=none:=by unfold Box.row;rw[hq,hx]
     rw[e1];unfold Box.row;rw[hb,hq,hv];rw[hx] at ho;cases s with
     | d u =>
       rcases aaO (show toD u _=some y from ho) with q|⟨q,e,rfl⟩
       ·first|cases q|exact absurd hx (by rw[q];intro k;cases k)
       ·rfl
     | k z =>
       rw[adS] at ho;simp only[Sh.tI];have hnd:∀t x,bump M V z≠.data t x:=by
        intro t x q;cases z with
        | data t' x'=>unfold Bg at ho;cases ho
        | whole b v=>simp only[bump] at q;cases hM:M b<;>rw[hM] at q<;>cases q
        | ptr b v p=>simp only[bump] at q;cases hM:(M b&&V b)<;>rw[hM] at q<;>cases q
        | _=>cases q
       split<;>first|rfl|(rename_i hh;exact absurd hh (hnd _ _))
     | m a b=>rfl
end
end Go.Ge
namespace Go.Ge
open RowKit
section
variable {P:Program} {B:tJ} {N:Nat} {γ XH:Gh} {w w0:World} {kU rH:St} {a a0:Act} {M V:Nat→Bool}
theorem adT:∀{l:List (Nat×Sh)} {x:(tyS l).den},afU V kU rH l=some x→∀t,(RW M V l x t=none∧∀s,(t,s)∉l)∨∃s y,(t,s)∈l∧Sh.out V kU rH s (rH.slots t)=some y∧RW M V l x t=some (s.tI M V y):=by
 intro l;induction l with
 | nil=>intro x _ t;exact .inl ⟨rfl,fun s h=>by cases h⟩
 | cons p r ih =>
   obtain⟨i,s⟩:=p;intro x h t;simp only[afU] at h;split at h
   ·rename_i y z h1 h2;obtain rfl:=aN h;by_cases e:t=i
    ·subst e;refine .inr ⟨s,y,nX ..,h1,?_⟩;show(bif Nat.beq t t then some (s.tI M V y) else RW M V r z t)=_
     simp
    ·have hb:Nat.beq t i=false:=ja e;have hq:RW M V ((i,s)::r) ((y,z):(tyS ((i,s)::r)).den) t=RW M V r z t:=by
      show(bif Nat.beq t i then some (s.tI M V y) else RW M V r z t)=_
      rw[hb];rfl
     rw[hq];rcases ih h2 t with ⟨k1,k2⟩|⟨s',y',k1,k2,k3⟩
     ·refine .inl ⟨k1,fun s' hm=>?_⟩;rcases List.mem_cons.1 hm with hm|hm
      ·exact e (e9 hm).1
      ·exact k2 s' hm
     ·exact .inr ⟨s',y',qU _ k1,k2,k3⟩
   ·cases h
theorem F6{fz mv:Bool}{bx b:Box}(h:J1 fz mv bx b=true):(bx.ro=true→(b.ro||fz)=true)∧bx.buf=b.buf∧((b.buf||mv)=false→bx.aC=b.aC):=by
 simp only[J1,dW,zv,Zk] at h;obtain⟨⟨⟨h1,h2⟩,h3⟩,h4⟩:=h;refine⟨fun hr=>by rcases h1 with h1|h1<;>simp[h1,←hr],h3,fun hb=>?_⟩;obtain⟨hb,hm⟩:=Bool.or_eq_false_iff.1 hb;rcases h4 with (h4|h4)|h4
 ·rw[h3,hb] at h4;cases h4
 ·rw[hm] at h4;cases h4
 ·exact gz h4
theorem aaP{fz mv:Bool}{bx b:Box}(h:J1 fz mv bx b=true):bx.tid=b.tid:=by
 simp only[J1,dW] at h;exact gz h.1.1.2
theorem U6{fz:Bool}:∀{l:List (Nat×Sh×Box)} {x:(tyM l).den},afV V fz kU rH l=some x→∀t,(MB fz M V l x t=none∧Ah l t=false) ∨
  ∃s b y bx,Ah l t=true∧(t,s,b)∈l∧rH.mem t=some bx∧J1 fz (V t) bx b=true∧Sh.out V kU rH s bx.val=some y∧MB fz M V l x t=some { b with val:=s.tI M V y,ro:=b.ro||fz,aC:=bif b.buf||V t then b.aC+1 else b.aC }:=by
 intro l;induction l with
 | nil=>intro x _ t;exact .inl ⟨rfl,rfl⟩
 | cons p r ih =>
   obtain⟨i,s,b⟩:=p;intro x h t;simp only[afV] at h;split at h
   ·rename_i bx tK;cases hok:J1 fz (V i) bx b with
    | false=>rw[hok] at h;cases h
    | true =>
      rw[hok] at h;simp only[gp] at h;split at h
      ·rename_i y z h1 h2;obtain rfl:=aN h;by_cases e:t=i
       ·subst e;refine .inr ⟨s,b,y,bx,by simp[Ah],nX ..,tK,hok,h1,?_⟩;show(bif Nat.beq t t then some { b with val:=s.tI M V y,ro:=b.ro||fz,aC:=bif b.buf||V t then b.aC+1 else b.aC } else MB fz M V r z t)=_
        simp
       ·have hb:Nat.beq t i=false:=ja e;have hq:MB fz M V ((i,s,b)::r) ((y,z):(tyM ((i,s,b)::r)).den) t=MB fz M V r z t:=by
         show(bif Nat.beq t i then some { b with val:=s.tI M V y,ro:=b.ro||fz,aC:=bif b.buf||V t then b.aC+1 else b.aC } else MB fz M V r z t)=_
         rw[hb];rfl
        have hq2:Ah ((i,s,b)::r) t=Ah r t:=by simp only[Ah,hb,JX]
        rw[hq,hq2];rcases ih h2 t with k|⟨s',b',y',iJ,k0,k1,k2⟩
        ·exact .inl k
        ·exact .inr ⟨s',b',y',iJ,k0,qU _ k1,k2⟩
      ·cases h
   ·cases h
structure Ei (k:Carry) (kU:St):Prop where
 S:∀t s,(t,s)∈k.S→Nu s (kU.slots t)
 M:∀b s bx,(b,s,bx)∈k.M→kU.mem b=some bx∧Nu s bx.val∧bx.lk=false
 V:∀b x,k.V b=true→kU.mem b=some x→x.buf=false
theorem aih{cx:Ctx}{σ:St}:∀{p:List (Nat×Nat)} {l:List (Nat×Sh)},mkS cx σ p=some l→∀t s,(t,s)∈l→Nu s (σ.slots t):=by
 intro p;induction p with
 | nil=>intro l h t s hm;obtain rfl:=aN h;cases hm
 | cons q r ih =>
   obtain⟨i,ty⟩:=q;intro l h t s hm;simp only[mkS] at h;split at h
   ·cases h
   ·rename_i l' hl';have fin:∀s0,Nu s0 (σ.slots i)→some ((i,s0)::l')=some l→Nu s (σ.slots t):=by
     intro s0 h0 e;obtain rfl:=aN e;rcases List.mem_cons.1 hm with hm|hm
     ·obtain⟨rfl,rfl⟩:=e9 hm;exact h0
     ·exact ih hl' t s hm
    cases hty:Nat.beq ty 999999 with
    | true =>
      rw[hty] at h;simp only[gp] at h;split at h
      ·rename_i b v hv;exact fin (.k _) hv.symm h
      ·obtain rfl:=aN h;exact ih hl' t s hm
    | false =>
    rw[hty] at h;simp only[jM] at h;split at h
    ·exact fin (.d _) trivial h
    ·split at h
     ·exact fin (.d _) trivial h
     ·cases h
    ·split at h
     ·exact fin (.d _) trivial h
     ·cases h
    ·exact fin (.k _) rfl h
theorem adU{σ:St}:∀{p:List Nat} {l:List (Nat×Sh×Box)},mkM σ p=some l→∀b s bx,(b,s,bx)∈l→σ.mem b=some bx∧Nu s bx.val∧bx.lk=false:=by
 intro p;induction p with
 | nil=>intro l h b s bx hm;obtain rfl:=aN h;cases hm
 | cons i r ih =>
   intro l h b s bx hm;simp only[mkM] at h;split at h
   ·rename_i dM l' hb hl';cases hlk:dM.lk with
    | true=>rw[hlk] at h;cases h
    | false =>
      rw[hlk] at h;obtain rfl:=aN h;rcases List.mem_cons.1 hm with hm|hm
      ·injection hm with e1 hm
       injection hm with e2 e3
       subst e1;subst e2;subst e3;exact⟨hb,agn _,hlk⟩
      ·exact ih hl' b s bx hm
   ·cases h
theorem Bn{cx:Ctx}{nb:Nat}{bf:List Nat}{σ:St}{p:Uk}{k:Carry}(h:L2 cx nb bf σ p=some k):Ei k σ:=by
 unfold L2 at h;split at h
 ·rename_i s m hs hm;obtain rfl:=aN h;refine⟨aih hs,adU hm,fun b x hb hx=>?_⟩;simp only[ajA,hx,dW,nq] at hb;exact hb.2.1
 ·cases h
theorem ago{l:List (Nat×Sh×Box)}{b:Nat}(h:Ah l b=true):∃s bx,(b,s,bx)∈l:=by
 induction l with
 | nil=>cases h
 | cons p r ih =>
   obtain⟨i,s,bx⟩:=p;simp only[Ah,zv] at h;rcases h with h|h
   ·obtain rfl:=gz h;exact⟨s,bx,nX ..⟩
   ·obtain⟨s',iJ,hm⟩:=ih h;exact⟨s',iJ,qU _ hm⟩
theorem vj{k:Carry}{fz lock:Bool}{wr:List Nat}{x:k.ty.den}(hk:Ei k kU)(h0:dB B N XH kU a0 w0)(he:dB B N γ rH a w)(hx:Ext B XH kU.mem w0 γ rH.mem w)
  (hf:∀t,dD wr t=false→a.tmps[t]?=a0.tmps[t]?) (hkeep:∀b bx,kU.mem b=some bx→Ah k.M b=false→∃bl,rH.mem b=some { bx with lk:=bl }) (ho:k.out fz kU rH=some x) :
  dB B N γ (k.tI fz lock wr kU x) a w∧Ext B XH kU.mem w0 γ (k.tI fz lock wr kU x).mem w:=by
 unfold Carry.out at ho;split at ho
 case h_2=>cases ho
 rename_i xs xm hxs hxm;obtain rfl:=aN ho;generalize aj6:k.tI fz lock wr kU (xs,xm)=σ1;have Hp:∀t,σ1.slots t=match RW (Ah k.M) k.V k.S xs t with|some v=>v|none=>bif dD wr t then .undef else kU.slots t:=fun t=>by rw[←aj6];rfl
 have hmem:∀b,σ1.mem b=match MB fz (Ah k.M) k.V k.M xm b with|some bx=>some bx|none=>match kU.mem b with|some bx=>some { bx with lk:=bx.lk||lock }|none=>none:=fun b=>by rw[←aj6];rfl
 have agp:∀b,Ah k.M b=false→σ1.mem b=match kU.mem b with|some bx=>some { bx with lk:=bx.lk||lock }|none=>none:=by
  intro b hb;rw[hmem b];rcases U6 (M:=Ah k.M) hxm b with ⟨q,_⟩|⟨s,b',y,bx,q,_⟩
  ·rw[q]
  ·rw[hb] at q;cases q
 have here:∀b,Ah k.M b=true→∃s b0 y bx,kU.mem b=some b0∧Nu s b0.val∧rH.mem b=some bx∧J1 fz (k.V b) bx b0=true∧Sh.out k.V kU rH s bx.val=some y ∧
   σ1.mem b=some { b0 with val:=s.tI (Ah k.M) k.V y,ro:=b0.ro||fz,aC:=bif b0.buf||k.V b then b0.aC+1 else b0.aC }:=by
  intro b hb;rcases U6 (M:=Ah k.M) hxm b with ⟨_,q⟩|⟨s,b0,y,bx,q,q1,q2,q3,q4,q5⟩
  ·rw[hb] at q;cases q
  ·obtain⟨k1,k2,_⟩:=hk.M b s b0 q1;exact⟨s,b0,y,bx,k1,k2,q2,q3,q4,by rw[hmem b,q5]⟩
 have adV:∀b bx,rH.mem b=some bx→bx.buf=true→∃e l,bx.val=.data (.slice e) l:=by
  intro b bx hb bO;have:=he.ok.boxes b bx hb;rw[cR,bO] at this;obtain⟨e,l,q,_⟩:=this;exact⟨e,l,q⟩
 have hC:adQ (Ah k.M) k.V kU.mem rH.mem σ1.mem:=by
  intro b dM hb;cases hin:Ah k.M b with
  | false =>
    obtain⟨bl,hbl⟩:=hkeep b dM hb hin;have h1:=agp b hin;rw[hb] at h1;exact⟨_,_,hbl,h1,rfl,rfl,rfl,by simp,fun _=>rfl⟩
  | true =>
    obtain⟨s,b0,y,bx,g1,g2,g3,g4,g5,g6⟩:=here b hin;rw[hb] at g1;obtain rfl:=aN g1;obtain⟨o1,o2,o3⟩:=F6 g4;obtain⟨r1,r2⟩:=Zu (M:=Ah k.M) (V:=k.V) (zH:={ dM with val:=s.tI (Ah k.M) k.V y,ro:=dM.ro||fz,aC:=bif dM.buf||k.V b then dM.aC+1 else dM.aC }) g5 rfl o2.symm (adV b bx g3);refine⟨bx,_,g3,g6,o2,rfl,r1,by simp,fun hq=>o3 ?_⟩;simpa using hq
 have hE:Ext B XH kU.mem w0 γ σ1.mem w :=
  { below:=hx.below
    I:=hx.I
    sg:=hx.sg
    cells:=hx.cells
    boxes:=fun b dM hb=>by
     obtain⟨Cy,zH,c1,c2,c3,c4,c5,c6,c7⟩:=hC b dM hb;obtain⟨alZ,e1,e2,e3⟩:=hx.boxes b dM hb;rw[c1] at e1;obtain rfl:=aN e1;cases hq:(Ah k.M b&&(dM.buf||k.V b)) with
     | true =>
       rw[hq] at c6;simp only[gp] at c6;exact⟨zH,c2,by omega,fun e=>absurd e (by omega)⟩
     | false =>
       rw[hq] at c6;simp only[jM] at c6;obtain⟨r1,r2,r3⟩:=e3 (c7 hq);exact⟨zH,c2,by omega,fun _=>⟨r1,c4,c5.trans r3⟩⟩ }
 refine⟨⟨fun t=>?_,he.size,he.defers,?_⟩,hE⟩
 ·rw[Hp t];rcases adT (M:=Ah k.M) hxs t with ⟨q,_⟩|⟨s,y,q1,q2,q3⟩
  ·rw[q];simp only;cases hw:dD wr t with
   | true=>exact⟨_,rfl⟩
   | false =>
     have:a.tmps.getD t undef=a0.tmps.getD t undef:=by simp only[acp,hf t hw]
     rw[this];exact(h0.slots t).ext hE
  ·rw[q3];exact Zt hC hk.V (hk.S t s q1) q2 (h0.slots t) (he.slots t)
 ·have hne:∀b,σ1.mem b≠none→∃dM,kU.mem b=some dM:=by
   intro b hb;cases hin:Ah k.M b with
   | true=>obtain⟨s,b0,y,bx,g1,_⟩:=here b hin;exact⟨b0,g1⟩
   | false =>
     rw[agp b hin] at hb;cases hq:kU.mem b with
     | none=>rw[hq] at hb;exact absurd rfl hb
     | some dM=>exact⟨dM,rfl⟩
  have aij:∀b,σ1.mem b≠none→rH.mem b≠none:=by
   intro b hb;obtain⟨dM,h1⟩:=hne b hb;obtain⟨Cy,zH,c1,_⟩:=hC b dM h1;rw[c1];simp
  exact
   { bp:=he.ok.bp
     base:=he.ok.base
     boxes:=fun b zH hb=>by
      cases hin:Ah k.M b with
      | true =>
        obtain⟨s,b0,y,bx,g1,g2,g3,g4,g5,g6⟩:=here b hin;rw[hb] at g6;obtain rfl:=aN g6;obtain⟨o1,o2,o3⟩:=F6 g4;have o4:=aaP g4;obtain⟨r1,r2⟩:=Zu (M:=Ah k.M) (V:=k.V) (zH:={ b0 with val:=s.tI (Ah k.M) k.V y,ro:=b0.ro||fz,aC:=bif b0.buf||k.V b then b0.aC+1 else b0.aC }) g5 rfl o2.symm (adV b bx g3);have jt:=he.ok.boxes b bx g3;have XI:=h0.ok.boxes b b0 g1;unfold cR at jt XI⊢;dsimp only at r2⊢;rcases aho bx.buf with hb1|hb1
        ·rw[hb1] at jt;rw[←o2,hb1,r2 hb1,←o4];exact jt
        ·rw[hb1] at jt;rw[←o2,hb1];rw[←o2,hb1] at XI;obtain⟨_,_,_,_,_,_,_,_,_,z⟩:=XI;obtain⟨blk,cap,cur,tid,fr,z1,z2,z3,jb,z4⟩:=jt;exact⟨blk,cap,cur,tid,fr,z1,z2,z3,o4▸jb,Zt hC hk.V g2 g5 z z4⟩
      | false =>
        have h1:=agp b hin;rw[hb] at h1;cases hq:kU.mem b with
        | none=>rw[hq] at h1;cases h1
        | some dM =>
          rw[hq] at h1;obtain rfl:=aN h1;obtain⟨bl,hbl⟩:=hkeep b dM hq hin;have jt:=he.ok.boxes b _ hbl;have XI:=h0.ok.boxes b dM hq;unfold cR at jt XI⊢;dsimp only at jt⊢;rcases aho dM.buf with hb1|hb1
          ·rw[hb1] at jt⊢;exact jt
          ·rw[hb1] at jt XI⊢;obtain⟨_,_,_,_,_,_,_,_,_,z⟩:=XI;obtain⟨blk,cap,cur,tid,fr,z1,z2,z3,jb,z4⟩:=jt;exact⟨blk,cap,cur,tid,fr,z1,z2,z3,jb,cI.down hC.mid z z4⟩
     inj:=fun b c blk k1 k2 hb hc h1 h2=>he.ok.inj b c blk k1 k2 (aij b hb) (aij c hc) h1 h2
     fresh:=fun b blk k1 hb h1=>he.ok.fresh b blk k1 (aij b hb) h1
     we:=he.ok.we
     sep:=fun b zH blk k1 off hb h1 hi=>by
      obtain⟨dM,q0⟩:=hne b (by rw[hb];simp);obtain⟨Cy,aon,c1,c2,c3,c4,c5,c6,c7⟩:=hC b dM q0;rw[hb] at c2;obtain rfl:=aN c2;obtain⟨s1,s2⟩:=he.ok.sep b Cy blk k1 off c1 h1 hi;have hro:Cy.ro=true→zH.ro=true:=by
       cases hin:Ah k.M b with
       | true =>
         obtain⟨s,b0,y,bx,g1,g2,g3,g4,g5,g6⟩:=here b hin;rw[c1] at g3;obtain rfl:=aN g3;rw[hb] at g6;obtain rfl:=aN g6;exact(F6 g4).1
       | false =>
         have h1:=agp b hin;rw[hb,q0] at h1;obtain rfl:=aN h1;obtain⟨bl,hbl⟩:=hkeep b dM q0 hin;rw[c1] at hbl;obtain rfl:=aN hbl;exact fun h=>h
      exact⟨hro s1,fun bO e n hr=>s2 (by rw[c3,←c4];exact bO) e n (by rw[←c5];exact hr)⟩ }
end
end Go.Ge
namespace Go.Ge
variable [Lp]
open RowKit
theorem Ht{p:Nat→Prop}(h:∃n,p n):∃n,p n∧∀m,p m→n≤m:=by
 obtain⟨n,hn⟩:=h;induction n using Nat.strongRecOn with
 | _ n ih =>
   by_cases h:∃m,m<n∧p m
   ·obtain⟨m,h1,h2⟩:=h;exact ih m h1 h2
   ·exact⟨n,hn,fun m hm=>Nat.le_of_not_lt fun hlt=>h ⟨m,hlt,hm⟩⟩
open Classical in
noncomputable def least(p:Nat→Prop):Nat:=if h:∃n,p n then Classical.choose (Ht h) else 0
theorem Nv{p:Nat→Prop}(h:∃n,p n):p (least p)∧∀m,p m→least p≤m:=by
 unfold least;rw[dif_pos h];exact O0 (Ht h)
theorem Ji{P:Program}{c:Code}{Q:Exit→Act→World→Prop}{a:Act}{w:World}(I:Nat→Act→World→Prop){n:Nat}(h0:I n a w)
  (round:∀n a w,I n a w→c.wp P (Exit.then (fun a' w'=>∃m,m<n∧I m a' w') Q) a w):(Code.loop c).wp P Q a w:=by
 refine wp_loop (fun a w=>∃n,I n a w) (fun a w=>least fun n=>I n a w) ⟨n,h0⟩ fun a w h=>?_;obtain⟨h1,h2⟩:=Nv h;refine wp_mono (round _ a w h1) fun e a' w' hq=>?_;cases e with
 | normal =>
   obtain⟨m,m1,m2⟩:=hq;exact⟨⟨m,m2⟩,Nat.lt_of_le_of_lt ((Nv ⟨m,m2⟩).2 m m2) m1⟩
 | _=>exact hq
def Nw:Nat→Exit
 | 0=>.normal
 | 1=>.ret
 | i+2=>.exit i
theorem Kh{l m:List Nat}{t:Nat}:dD (l++m) t=(dD l t||dD m t):=by
 induction l with
 | nil=>rfl
 | cons i r ih=>simp only[Mm,dD,ih,Zg]
def Hu(ws:List Nat)(a a':Act):Prop:=∀t,dD ws t=false→a'.tmps[t]?=a.tmps[t]?
theorem Hu.refl(ws:List Nat)(a:Act):Hu ws a a:=fun _ _=>rfl
theorem Hu.trans{ws:List Nat}{a b c:Act}(h:Hu ws a b)(k:Hu ws b c):Hu ws a c:=fun t ht=>(k t ht).trans (h t ht)
theorem Hu.left{ws vs:List Nat}{a b:Act}(h:Hu ws a b):Hu (ws++vs) a b:=fun t ht=>h t (by rw[Kh,Al] at ht;exact ht.1)
theorem Hu.right{ws vs:List Nat}{a b:Act}(h:Hu vs a b):Hu (ws++vs) a b:=fun t ht=>h t (by rw[Kh,Al] at ht;exact ht.2)
theorem U7{t:Nat}:∀{l:List Oper} {k:Nat},dD (r8 l) t=false→oY t (number k l)=false:=by
 intro l;induction l with
 | nil=>intro k _;rfl
 | cons o l ih =>
   intro k h;simp only[number,oY];cases hd:o.dst with
   | none=>simp only[r8,hd] at h;rw[ih h];rfl
   | some d =>
     simp only[r8,hd,dD,Al] at h;rw[ih h.2];simp only[Zf];exact ja fun e=>by subst e;simp at h
theorem SJ{l:List Oper}{o:Oper}(h:o∈l){k:Nat}(hk:o.dst=some k):k∈r8 l:=by
 induction l with
 | nil=>cases h
 | cons p l ih =>
   rcases List.mem_cons.1 h with h|h
   ·subst h;simp only[r8,hk];exact nX ..
   ·simp only[r8];split
    ·exact qU _ (ih h)
    ·exact ih h
theorem QX{α:Type}{f:Nat→Tree α}:∀{es:List Nat} {e i:Nat},K1 es e=some i→(GO es i f).run=(f e).run:=by
 intro es;induction es with
 | nil=>intro e i h;cases h
 | cons k r ih =>
   intro e i h;simp only[K1] at h;have one:∀{b:Bool},(bif b then some 0 else(K1 r e).map (·+1))=some i→(b=true∧i=0)∨(b=false∧∃j,K1 r e=some j∧i=j+1):=by
    intro b hb;cases b with
    | true=>exact .inl ⟨rfl,(aN hb).symm⟩
    | false =>
      obtain⟨j,h1,h2⟩:=Option.map_eq_some_iff.1 hb;exact .inr ⟨rfl,j,h1,h2.symm⟩
   rcases one h with ⟨h1,rfl⟩|⟨h1,j,h2,rfl⟩
   ·obtain rfl:=gz h1;cases r with
    | nil=>rfl
    | cons m s=>rfl
   ·cases r with
    | nil=>cases h2
    | cons m s=>exact ih h2
section
variable {P:Program} {B:tJ} {N:Nat} {cx:Ctx} {nb:Nat} {bf:List Nat} {inl:Nat→List aS→St→Tree (aS×St)}
theorem XJ(hkeep:∀f vals σ v σ',(inl f vals σ).run=some (v,σ')→bD σ σ'):∀(l:List Oper) (k:Nat) (done:List CO) (σ σ':St),(MA cx nb bf inl (number k l) done σ).run=some σ'→bD σ σ':=by
 intro l;induction l with
 | nil=>intro k done σ σ' h;obtain rfl:=aN h;exact bD.refl _
 | cons o l ih =>
   intro k done σ σ' h;simp only[number,MA] at h;split at h
   ·cases h
   ·obtain⟨hc,h1⟩:=aD h;obtain⟨σ1,h2,h3⟩:=bind_some h1;exact(CZ hkeep σ1 (Eg (fun hb=>L6 o σ hb) h2)).trans (ih _ _ _ _ h3)
theorem aaQ{fz:Bool}{M V:Nat→Bool}:∀{l:List (Nat×Sh×Box)} {x:(tyM l).den} {t:Nat},Ah l t=false→MB fz M V l x t=none:=by
 intro l;induction l with
 | nil=>intro x t _;rfl
 | cons p r ih =>
   obtain⟨i,s,b⟩:=p;intro x t h;simp only[Ah,Al] at h;simp only[MB,h.1,jM];exact ih h.2
theorem U8{k:Carry}{fz lock:Bool}{wr:List Nat}{σ:St}{x:k.ty.den}{b:Nat}{bx:Box}(hb:σ.mem b=some bx)(h:Ah k.M b=false):(k.tI fz lock wr σ x).mem b=some { bx with lk:=bx.lk||lock }:=by
 simp only[Carry.tI];rw[aaQ h,hb]
theorem C4{k:Carry}{fz lock:Bool}{wr:List Nat}{σ:St}{x:k.ty.den}(hk:Ei k σ):bD σ (k.tI fz lock wr σ x):=by
 intro b bx hb hl;have:Ah k.M b=false:=by
  cases hq:Ah k.M b with
  | false=>rfl
  | true =>
    obtain⟨s,b0,hm⟩:=ago hq;obtain⟨h1,_,h3⟩:=hk.M b s b0 hm;rw[hb] at h1;obtain rfl:=aN h1;rw[hl] at h3;cases h3
 rw[U8 hb this];cases bx;simp only at hl;subst hl;rfl
theorem Ki{α:Type}{Q:α→Prop}{f:Nat→Tree α}(hf:∀e y,(f e).run=some y→Q y):∀{es:List Nat} {i:Nat} {y:α},(GO es i f).run=some y→Q y:=by
 intro es;induction es with
 | nil=>intro i y h;cases h
 | cons k r ih =>
   intro i y h;cases r with
   | nil=>exact hf k y h
   | cons m s =>
     have:=gP h;cases hq:fT i 0 with
     | true=>rw[hq] at this;exact hf k y this
     | false=>rw[hq] at this;exact ih this
theorem XK:∀{l:List Nat} {σ σ':St},J2 l σ=some σ'→bD σ σ':=by
 intro l;induction l with
 | nil=>intro σ σ' h;obtain rfl:=aN h;exact bD.refl _
 | cons m r ih =>
   intro σ σ' h;unfold J2 at h;cases hm:Nat.ble 2000000 m with
   | false=>rw[hm] at h;exact ih h
   | true =>
     rw[hm] at h;simp only[gp] at h;split at h
     ·split at h
      ·split at h
       ·split at h
        ·rename_i hg;exact(rG hg).trans ((bD.put _ _ _).trans (ih h))
        ·cases h
       ·cases h
      ·cases h
     ·exact ih h
theorem U9{B:tJ}{N:Nat}{a:Act}{w:World}:∀{l:List Nat} {σ σ':St} {γ:Gh},J2 l σ=some σ'→dB B N γ σ a w→∃γ',dB B N γ' σ' a w∧Ext B γ σ.mem w γ' σ'.mem w:=by
 intro l;induction l with
 | nil=>intro σ σ' γ h hs;obtain rfl:=aN h;exact⟨γ,hs,Ext.refl _ _ _ _⟩
 | cons m r ih =>
   intro σ σ' γ h hs;unfold J2 at h;cases hm:Nat.ble 2000000 m with
   | false=>rw[hm] at h;exact ih h hs
   | true =>
     rw[hm] at h;simp only[gp] at h;generalize m-2000000=k at h;split at h
     ·rename_i b v hb;split at h
      ·split at h
       ·split at h
        ·rename_i x σ1 hg;have hv:=hs.slots k;rw[hb] at hv;obtain⟨jC,s1,s2,s3⟩:=oc hs hv hg;have s4:dB B N jC (σ1.put k (.data (.slice _) x)) a w:=⟨fun t=>by
          unfold St.put;dsimp only;cases ht:Nat.beq t k with
          | false=>exact s1.slots t
          | true =>
            obtain rfl:=gz ht;exact s3,s1.size,s1.defers,s1.ok⟩
         obtain⟨I9,t1,t2⟩:=ih h s4;exact⟨I9,t1,s2.trans t2⟩
        ·cases h
       ·cases h
      ·cases h
     ·exact ih h hs
theorem XL{f:St→Tree (Nat×St)}(hf:∀σ r,(f σ).run=some r→bD σ r.2):∀(n:Nat) (σ:St) (r:Nat×St),(again f n σ).run=some r→bD σ r.2:=by
 intro n;induction n with
 | zero=>intro σ r h;cases h
 | succ n ih =>
   intro σ r h;obtain⟨r1,h1,h2⟩:=bind_some h;have k1:=hf _ _ h1;cases hq:Nat.beq r1.1 0 with
   | true=>rw[hq] at h2;exact k1.trans (ih _ _ h2)
   | false=>rw[hq] at h2;obtain rfl:=aN h2;exact k1
theorem Va{f:St→Tree (Nat×St)}(hf:∀σ r,(f σ).run=some r→bD σ r.2){c:Nat}:∀(n j:Nat) (σ:St) (r:Nat×St),(I0 f c n j σ).run=some r→bD σ r.2:=by
 intro n;induction n with
 | zero=>intro j σ r h;cases h
 | succ n ih =>
   intro j σ r h;unfold I0 at h;split at h
   ·have h:=cF h;obtain⟨r1,h1,h2⟩:=bind_some h.2;have k1:=(bD.put σ c _).trans (hf _ _ h1);cases hq:Nat.beq r1.1 0 with
    | true=>rw[hq] at h2;exact k1.trans (ih _ _ _ h2)
    | false=>rw[hq] at h2;obtain rfl:=aN h2;exact k1
   ·cases h
theorem xE(hkeep:∀f vals σ v σ',(inl f vals σ).run=some (v,σ')→bD σ σ'):∀(c:Code) (pl:List (Option Uk)) (σ:St) (r:Nat×St),(jB cx nb bf inl c pl σ).run=some r→bD σ r.2:=by
 intro c;induction c with
 | skip=>intro pl σ r h;obtain rfl:=aN h;exact bD.refl _
 | label l=>intro pl σ r h;obtain rfl:=aN h;exact bD.refl _
 | ret=>intro pl σ r h;obtain rfl:=aN h;exact bD.refl _
 | exit i=>intro pl σ r h;obtain rfl:=aN h;exact bD.refl _
 | region id ops dr =>
   intro pl σ r h;obtain⟨σ1,h1,h2⟩:=bind_some h;obtain rfl:=aN h2;cases dr with
   | true =>
     have h1':(Av cx nb bf inl ops σ).run=some σ1:=h1;unfold Av at h1';cases hg:ops.any fun o=>o.guard.isSome with
     | true =>
       rw[hg] at h1';obtain⟨hnt,h3⟩:=aD (show(bif lV ops.toList then vZ cx nb bf inl ops (number 0 ops.toList) [] σ (fun _=>false) else .fail).run=some σ1 from h1');exact XD hkeep _ _ _ _ _ _ h3
     | false =>
       rw[hg] at h1';exact XJ hkeep _ _ _ _ _ h1'
   | false=>exact Ho hkeep _ _ _ _ h1
 | seq a b kM nV =>
   intro pl σ r h;obtain⟨r1,h1,h2⟩:=bind_some h;have k1:=kM _ _ _ h1;cases hq:Nat.beq r1.1 0 with
   | true=>rw[hq] at h2;exact k1.trans (nV _ _ _ h2)
   | false=>rw[hq] at h2;obtain rfl:=aN h2;exact k1
 | block i a ih =>
   intro pl σ r h;obtain⟨r1,h1,h2⟩:=bind_some h;obtain rfl:=aN h2;exact ih _ _ r1 h1
 | scope a ih=>intro pl σ r h;exact ih _ _ _ h
 | cond c a b kM nV =>
   intro pl σ r h;unfold jB at h;split at h
   ·rename_i c0 pl0 hn;change Bool at c0;have:=gP h;cases c0 with
    | false=>exact nV _ _ _ this
    | true=>exact kM _ _ _ this
   ·split at h
    ·cases h
    ·rename_i k hk;have hok:=Bn hk;dsimp only at h;split at h
     ·rw[Tree.CJ] at h;obtain⟨x,h1,h2⟩:=Option.bind_eq_some_iff.1 h;obtain rfl:=aN h2;exact C4 hok
     ·rw[Tree.CJ] at h;obtain⟨x,h1,h2⟩:=Option.bind_eq_some_iff.1 h;exact Ki (Q:=fun r:Nat×St=>bD σ r.2) (fun e y hy=>by obtain rfl:=aN hy;exact C4 hok) h2
   ·cases h
 | loop a ih =>
   intro pl σ r h;unfold jB at h;split at h
   ·split at h
    ·exact Va (fun σ r hr=>ih _ _ _ hr) _ _ _ _ h
    split at h
    ·cases h
    rename_i σ aik;refine(XK aik).trans ?_;split at h
    ·cases h
    ·rename_i k hk;have hok:=Bn hk;dsimp only at h;split at h
     ·cases h
     ·split at h
      ·obtain⟨x,h1,h2⟩:=cl h;obtain rfl:=aN h2;exact C4 hok
      ·obtain⟨x,h1,h2⟩:=cl h;exact Ki (Q:=fun r:Nat×St=>bD σ r.2) (fun e y hy=>by obtain rfl:=aN hy;exact C4 hok) h2
   ·exact XL (fun σ r hr=>ih _ _ _ hr) _ _ _ h
   ·cases h
 | _=>intro pl σ r h;cases h
end
end Go.Ge
