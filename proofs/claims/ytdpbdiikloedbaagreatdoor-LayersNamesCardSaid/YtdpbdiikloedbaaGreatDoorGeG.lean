/- A ghost interpreter of the model's code, and that it tells the truth: part 7. It says of a function of plain data what a call of it comes to. -/
import Derived.Test.YtdpbdiikloedbaaGreatDoorGeF
import Derived.Scope
set_option linter.unusedVariables false
set_option linter.unusedSimpArgs false
set_option linter.unusedSectionVars false
namespace Go.Ge
open RowKit
theorem ny{l:List Nat}{t:Nat}:cC l t=true↔t∈l:=by
 induction l with
 | nil=>simp[cC]
 | cons i r ih =>
   simp only[cC,EK,OX,ih];constructor
   ·rintro(h|h)
    ·exact .inl (fu h)
    ·exact .inr h
   ·rintro(h|h)
    ·subst h;exact .inl (by simp)
    ·exact .inr h
theorem jd{l:List Nat}{t:Nat}:cC l t=false↔t∉l:=by
 rw[←ny];simp
theorem Vb{l:List Operand}{t:Nat}(h:Operand.tmp t∈l):t∈tmpsOf l:=by
 induction l with
 | nil=>cases h
 | cons x r ih =>
   rcases List.mem_cons.1 h with h'|h'
   ·subst h';exact sU ..
   ·clear h;have h:=h';cases x<;>simp only[tmpsOf]
    case tmp k=>exact vR _ (ih h)
    all_goals exact ih h
section
variable {cx:Ctx} {nb:Nat} {bf:List Nat} {inl:Nat→List aO→St→Tree (aO×St)} {σ σ' τ:St}
structure SM (cx:Ctx) (nb:Nat) (o:Oper) (fp:Fp):Prop where
 own:∀k,o.dst=some k→nb+k∈fp.rd
 sub:∀b∈fp.wr,b∈fp.rd
 w1:cls cx fp.fn o≠0→∀k,o.dst=some k→nb+k∈fp.wr
 w2:cls cx fp.fn o≠0→cls cx fp.fn o≠1→∀b∈fp.rd,b∈fp.wr
 c3:cls cx fp.fn o≠3
theorem KX(o:Oper)(σ:St)(h:(yp cx nb o σ).KO=false):SM cx nb o (yp cx nb o σ):=by
 have hown:∀k,o.dst=some k→nb+k∈Go.Ge.own nb o:=fun k hk=>by simp[Go.Ge.own,hk]
 unfold yp at h⊢;dsimp only at h⊢;split at h<;>rename_i hc
 ·exact⟨fun k hk=>GZ _ (hown k hk),fun b hb=>(nomatch hb),fun h0=>absurd hc h0,fun h0=>absurd hc h0,by rw[hc];decide⟩
 ·exact⟨fun k hk=>GZ _ (hown k hk),fun b hb=>GZ _ hb,fun _ k hk=>hown k hk,fun _ h1=>absurd hc h1,by rw[hc];decide⟩
 ·exact⟨fun k hk=>GZ _ (hown k hk),fun b hb=>hb,fun _ k hk=>GZ _ (hown k hk),fun _ _ b hb=>hb,by rw[hc];decide⟩
 ·cases h
theorem acp{ts rd:List Nat}:Le { (σ.only ts rd) with slots:=σ.slots } σ:=fun b bx hb=>by
 simp only[St.only] at hb;cases hm:cC rd b with
 | true=>rw[hm] at hb;exact hb
 | false=>rw[hm] at hb;cases hb
theorem SN{ts rd:List Nat}:Le (σ.only ts rd) σ:=fun b bx hb=>acp (ts:=ts) b bx hb
theorem SO{l:List Operand}{rd:List Nat}{x:Operand}(hx:x∈l):cc (σ.only (tmpsOf l) rd) x=cc σ x:=by
 cases x with
 | tmp t =>
   have:=ny.2 (Vb hx);simp only[cc,St.only,this,fy]
 | _=>rfl
theorem acq{a b:Option Nat}(h:ae8 a b=true):a=b:=by
 cases a<;>cases b<;>first|rfl|cases h|exact congrArg some (fu h)
theorem N0(o:Oper)(rd:List Nat):nw o (σ.only (tmpsOf (eE o.op)) rd)=nw o σ:=by
 unfold nw;split
 ·rename_i c hc;split
  ·rename_i x hx;rw[SO (by rw[hc];simp[eE,hx])]
  ·rfl
 ·rfl
theorem Cv{fp:Fp}{o:Oper}(hf:fp.KO=false→SM cx nb o fp)(hr:(gV cx nb bf inl fp o σ).run=some σ'):(o9 cx nb bf inl o σ).run=some σ':=by
 unfold gV at hr;cases Qm:fp.KO with
 | true=>rw[Qm] at hr;exact hr
 | false =>
   have hf:=hf Qm;rw[Qm] at hr;simp only[iA] at hr;obtain⟨τ,h1,h2⟩:=bind_some hr;obtain rfl:=aG h2;obtain⟨hfn,h1⟩:=aB h1;have hfn:=acq hfn;have ahu:nw o σ=fp.fn:=by rw[←hfn];exact(N0 ..).symm
   have hL:=XL (cx:=cx) (nb:=nb) (bf:=bf) (inl:=inl) (σ1:=σ.only (tmpsOf (eE o.op)) fp.rd) (σ2:=σ) SN (o:=o) ahu hf.c3 (fun x hx=>SO hx)
    (fun k hk=>by simp only[St.only,ny.2 (hf.own k hk),fy]) τ h1
   rw[hL];have hC:=U5 (cx:=cx) (nb:=nb) (bf:=bf) (σ:=σ.only (tmpsOf (eE o.op)) fp.rd) (o:=o) (p:=fun b=>b∈fp.wr) hfn hf.c3 (fun h0 k hk=>hf.w1 h0 k hk) (fun h0 h1 b hb=>by
    refine hf.w2 h0 h1 b ?_;simp only[St.only] at hb;cases hm:cC fp.rd b with
    | true=>exact ny.1 hm
    | false=>rw[hm] at hb;exact absurd rfl hb) τ h1
   have hm:(fun b=>match τ.mem b with|some x=>some x|none=>σ.mem b)=fun b=>bif cC fp.wr b then τ.mem b else σ.mem b:=by
    funext b;have hrd:b∈fp.rd→(σ.only (tmpsOf (eE o.op)) fp.rd).mem b=σ.mem b:=fun h=>by simp only[St.only,ny.2 h,fy]
    cases hw:cC fp.wr b with
    | true =>
      simp only[fy];cases hq:τ.mem b with
      | some x=>rfl
      | none =>
        simp only;rw[←hrd (hf.sub b (ny.1 hw))];rcases hC b with k|k
        ·rw[←k,hq]
        ·exact absurd hq k.1
    | false =>
      simp only[iA];rcases hC b with k|k
      ·rw[k];cases hq:(σ.only (tmpsOf (eE o.op)) fp.rd).mem b with
       | none=>rfl
       | some x=>simp only;exact(SN b x hq).symm
      ·exact absurd k.2 (jd.1 hw)
   unfold lift lay;exact congrArg (fun m=>some (St.mk _ m)) hm
theorem Cw{a b:List Nat}(h:Xo a b=true){x:Nat}(hx:x∈a):x∉b:=by
 simp only[Xo,DY,nj] at h;exact jd.1 (h x hx)
theorem apart_spec{x y:Oper}{f g:Fp}(h:apart x y f g=true):f.KO=false∧g.KO=false∧(∀b∈f.wr,b∉g.rd)∧(∀b∈g.wr,b∉f.rd) ∧
  (∀d,x.dst=some d→d∉tmpsOf (eE y.op))∧(∀d,y.dst=some d→d∉tmpsOf (eE x.op))∧(∀d e,x.dst=some d→y.dst=some e→d≠e):=by
 simp only[apart,dW,nj] at h;obtain⟨⟨⟨⟨⟨h1,h2⟩,h3⟩,h4⟩,h5⟩,h6⟩:=h;refine⟨h1,h2,fun b hb=>Cw h3 hb,fun b hb=>Cw h4 hb,fun d hd=>?_,fun d hd=>?_,fun d e hd he=>?_⟩
 ·rw[hd] at h5;simp only[dW,nj] at h5;exact jd.1 h5.1
 ·rw[hd] at h6;simp only[nj] at h6;exact jd.1 h6
 ·rw[hd,he] at h5;simp only[dW,nj] at h5;intro q;subst q;simp at h5
theorem Fs{d:Option Nat}{wr ts rd:List Nat}(h1:∀k,d=some k→k∉ts)(h2:∀b∈wr,b∉rd):(lay σ d wr τ).only ts rd=σ.only ts rd:=by
 unfold St.only lay
 congr 1
 ·funext t;cases hm:cC ts t with
  | false=>rfl
  | true =>
    simp only[fy];cases d with
    | none=>rfl
    | some k =>
      have:t≠k:=fun e=>h1 k rfl (by rw[←e];exact ny.1 hm);simp[gK this]
 ·funext b;cases hm:cC rd b with
  | false=>rfl
  | true =>
    have:b∉wr:=fun hw=>h2 b hw (ny.1 hm);simp[jd.2 this]
theorem Z0{oi oj:Oper}{fi fj:Fp}{σ1 σ2:St}(hap:apart oi oj fi fj=true)(hsi:∀b∈fi.wr,b∈fi.rd)(h1:(gV cx nb bf inl fi oi σ).run=some σ1)(h2:(gV cx nb bf inl fj oj σ1).run=some σ2) :
  ∃Z1,(gV cx nb bf inl fj oj σ).run=some Z1∧(gV cx nb bf inl fi oi Z1).run=some σ2:=by
 obtain⟨b1,b2,w1,w2,d1,d2,d3⟩:=apart_spec hap;unfold gV at h1 h2⊢;rw[b1] at h1;rw[b2] at h2;simp only[b1,b2,iA] at h1 h2⊢;obtain⟨τi,i1,i2⟩:=bind_some h1;obtain rfl:=aG i2;obtain⟨τj,j1,j2⟩:=bind_some h2;obtain rfl:=aG j2;rw[Fs d1 w1] at j1;refine⟨lay σ oj.dst fj.wr τj,by rw[Tree.run_bind,j1];rfl,?_⟩;rw[Fs d2 w2,Tree.run_bind,i1];show some _=some _
 congr 1
 unfold lay
 congr 1
 ·cases hi:oi.dst with
  | none=>rfl
  | some k =>
    cases hj:oj.dst with
    | none=>rfl
    | some e =>
      have hne:=d3 k e hi hj;funext t;dsimp only;by_cases q1:t=k
      ·subst q1;simp[gK hne]
      ·by_cases q2:t=e
       ·subst q2;simp[gK q1]
       ·simp[gK q1,gK q2]
 ·funext b;dsimp only;cases hw1:cC fi.wr b with
  | false=>rfl
  | true =>
    have:b∉fj.wr:=fun hw=>w2 b hw (hsi b (ny.1 hw1));simp[jd.2 this]
inductive Reach (ops:Array Oper):Nat→Nat→Prop where
 | step {i:Nat} {o:Oper} {e:Edge} (h:ops[i]?=some o) (he:e∈o.after) (hb:Region.binds .any e=true):Reach ops i e.on
 | more {i k:Nat} {o:Oper} {e:Edge} (h:ops[i]?=some o) (he:e∈o.after) (hb:Region.binds .any e=true) (r:Reach ops e.on k):Reach ops i k
def Qn(ops:Array Oper)(listed:Array Bool):Prop:=∀i o e,listed.getD i false=true→ops[i]?=some o→e∈o.after→Region.binds .any e=true→listed.getD e.on false=true
theorem Reach.listed{ops:Array Oper}{listed:Array Bool}(hs:Qn ops listed){i k:Nat}(h:Reach ops i k):listed.getD i false=true→listed.getD k false=true:=by
 induction h with
 | step h he hb=>exact fun hl=>hs _ _ _ hl h he hb
 | more h he hb r ih=>exact fun hl=>ih (hs _ _ _ hl h he hb)
theorem Reach.ready{ops:Array Oper}{listed:Array Bool}(hs:Qn ops listed){i k:Nat}(h:Reach ops i k)(hr:i∈Region.ready .any ops listed):listed.getD k false=true:=by
 obtain⟨_,o,ho,hall⟩:=mem_ready.1 hr;cases h with
 | step h he hb =>
   obtain rfl:=aG (ho.symm.trans h);exact hall _ he hb
 | more h he hb r =>
   obtain rfl:=aG (ho.symm.trans h);exact r.listed hs (hall _ he hb)
theorem Qn.list{ops:Array Oper}{listed:Array Bool}(hs:Qn ops listed){i:Nat}(hr:i∈Region.ready .any ops listed):Qn ops (listed.setIfInBounds i true):=by
 obtain⟨_,oi,hoi,hall⟩:=mem_ready.1 hr;have up:∀k,listed.getD k false=true→(listed.setIfInBounds i true).getD k false=true:=by
  intro k hk;by_cases e:i=k
  ·subst e;rcases yg i listed.size with h'|h'
   ·simp[h']
   ·simp[Y3 h'] at hk
  ·rw[getD_set_ne false e];exact hk
 intro j o e hj ho he hb;by_cases q:i=j
 ·subst q;obtain rfl:=aG (hoi.symm.trans ho);exact up _ (hall e he hb)
 ·rw[getD_set_ne false q] at hj;exact up _ (hs j o e hj ho he hb)
theorem SP{listed:Array Bool}{i:Nat}(h0:listed.getD i true=false)(h1:listed.getD i false=true):False:=by
 rcases yg i listed.size with h'|h'
 ·simp[h'] at h0 h1;rw[h0] at h1;cases h1
 ·simp[Y3 h'] at h1
def rF(ops:Array Oper)(done:List A9):Prop:=∀k,∀b,Nat.testBit (maskAt done k) b=true→Reach ops k b
theorem Ee{ops:Array Oper}{done:List A9}(hd:rF ops done){i:Nat}{o:Oper}(ho:ops[i]?=some o){b:Nat}(h:Nat.testBit (mask done o) b=true):Reach ops i b:=by
 unfold mask at h;have key:∀l:List Edge,(∀e∈l,e∈o.after)→Nat.testBit (uS done l) b=true→Reach ops i b:=by
  intro l;induction l with
  | nil=>intro _ h;simp[uS] at h
  | cons e r ih =>
    intro hl h;simp only[uS] at h;cases hb:Region.binds .any e with
    | false=>rw[hb] at h;exact ih (fun e' he'=>hl e' (vR _ he')) h
    | true =>
      rw[hb] at h;simp only[fy,Nat.testBit_or,EK] at h;rcases h with (h|h)|h
      ·exact ih (fun e' he'=>hl e' (vR _ he')) h
      ·rw[Nat.testBit_two_pow] at h;have:e.on=b:=by simpa using h
       subst this;exact .step ho (hl e (sU ..)) hb
      ·exact .more ho (hl e (sU ..)) hb (hd _ _ h)
 exact key _ (fun e he=>by simpa using he) h
theorem rF.nil{ops:Array Oper}:rF ops []:=fun k b h=>by simp[maskAt] at h
theorem rF.cons{ops:Array Oper}{done:List A9}(hd:rF ops done){i:Nat}{o:Oper}{f:Fp}(ho:ops[i]?=some o):rF ops ((i,o,f,mask done o)::done):=by
 intro k b h;simp only[maskAt] at h;cases hk:Nat.beq i k with
 | true =>
   rw[hk] at h;obtain rfl:=fu hk;exact Ee hd ho h
 | false=>rw[hk] at h;exact hd k b h
def Z2(cx:Ctx)(nb:Nat)(bf:List Nat)(inl:Nat→List aO→St→Tree (aO×St))(ops:Array Oper)(fp:Nat→Fp)(Q:St→Prop):Nat→Array Bool→St→Prop
 | 0,listed,σ=>Region.ready .any ops listed=[]∧Q σ
 | n+1,listed,σ=>(Region.ready .any ops listed=[]→Q σ) ∧
  ∀i∈Region.ready .any ops listed,∃o σ',ops[i]?=some o∧o.guard=none∧(gV cx nb bf inl (fp i) o σ).run=some σ'∧Z2 cx nb bf inl ops fp Q n (listed.setIfInBounds i true) σ'
variable {ops:Array Oper} {fp:Nat→Fp} {Q:St→Prop}
theorem Vc{i:Nat}{oi:Oper}(hi:ops[i]?=some oi)(hgi:oi.guard=none)(hsub:∀b∈(fp i).wr,b∈(fp i).rd):∀(n:Nat) (listed:Array Bool) (σ σ1:St),
  Qn ops listed→(∀j oj,ops[j]?=some oj→j≠i→listed.getD j true=false→Reach ops j i∨apart oi oj (fp i) (fp j)=true) →
  i∈Region.ready .any ops listed→(gV cx nb bf inl (fp i) oi σ).run=some σ1→Z2 cx nb bf inl ops fp Q n (listed.setIfInBounds i true) σ1→Z2 cx nb bf inl ops fp Q (n+1) listed σ:=by
 intro n;induction n with
 | zero =>
   intro listed σ σ1 vk hfree hr h1 H;refine⟨fun h=>(by rw[h] at hr;cases hr),fun j hj=>?_⟩;by_cases hji:j=i
   ·subst hji;exact⟨oi,σ1,hi,hgi,h1,H⟩
   ·have:=ready_mono hj hji;rw[H.1] at this;cases this
 | succ n ih =>
   intro listed σ σ1 vk hfree hr h1 H;refine⟨fun h=>(by rw[h] at hr;cases hr),fun j hj=>?_⟩;by_cases hji:j=i
   ·subst hji;exact⟨oi,σ1,hi,hgi,h1,H⟩
   ·obtain⟨oj,σ2,hoj,hgj,h2,H2⟩:=H.2 j (ready_mono hj hji);obtain⟨Z3,oj',Z4,hall⟩:=mem_ready.1 hj;rw[hoj] at Z4;obtain rfl:=aG Z4;have hap:apart oi oj (fp i) (fp j)=true:=by
     rcases hfree j oj hoj hji Z3 with hw|hap
     ·exact(SP (mem_ready.1 hr).1 (hw.ready vk hj)).elim
     ·exact hap
    obtain⟨Z1,k1,k2⟩:=Z0 hap hsub h1 h2;refine⟨oj,Z1,hoj,hgj,k1,ih (listed.setIfInBounds j true) Z1 σ2 (vk.list hj) (fun k ok hk hki hun=>hfree k ok hk hki ?_) (ready_mono hr (Lc hji)) k2 ?_⟩
    ·by_cases hjk:j=k
     ·subst hjk;exact Z3
     ·rw[getD_set_ne true hjk] at hun;exact hun
    ·rw[ads _ _ hji];exact H2
end
end Go.Ge
namespace Go.Ge
open RowKit
section
variable {P:Program} {B:qq} {N:Nat} {γ:Gh} {cx:Ctx} {nb:Nat} {bf:List Nat} {inl:Nat→List aO→St→Tree (aO×St)} {σ σ' τ:St} {ops:Array Oper} {fp:Nat→Fp}
def acr(cx:Ctx)(nb:Nat)(bf:List Nat)(inl:Nat→List aO→St→Tree (aO×St))(ops:Array Oper)(fp:Nat→Fp):Nat→List Oper→St→St→Prop
 | _,[],σ,σ'=>σ=σ'
 | k,o::l,σ,σ'=>o.guard=none∧((fp k).KO=false→SM cx nb o (fp k))∧((fp k).KO=true→(fp k).wr=[])∧(∀e∈o.after,Region.binds .any e=true→e.on<k) ∧
  (∀j oj,l[j]?=some oj→Reach ops (k+1+j) k∨apart o oj (fp k) (fp (k+1+j))=true) ∧
  ∃σ1,(gV cx nb bf inl (fp k) o σ).run=some σ1∧acr cx nb bf inl ops fp (k+1) l σ1 σ'
theorem Ma{o:Oper}{f fk:Fp}{k m mk:Nat}{ok:Oper}{r:List A9}(h:loose o f m ((k,ok,fk,mk)::r)=true):(Nat.testBit m k=true∨apart ok o fk f=true)∧loose o f m r=true:=by
 simp only[loose,dW,EK] at h;exact h
theorem Z5(o:Oper)(σ:St)(h:(yp cx nb o σ).KO=true):(yp cx nb o σ).wr=[]:=by
 unfold yp at h⊢;dsimp only at h⊢;split at h<;>first|cases h|skip
 rfl
theorem Qo:∀(l:List Oper) (k:Nat) (done:List A9) (σ:St),(∀j o,l[j]?=some o→ops[k+j]?=some o)→rF ops done→(Lj cx nb bf inl (number k l) done σ).run=some σ' →
  ∃fs:List (Fp×Nat),fs.length=l.length∧(∀j m b,fs[j]?=some m→Nat.testBit m.2 b=true→Reach ops (k+j) b) ∧
   ∀fp:Nat→Fp,(∀j f,fs[j]?=some f→fp (k+j)=f.1)→acr cx nb bf inl ops fp k l σ σ'∧∀j o f,l[j]?=some o→fs[j]?=some f→loose o (fp (k+j)) f.2 done=true:=by
 intro l;induction l with
 | nil =>
   intro k done σ _ _ h;exact⟨[],rfl,fun j m b h=>absurd h (by simp),fun fp _=>⟨aG h,fun j o f hj=>absurd hj (by simp)⟩⟩
 | cons o l ih =>
   intro k done σ hl hm h;simp only[number,Lj] at h;split at h
   ·cases h
   ·rename_i hg;obtain⟨hc,h1⟩:=aB h;obtain⟨σ1,h2,h3⟩:=bind_some h1;simp only[dW] at hc;have hk:ops[k]?=some o:=hl 0 o rfl;obtain⟨fs,f1,fm,f2⟩:=ih (k+1) _ σ1 (fun j o' hj=>by have:=hl (j+1) o' (by simpa using hj);rw[←this];congr 1;omega) (hm.cons hk) h3;refine⟨(yp cx nb o σ,mask done o)::fs,by simp[f1],fun j m b hj hb=>?_,fun fp YJ=>?_⟩
    ·cases j with
     | zero=>obtain rfl:=aG hj;exact Ee hm hk hb
     | succ j=>have:=fm j m b (by simpa using hj) hb;rw[show k+(j+1)=k+1+j by omega];exact this
    have h0:fp k=yp cx nb o σ:=YJ 0 _ rfl;obtain⟨g1,g2⟩:=f2 fp fun j f hj=>by have:=YJ (j+1) f (by simpa using hj);rw[←this];congr 1;omega
    refine⟨⟨hg,fun hb=>by rw[h0] at hb⊢;exact KX o σ hb,fun hb=>by rw[h0] at hb⊢;exact Z5 o σ hb,fun e he hb=>?_,fun j oj hj=>?_,σ1,by rw[h0];exact h2,g1⟩,fun j o' f hj hf=>?_⟩
    ·have:=hc.2;rw[←Array.all_toList,DY] at this;have:=this e (by simpa using he);rw[hb] at this;have:=JB (by simpa [Nat.blt] using this);omega
    ·obtain⟨f,hf⟩:∃f,fs[j]?=some f:=⟨_,ru (by rw[f1];exact(List.getElem?_eq_some_iff.1 hj).1)⟩;rcases(Ma (g2 j oj f hj hf)).1 with q|q
     ·exact .inl (fm j f k hf q)
     ·rw[h0];exact .inr q
    ·cases j with
     | zero =>
       obtain rfl:=aG hj;obtain rfl:=aG hf;rw[yf,h0];exact hc.1
     | succ j =>
       have:=(Ma (g2 j o' f (by simpa using hj) (by simpa using hf))).2;rw[show k+(j+1)=k+1+j by omega];exact this
theorem Z6:∀(l:List Oper) (k:Nat) (listed:Array Bool) (σ:St),(∀j,l[j]?=ops[k+j]?)→listed.size=ops.size→(∀j,j<k→j<ops.size→listed.getD j false=true) →
  (∀j,k≤j→j<ops.size→listed.getD j true=false)→Qn ops listed→acr cx nb bf inl ops fp k l σ σ'→Z2 cx nb bf inl ops fp (·=σ') l.length listed σ:=by
 intro l;induction l with
 | nil =>
   intro k listed σ hl hs h1 h2 vk h;refine⟨?_,h⟩;cases hr:Region.ready .any ops listed with
   | nil=>rfl
   | cons i r =>
     exfalso;have hi:i∈Region.ready .any ops listed:=by rw[hr];exact sU ..
     obtain⟨g1,o,g2,_⟩:=mem_ready.1 hi;have hlt:i<ops.size:=(Array.getElem?_eq_some_iff.1 g2).1;rcases yg i k with hk|hk
     ·have:=h1 i hk hlt;simp[hs,hlt] at this g1;rw[this] at g1;cases g1
     ·have:=hl (i-k);rw[show k+(i-k)=i by omega,g2] at this;cases this
 | cons o l ih =>
   intro k listed σ hl hs h1 h2 vk h;have hk:ops[k]?=some o:=by simpa using(hl 0).symm
   have hlt:k<ops.size:=(Array.getElem?_eq_some_iff.1 hk).1;obtain⟨c1,c2,c2',c3,c4,σ1,c5,c6⟩:=h;have Mb:k∈Region.ready .any ops listed:=mem_ready.2 ⟨h2 k (mq _) hlt,o,hk,fun e he hb=>by
    have:=c3 e he hb;exact h1 e.on this (by omega)⟩
   refine Vc hk c1 (fun b hb=>?_) l.length listed σ σ1 vk (fun j oj hj hne hun=>?_) Mb c5 (ih (k+1) _ σ1 (fun j=>?_) (by simp[hs]) (fun j hj hjs=>?_) (fun j hj hjs=>?_) (vk.list Mb) c6)
   ·cases Qm:(fp k).KO with
    | true=>rw[c2' Qm] at hb;cases hb
    | false=>exact(c2 Qm).sub b hb
   ·have Z7:j<ops.size:=(Array.getElem?_eq_some_iff.1 hj).1;rcases yg j k with hjk|hjk
    ·exfalso;have:=h1 j hjk Z7;simp[hs,Z7] at this hun;rw[this] at hun;cases hun
    ·have hq:=hl (j-k);rw[show k+(j-k)=j by omega,hj] at hq;obtain⟨m,hm⟩:∃m,j-k=m+1:=⟨j-k-1,by omega⟩;rw[hm] at hq;have:=c4 m oj (by simpa using hq);rw[show k+1+m=j by omega] at this;exact this
   ·have:=hl (j+1);rw[show k+1+j=k+(j+1) by omega,←this];simp
   ·by_cases e:j=k
    ·subst e;simp[hs,hlt]
    ·rw[getD_set_ne false (Lc e)];exact h1 j (by omega) hjs
   ·rw[getD_set_ne true (by omega:k≠j)];exact h2 j (by omega) hjs
theorem Mc:∀{l:List Oper} {k j:Nat} {o:Oper},l[j]?=some o→(k+j,o)∈number k l:=by
 intro l;induction l with
 | nil=>intro k j o h;cases h
 | cons p l ih =>
   intro k j o h;cases j with
   | zero=>obtain rfl:=aG h;exact sU ..
   | succ j=>exact vR _ (by rw[show k+(j+1)=k+1+j by omega];exact ih (by simpa using h))
theorem Md{d:Nat}:∀{items:List (Nat×Oper)},mA d items=false→∀{i:Nat} {o:Oper},(i,o)∈items→o.dst≠some d:=fun h _ _ hm=>UY h _ _ hm
theorem N1(hc:eW P cx)(dB:oJ P B.G cx)(kX:wk P B.G inl){Q:Exit→Act→World→Prop}(YJ:∀i o,ops[i]?=some o→(fp i).KO=false→SM cx nb o (fp i))
  (hd:∀o∈ops.toList,∀k,o.dst=some k→k<N):∀(n:Nat) (listed:Array Bool) (σ:St) (γ:Gh) (a:Act) (w:World),Z2 cx nb bf inl ops fp (·=σ') n listed σ→cF B N γ σ a w →
   (∀γ' a' w',cF B N γ' σ' a' w'→Ext B γ σ.mem w γ' σ'.mem w'→Fr (number 0 ops.toList) a a'→Q .normal a' w')→wpAny P .any ops Q n listed a w:=by
 intro n;induction n with
 | zero =>
   intro listed σ γ a w h hs hK;obtain⟨h1,rfl⟩:=h;exact⟨h1,hK γ a w hs (Ext.refl _ _ _ _) fun t _=>rfl⟩
 | succ n ih =>
   intro listed σ γ a w h hs hK;refine⟨fun h0=>?_,fun i hi=>?_⟩
   ·obtain rfl:=h.1 h0;exact hK γ a w hs (Ext.refl _ _ _ _) fun t _=>rfl
   ·obtain⟨o,σ1,h1,h2,h3,h4⟩:=h.2 i hi;have hmem:o∈ops.toList:=by
     have:=Y4 h1;simpa using this
    have Wz:(i,o)∈number 0 ops.toList:=by
     have:=Mc (l:=ops.toList) (k:=0) (j:=i) (o:=o) (by simpa using h1);simpa using this
    unfold wpOp;rw[h1];dsimp only;have hw:Region.wanted o (yielded ops a.tmps)=true:=by unfold Region.wanted;rw[h2]
    rw[hw];simp only[nk];refine .inl (LS hc dB kX hs (hd o hmem) (Cv (YJ i o h1) h3) fun ij v w1 s1 x1=>?_);refine ih _ σ1 ij _ w1 h4 s1 fun Hi a2 w2 s2 x2 f2=>hK Hi a2 w2 s2 (x1.trans x2) fun t ht=>?_;rw[f2 t ht,fA (Md ht Wz)]
theorem cF.draw{a:Act}{w:World}(h:cF B N γ σ a w)(n:Nat):cF B N γ σ a { w with drawn:=n }∧Ext B γ σ.mem w γ σ.mem { w with drawn:=n }:=by
 obtain⟨m1,m2⟩:=h.ok.far (w':={ w with drawn:=n }) (I':=γ.I) ⟨rfl,rfl,rfl,mq _,fun _ _=>rfl⟩ (fun _ _ k=>k) (fun b o k=>h.ok.tN b o k) (fun b o k k'=>absurd k k');exact⟨h.go m2 m1,m2⟩
theorem Qp(sw:P.follows .mixedOrders=true)(hc:eW P cx)(dB:oJ P B.G cx)(kX:wk P B.G inl){Q:Exit→Act→World→Prop}{id:Nat}{a:Act}{w:World}
  (hd:∀o∈ops.toList,∀k,o.dst=some k→k<N) (hr:(Lj cx nb bf inl (number 0 ops.toList) [] σ).run=some σ') (h:cF B N γ σ a w)
  (hK:∀γ' a' w',cF B N γ' σ' a' w'→Ext B γ σ.mem w γ' σ'.mem w'→Fr (number 0 ops.toList) a a'→Q .normal a' w'):(Code.region id ops true).wp P Q a w:=by
 refine wp_region_any sw ?_;obtain⟨fs,f1,fm,f2⟩:=Qo (ops:=ops) ops.toList 0 [] σ (fun j o hj=>by simpa using hj) rF.nil hr
 let fp:Nat→Fp:=fun i=>(fs[i]?.map (·.1)).getD ⟨[],[],true,none⟩
 obtain⟨g1,_⟩:=f2 fp fun j f hj=>by simp[fp,hj]
 have key:∀(l:List Oper) (k:Nat) (σ:St),acr cx nb bf inl ops fp k l σ σ'→∀j o,l[j]?=some o→(fp (k+j)).KO=false→SM cx nb o (fp (k+j)):=by
  intro l;induction l with
  | nil=>intro k σ _ j o hj;cases hj
  | cons o l ih =>
    intro k σ hL j o' hj;obtain⟨c1,c2,c2',c3,c4,σ1,c5,c6⟩:=hL;cases j with
    | zero=>obtain rfl:=aG hj;exact c2
    | succ j=>rw[show k+(j+1)=k+1+j by omega];exact ih (k+1) σ1 c6 j o' (by simpa using hj)
 have hA:=Z6 (ops:=ops) (cx:=cx) (nb:=nb) (bf:=bf) (inl:=inl) (fp:=fp) (σ':=σ') ops.toList 0 (Array.replicate ops.size false) σ (by simp) (by simp) (fun j hj=>by omega)
  (fun j _ hj=>by simp[hj]) (fun i o e hi=>by
   exfalso;rcases yg i ops.size with h'|h'<;>simp[h'] at hi) g1
 obtain⟨s1,x1⟩:=h.draw (w.drawn+1);refine N1 hc dB kX (fun i o hi=>by have:=key _ 0 σ g1 i o (by simpa using hi);simpa using this) hd _ _ σ γ a _ (by simpa using hA) s1 fun γ' a' w' s x f=>hK γ' a' w' s (x1.trans x) f
end
end Go.Ge
namespace Go.Ge
open RowKit
section
variable {cx:Ctx} {nb:Nat} {bf:List Nat} {inl:Nat→List aO→St→Tree (aO×St)} {ops:Array Oper} {fp:Nat→Fp}
abbrev Nx:=St×(Nat→Bool)
def Ef(ops:Array Oper)(o:Oper)(s:Nx):Option Bool:=match o.guard with
 | none=>some true
 | some (g,want)=>match(ops[g]?).bind (·.dst) with
   | none=>none
   | some dg=>bif s.2 g then some false else match s.1.slots dg with
     | .data .bool c=>some ((show Bool from c)==want)
     | _=>none
def mR(cx:Ctx)(nb:Nat)(bf:List Nat)(inl:Nat→List aO→St→Tree (aO×St))(ops:Array Oper)(f:Fp)(i:Nat)(o:Oper)(s:Nx):Option Nx:=match Ef ops o s with
 | none=>none
 | some true=>(gV cx nb bf inl f o s.1).run.map fun σ=>(σ,s.2)
 | some false=>some (s.1.aP o.dst .undef,gm i s.2)
def afA:St:={ slots:=fun _=>.undef,mem:=fun _=>none }
theorem SQ(σ:St)(d:Option Nat):σ.aP d .undef=lay σ d [] afA:=by
 unfold lay;cases d with
 | none=>rfl
 | some k=>rfl
theorem O8{f:Fp}{i:Nat}{o:Oper}{s s':Nx}(hb:f.KO=false)(h:mR cx nb bf inl ops f i o s=some s'):∃b wr τ,Ef ops o s=some b∧s'=(lay s.1 o.dst wr τ,bif b then s.2 else gm i s.2)∧(∀x∈wr,x∈f.wr) ∧
  ∀s0:Nx,Ef ops o s0=some b→(b=true→s0.1.only (tmpsOf (eE o.op)) f.rd=s.1.only (tmpsOf (eE o.op)) f.rd)→mR cx nb bf inl ops f i o s0=some (lay s0.1 o.dst wr τ,bif b then s0.2 else gm i s0.2):=by
 unfold mR at h;cases hd:Ef ops o s with
 | none=>rw[hd] at h;cases h
 | some b =>
   rw[hd] at h;cases b with
   | true =>
     simp only at h;obtain⟨σ',h1,rfl⟩:=Option.map_eq_some_iff.1 h;unfold gV at h1;rw[hb] at h1;simp only[iA] at h1;obtain⟨τ,h2,h3⟩:=bind_some h1;obtain rfl:=aG h3;refine⟨true,f.wr,τ,rfl,rfl,fun x hx=>hx,fun s0 h0 h4=>?_⟩;unfold mR;rw[h0];simp only;unfold gV;rw[hb];simp only[iA];rw[Tree.run_bind,h4 rfl,h2];rfl
   | false =>
     simp only at h;obtain rfl:=aG h;refine⟨false,[],afA,rfl,by rw[SQ];rfl,fun x hx=>(nomatch hx),fun s0 h0 _=>?_⟩;unfold mR;rw[h0];simp only;rw[SQ];rfl
theorem SR{i j:Nat}{x y:Oper}{f g:Fp}(h:Ba ops i j x y f g=true):f.KO=false∧g.KO=false∧(∀b∈f.wr,b∉g.rd)∧(∀b∈g.wr,b∉f.rd)∧yq x j=true∧yq y i=true ∧
  (∀d,x.dst=some d→d∉D2 ops y)∧(∀d,y.dst=some d→d∉D2 ops x)∧(∀d e,x.dst=some d→y.dst=some e→d≠e):=by
 simp only[Ba,dW,nj] at h;obtain⟨⟨⟨⟨⟨⟨⟨h1,h2⟩,h3⟩,h4⟩,g1⟩,g2⟩,h5⟩,h6⟩:=h;refine⟨h1,h2,fun b hb=>Cw h3 hb,fun b hb=>Cw h4 hb,g1,g2,fun d hd=>?_,fun d hd=>?_,fun d e hd he=>?_⟩
 ·rw[hd] at h5;simp only[dW,nj] at h5;exact jd.1 h5.1
 ·rw[hd] at h6;simp only[nj] at h6;exact jd.1 h6
 ·rw[hd,he] at h5;simp only[dW,nj] at h5;intro q;subst q;simp at h5
theorem Me{i:Nat}{o:Oper}{s:Nx}{d:Option Nat}{wr:List Nat}{τ:St}{b:Bool}(hg:yq o i=true)(hd:∀k,d=some k→k∉D2 ops o):Ef ops o (lay s.1 d wr τ,bif b then s.2 else gm i s.2)=Ef ops o s:=by
 unfold Ef;cases hgd:o.guard with
 | none=>rfl
 | some p =>
   obtain⟨g,want⟩:=p;dsimp only;cases hdg:(ops[g]?).bind (·.dst) with
   | none=>rfl
   | some dg =>
     dsimp only;have hgi:Nat.beq g i=false:=by
      unfold yq at hg;rw[hgd] at hg;simpa using hg
     have h1:(bif b then s.2 else gm i s.2) g=s.2 g:=by
      cases b with
      | true=>rfl
      | false=>simp only[iA,gm,hgi,OW]
     have h2:(lay s.1 d wr τ).slots dg=s.1.slots dg:=by
      unfold lay;cases d with
      | none=>rfl
      | some k =>
        have hne:dg≠k:=fun e=>hd k rfl (by
         unfold D2 O0;rw[hgd];dsimp only;rw[hdg];subst e;exact sU ..)
        simp[gK hne]
     rw[h1,h2]
theorem Z8(σ:St){di dj:Option Nat}{wi wj:List Nat}{τi τj:St}(hd:∀d e,di=some d→dj=some e→d≠e)(hw:∀b∈wi,b∉wj):lay (lay σ dj wj τj) di wi τi=lay (lay σ di wi τi) dj wj τj:=by
 unfold lay
 congr 1
 ·cases di with
  | none=>rfl
  | some k =>
    cases dj with
    | none=>rfl
    | some e =>
      have hne:=hd k e rfl rfl;funext t;dsimp only;by_cases q1:t=k
      ·subst q1;simp[gK hne]
      ·by_cases q2:t=e
       ·subst q2;simp[gK q1]
       ·simp[gK q1,gK q2]
 ·funext b;dsimp only;cases hw1:cC wi b with
  | false=>rfl
  | true =>
    have:b∉wj:=hw b (ny.1 hw1);simp[jd.2 this]
theorem Vd{i j:Nat}{oi oj:Oper}{fi fj:Fp}{s s1 s2:Nx}(hap:Ba ops i j oi oj fi fj=true)(hsi:∀b∈fi.wr,b∈fi.rd)(h1:mR cx nb bf inl ops fi i oi s=some s1)(h2:mR cx nb bf inl ops fj j oj s1=some s2) :
  ∃s1',mR cx nb bf inl ops fj j oj s=some s1'∧mR cx nb bf inl ops fi i oi s1'=some s2:=by
 obtain⟨b1,b2,w1,w2,g1,g2,d1,d2,d3⟩:=SR hap;obtain⟨bi,wi,τi,e1,e2,e3,e4⟩:=O8 b1 h1;subst e2;obtain⟨bj,wj,τj,k1,k2,k3,k4⟩:=O8 b2 h2;subst k2;rw[Me g2 d1] at k1;have tm:∀{o:Oper} {k:Nat},k∉D2 ops o→k∉tmpsOf (eE o.op):=fun h hm=>h (K8 _ hm);have hj:=k4 s k1 fun _=>(Fs (fun k hk=>tm (d1 k hk)) (fun b hb=>w1 b (e3 b hb))).symm;refine⟨_,hj,?_⟩;have hi:=e4 (lay s.1 oj.dst wj τj,bif bj then s.2 else gm j s.2) (by rw[Me g1 d2];exact e1) fun _=>Fs (fun k hk=>tm (d2 k hk)) (fun b hb=>w2 b (k3 b hb));rw[hi]
 congr 1
 refine Prod.ext ?_ ?_
 ·exact Z8 s.1 d3 (fun b hb hb2=>w2 b (k3 b hb2) (hsi b (e3 b hb)))
 ·dsimp only;cases bi<;>cases bj<;>first|rfl|skip
  simp only[iA];funext k;simp only[gm];cases Nat.beq k i<;>cases Nat.beq k j<;>rfl
def Qq(cx:Ctx)(nb:Nat)(bf:List Nat)(inl:Nat→List aO→St→Tree (aO×St))(ops:Array Oper)(fp:Nat→Fp)(Q:Nx→Prop):Nat→Array Bool→Nx→Prop
 | 0,listed,s=>Region.ready .any ops listed=[]∧Q s
 | n+1,listed,s=>(Region.ready .any ops listed=[]→Q s) ∧
  ∀i∈Region.ready .any ops listed,∃o s',ops[i]?=some o∧mR cx nb bf inl ops (fp i) i o s=some s'∧Qq cx nb bf inl ops fp Q n (listed.setIfInBounds i true) s'
variable {Q:Nx→Prop}
theorem Ve{i:Nat}{oi:Oper}(hi:ops[i]?=some oi)(hsub:∀b∈(fp i).wr,b∈(fp i).rd):∀(n:Nat) (listed:Array Bool) (s s1:Nx),
  Qn ops listed→(∀j oj,ops[j]?=some oj→j≠i→listed.getD j true=false→Reach ops j i∨Ba ops i j oi oj (fp i) (fp j)=true) →
  i∈Region.ready .any ops listed→mR cx nb bf inl ops (fp i) i oi s=some s1→Qq cx nb bf inl ops fp Q n (listed.setIfInBounds i true) s1→Qq cx nb bf inl ops fp Q (n+1) listed s:=by
 intro n;induction n with
 | zero =>
   intro listed s s1 vk hfree hr h1 H;refine⟨fun h=>(by rw[h] at hr;cases hr),fun j hj=>?_⟩;by_cases hji:j=i
   ·subst hji;exact⟨oi,s1,hi,h1,H⟩
   ·have:=ready_mono hj hji;rw[H.1] at this;cases this
 | succ n ih =>
   intro listed s s1 vk hfree hr h1 H;refine⟨fun h=>(by rw[h] at hr;cases hr),fun j hj=>?_⟩;by_cases hji:j=i
   ·subst hji;exact⟨oi,s1,hi,h1,H⟩
   ·obtain⟨oj,s2,hoj,h2,H2⟩:=H.2 j (ready_mono hj hji);obtain⟨Z3,oj',Z4,hall⟩:=mem_ready.1 hj;rw[hoj] at Z4;obtain rfl:=aG Z4;have hap:Ba ops i j oi oj (fp i) (fp j)=true:=by
     rcases hfree j oj hoj hji Z3 with hw|hap
     ·exact(SP (mem_ready.1 hr).1 (hw.ready vk hj)).elim
     ·exact hap
    obtain⟨s1',k1,k2⟩:=Vd hap hsub h1 h2;refine⟨oj,s1',hoj,k1,ih (listed.setIfInBounds j true) s1' s2 (vk.list hj) (fun k ok hk hki hun=>hfree k ok hk hki ?_) (ready_mono hr (Lc hji)) k2 ?_⟩
    ·by_cases hjk:j=k
     ·subst hjk;exact Z3
     ·rw[getD_set_ne true hjk] at hun;exact hun
    ·rw[ads _ _ hji];exact H2
end
end Go.Ge
namespace Go.Ge
open RowKit
section
variable {P:Program} {B:qq} {N:Nat} {γ:Gh} {cx:Ctx} {nb:Nat} {bf:List Nat} {inl:Nat→List aO→St→Tree (aO×St)} {σ σ':St} {ops:Array Oper} {fp:Nat→Fp}
theorem Z9{σ:St}{d:Nat}{v:aO}(h:σ.slots d=v):σ.put d v=σ:=by
 unfold St.put;obtain⟨sl,mm⟩:=σ
 congr 1
 funext t;cases hb:Nat.beq t d with
 | true=>obtain rfl:=fu hb;exact h.symm
 | false=>rfl
def acs(cx:Ctx)(nb:Nat)(bf:List Nat)(inl:Nat→List aO→St→Tree (aO×St))(ops:Array Oper)(fp:Nat→Fp):Nat→List Oper→Nx→Nx→Prop
 | _,[],s,s'=>s=s'
 | k,o::l,s,s'=>(((fp k).KO=false→SM cx nb o (fp k))∧((fp k).KO=true→(fp k).wr=[]))∧(∀e∈o.after,Region.binds .any e=true→e.on<k) ∧
  (∀j oj,l[j]?=some oj→Reach ops (k+1+j) k∨Ba ops k (k+1+j) o oj (fp k) (fp (k+1+j))=true) ∧
  ∃s1,mR cx nb bf inl ops (fp k) k o s=some s1∧acs cx nb bf inl ops fp (k+1) l s1 s'
theorem IP{i:Nat}{o:Oper}{f fk:Fp}{k m mk:Nat}{ok:Oper}{r:List A9}(h:D3 ops i o f m ((k,ok,fk,mk)::r)=true):(Nat.testBit m k=true∨Ba ops k i ok o fk f=true)∧D3 ops i o f m r=true:=by
 simp only[D3,dW,EK] at h;exact h
theorem Mf{i:Nat}{o:Oper}{r:List (Nat×Oper)}{done:List A9}{sk:Nat→Bool}(h:(tL cx nb bf inl ops ((i,o)::r) done σ sk).run=some σ') :
  ∃s1:Nx,D3 ops i o (yp cx nb o σ) (mask done o) done=true∧(∀e∈o.after,Region.binds .any e=true→e.on<i)∧mR cx nb bf inl ops (yp cx nb o σ) i o (σ,sk)=some s1 ∧
   (tL cx nb bf inl ops r ((i,o,yp cx nb o σ,mask done o)::done) s1.1 s1.2).run=some σ':=by
 simp only[tL] at h;obtain⟨hc,h1⟩:=aB h;simp only[dW] at hc;obtain⟨hc2,hc3⟩:=hc;have afB:∀e∈o.after,Region.binds .any e=true→e.on<i:=fun e he hb=>by
  rw[←Array.all_toList,DY] at hc3;have:=hc3 e (by simpa using he);rw[hb] at this;have:=JB (by simpa [Nat.blt] using this);omega
 suffices ∃s1:Nx,mR cx nb bf inl ops (yp cx nb o σ) i o (σ,sk)=some s1∧(tL cx nb bf inl ops r ((i,o,yp cx nb o σ,mask done o)::done) s1.1 s1.2).run=some σ' by
  obtain⟨s1,k1,k2⟩:=this;exact⟨s1,hc2,afB,k1,k2⟩
 split at h1
 ·rename_i hg;obtain⟨σ1,h2,h3⟩:=bind_some h1;refine⟨(σ1,sk),?_,h3⟩;have hd:Ef ops o (σ,sk)=some true:=by unfold Ef;rw[hg]
  unfold mR;rw[hd];dsimp only;rw[h2];rfl
 ·rename_i g want hg;split at h1
  ·cases h1
  ·rename_i dg hdg;cases hsk:sk g with
   | true =>
     rw[hsk] at h1;refine⟨(σ.aP o.dst .undef,gm i sk),?_,h1⟩;have hd:Ef ops o (σ,sk)=some false:=by unfold Ef;rw[hg];dsimp only;rw[hdg];dsimp only;rw[hsk];rfl
     unfold mR;rw[hd]
   | false =>
     rw[hsk] at h1;simp only[iA] at h1;split at h1
     ·rename_i c Fm;change Bool at c;have hn:=fL h1;have hd:Ef ops o (σ,sk)=some (c==want):=by unfold Ef;rw[hg];dsimp only;rw[hdg];dsimp only;rw[hsk];simp only[iA];rw[Fm]
      have hput:=Z9 Fm;have run:∀{σ1:St},(gV cx nb bf inl (yp cx nb o σ) o σ).run=some σ1→(c==want)=true→mR cx nb bf inl ops (yp cx nb o σ) i o (σ,sk)=some (σ1,sk):=fun h2 hw=>by
       unfold mR;rw[hd,hw];dsimp only;rw[h2];rfl
      have skip:(c==want)=false→mR cx nb bf inl ops (yp cx nb o σ) i o (σ,sk)=some (σ.aP o.dst .undef,gm i sk):=fun hw=>by
       unfold mR;rw[hd,hw]
      cases c with
      | true =>
        simp only[fy] at hn;rw[hput] at hn;cases want with
        | true=>obtain⟨σ1,h2,h3⟩:=bind_some hn;exact⟨(σ1,sk),run h2 rfl,h3⟩
        | false=>exact⟨_,skip rfl,hn⟩
      | false =>
        simp only[iA] at hn;rw[hput] at hn;cases want with
        | true=>exact⟨_,skip rfl,hn⟩
        | false=>obtain⟨σ1,h2,h3⟩:=bind_some hn;exact⟨(σ1,sk),run h2 rfl,h3⟩
     ·cases h1
theorem N2:∀(l:List Oper) (k:Nat) (done:List A9) (σ:St) (sk:Nat→Bool),(∀j o,l[j]?=some o→ops[k+j]?=some o)→rF ops done→(tL cx nb bf inl ops (number k l) done σ sk).run=some σ' →
  ∃(fs:List (Fp×Nat)) (sk':Nat→Bool),fs.length=l.length∧(∀j m b,fs[j]?=some m→Nat.testBit m.2 b=true→Reach ops (k+j) b) ∧
   ∀fp:Nat→Fp,(∀j f,fs[j]?=some f→fp (k+j)=f.1)→acs cx nb bf inl ops fp k l (σ,sk) (σ',sk')∧∀j o f,l[j]?=some o→fs[j]?=some f→D3 ops (k+j) o (fp (k+j)) f.2 done=true:=by
 intro l;induction l with
 | nil =>
   intro k done σ sk _ _ h;obtain rfl:=aG h;exact⟨[],sk,rfl,fun j m b h=>absurd h (by simp),fun fp _=>⟨rfl,fun j o f hj=>absurd hj (by simp)⟩⟩
 | cons o l ih =>
   intro k done σ sk hl hm h;obtain⟨s1,h2,h3,h4,h5⟩:=Mf (r:=number (k+1) l) h;have hk:ops[k]?=some o:=hl 0 o rfl;obtain⟨fs,sk',f1,fm,f2⟩:=ih (k+1) _ s1.1 s1.2 (fun j o' hj=>by have:=hl (j+1) o' (by simpa using hj);rw[←this];congr 1;omega) (hm.cons hk) h5;refine⟨(yp cx nb o σ,mask done o)::fs,sk',by simp[f1],fun j m b hj hb=>?_,fun fp YJ=>?_⟩
   ·cases j with
    | zero=>obtain rfl:=aG hj;exact Ee hm hk hb
    | succ j=>have:=fm j m b (by simpa using hj) hb;rw[show k+(j+1)=k+1+j by omega];exact this
   have h0:fp k=yp cx nb o σ:=YJ 0 _ rfl;obtain⟨g1,g2⟩:=f2 fp fun j f hj=>by have:=YJ (j+1) f (by simpa using hj);rw[←this];congr 1;omega
   refine⟨⟨⟨fun hb=>by rw[h0] at hb⊢;exact KX o σ hb,fun hb=>by rw[h0] at hb⊢;exact Z5 o σ hb⟩,h3,fun j oj hj=>?_,s1,by rw[h0];exact h4,g1⟩,fun j o' f hj hf=>?_⟩
   ·obtain⟨f,hf⟩:∃f,fs[j]?=some f:=⟨_,ru (by rw[f1];exact(List.getElem?_eq_some_iff.1 hj).1)⟩;rcases(IP (g2 j oj f hj hf)).1 with q|q
    ·exact .inl (fm j f k hf q)
    ·rw[h0];exact .inr q
   ·cases j with
    | zero =>
      obtain rfl:=aG hj;obtain rfl:=aG hf;rw[yf,h0];exact h2
    | succ j =>
      have:=(IP (g2 j o' f (by simpa using hj) (by simpa using hf))).2;rw[show k+(j+1)=k+1+j by omega];exact this
theorem aaa{s':Nx}:∀(l:List Oper) (k:Nat) (listed:Array Bool) (s:Nx),(∀j,l[j]?=ops[k+j]?)→listed.size=ops.size→(∀j,j<k→j<ops.size→listed.getD j false=true) →
  (∀j,k≤j→j<ops.size→listed.getD j true=false)→Qn ops listed→acs cx nb bf inl ops fp k l s s'→Qq cx nb bf inl ops fp (·=s') l.length listed s:=by
 intro l;induction l with
 | nil =>
   intro k listed s hl hs h1 h2 vk h;refine⟨?_,h⟩;cases hr:Region.ready .any ops listed with
   | nil=>rfl
   | cons i r =>
     exfalso;have hi:i∈Region.ready .any ops listed:=by rw[hr];exact sU ..
     obtain⟨g1,o,g2,_⟩:=mem_ready.1 hi;have hlt:i<ops.size:=(Array.getElem?_eq_some_iff.1 g2).1;rcases yg i k with hk|hk
     ·have:=h1 i hk hlt;simp[hs,hlt] at this g1;rw[this] at g1;cases g1
     ·have:=hl (i-k);rw[show k+(i-k)=i by omega,g2] at this;cases this
 | cons o l ih =>
   intro k listed s hl hs h1 h2 vk h;have hk:ops[k]?=some o:=by simpa using(hl 0).symm
   have hlt:k<ops.size:=(Array.getElem?_eq_some_iff.1 hk).1;obtain⟨c2,c3,c4,s1,c5,c6⟩:=h;have Mb:k∈Region.ready .any ops listed:=mem_ready.2 ⟨h2 k (mq _) hlt,o,hk,fun e he hb=>by
    have:=c3 e he hb;exact h1 e.on this (by omega)⟩
   refine Ve hk (fun b hb=>by
    cases Qm:(fp k).KO with
    | true=>rw[c2.2 Qm] at hb;cases hb
    | false=>exact(c2.1 Qm).sub b hb) l.length listed s s1 vk (fun j oj hj hne hun=>?_) Mb c5 (ih (k+1) _ s1 (fun j=>?_) (by simp[hs]) (fun j hj hjs=>?_) (fun j hj hjs=>?_) (vk.list Mb) c6)
   ·have Z7:j<ops.size:=(Array.getElem?_eq_some_iff.1 hj).1;rcases yg j k with hjk|hjk
    ·exfalso;have:=h1 j hjk Z7;simp[hs,Z7] at this hun;rw[this] at hun;cases hun
    ·have hq:=hl (j-k);rw[show k+(j-k)=j by omega,hj] at hq;obtain⟨m,hm⟩:∃m,j-k=m+1:=⟨j-k-1,by omega⟩;rw[hm] at hq;have:=c4 m oj (by simpa using hq);rw[show k+1+m=j by omega] at this;exact this
   ·have:=hl (j+1);rw[show k+1+j=k+(j+1) by omega,←this];simp
   ·by_cases e:j=k
    ·subst e;simp[hs,hlt]
    ·rw[getD_set_ne false (Lc e)];exact h1 j (by omega) hjs
   ·rw[getD_set_ne true (by omega:k≠j)];exact h2 j (by omega) hjs
theorem Vf(hkeep:∀f vals σ v σ',(inl f vals σ).run=some (v,σ')→aY σ σ'):∀(l:List Oper) (k:Nat) (done:List A9) (σ σ':St) (sk:Nat→Bool),(tL cx nb bf inl ops (number k l) done σ sk).run=some σ'→aY σ σ':=by
 intro l;induction l with
 | nil=>intro k done σ σ' sk h;obtain rfl:=aG h;exact aY.refl _
 | cons o l ih =>
   intro k done σ σ' sk h;obtain⟨s1,h2,h3,h4,h5⟩:=Mf (r:=number (k+1) l) h;refine aY.trans ?_ (ih _ _ _ _ _ h5);unfold mR at h4;split at h4
   ·cases h4
   ·obtain⟨σ1,q1,rfl⟩:=Option.map_eq_some_iff.1 h4;exact Bl hkeep σ1 (Cv (fun hb=>KX o σ hb) q1)
   ·obtain rfl:=aG h4;exact aY.aP _ _ _
end
end Go.Ge
namespace Go.Ge
open RowKit
section
variable {P:Program} {B:qq} {N:Nat} {γ:Gh} {cx:Ctx} {nb:Nat} {bf:List Nat} {inl:Nat→List aO→St→Tree (aO×St)} {σ σ':St} {ops:Array Oper} {fp:Nat→Fp}
theorem Vg{l:List Oper}{j:Nat}{o:Oper}{d:Nat}(h:l[j]?=some o)(hd:o.dst=some d):d∈jX.G6 l:=by
 induction l generalizing j with
 | nil=>cases h
 | cons p l ih =>
   cases j with
   | zero=>obtain rfl:=aG h;simp only[jX.G6,hd];exact sU ..
   | succ j =>
     have:=ih (j:=j) (by simpa using h);simp only[jX.G6];split
     ·exact vR _ this
     ·exact this
theorem Mg:∀{l:List Oper},jX l=true→∀{i j:Nat} {x y:Oper} {d:Nat},i<j→l[i]?=some x→l[j]?=some y→x.dst=some d→y.dst≠some d:=by
 intro l;induction l with
 | nil=>intro _ i j x y d _ h;cases h
 | cons p l ih =>
   intro h i j x y d hij hx hy hd he;simp only[jX,dW] at h;obtain⟨m,rfl⟩:∃m,j=m+1:=⟨j-1,by omega⟩;have hy':l[m]?=some y:=by simpa using hy
   cases i with
   | zero =>
     obtain rfl:=aG hx;have h1:=h.1;rw[hd] at h1;simp only[nj] at h1;exact jd.1 h1 (Vg hy' he)
   | succ i=>exact ih h.2 (i:=i) (j:=m) (by omega) (by simpa using hx) hy' hd he
theorem Vh(h:jX ops.toList=true){i j:Nat}{x y:Oper}{d:Nat}(hij:i≠j)(hx:ops[i]?=some x)(hy:ops[j]?=some y)(hd:x.dst=some d):y.dst≠some d:=by
 rcases Nat.lt_or_gt_of_ne hij with h1|h1
 ·exact Mg h h1 (by simpa using hx) (by simpa using hy) hd
 ·intro he;exact Mg h h1 (by simpa using hy) (by simpa using hx) he hd
def Vi(ops:Array Oper)(sk:Nat→Bool)(listed:Array Bool)(a:Act):Prop:=∀k,sk k=true→yielded ops a.tmps k=none∧listed.getD k true=true
theorem wq{a:Act}{i k:Nat}{o:Oper}{v:Value}(hnt:jX ops.toList=true)(hi:ops[i]?=some o)(hne:k≠i):yielded ops (a.put o.dst v).tmps k=yielded ops a.tmps k:=by
 unfold yielded;cases hk:ops[k]? with
 | none=>rfl
 | some y =>
   simp only[RL];cases hd:y.dst with
   | none=>rfl
   | some dk =>
     simp only[RL];have:o.dst≠some dk:=Vh hnt hne hk hi hd;rw[fA this]
theorem Vi.run{sk:Nat→Bool}{listed:Array Bool}{a:Act}{i:Nat}{o:Oper}{v:Value}(h:Vi ops sk listed a)(hnt:jX ops.toList=true)(hi:ops[i]?=some o)(hl:listed.getD i true=false):Vi ops sk (listed.setIfInBounds i true) (a.put o.dst v):=fun k hk=>by
 obtain⟨h1,h2⟩:=h k hk;have hne:k≠i:=fun e=>by subst e;rw[h2] at hl;cases hl
 exact⟨by rw[wq hnt hi hne];exact h1,by rw[getD_set_ne true (Lc hne)];exact h2⟩
theorem Vi.skip{sk:Nat→Bool}{listed:Array Bool}{a:Act}{i:Nat}{o:Oper}(h:Vi ops sk listed a)(hnt:jX ops.toList=true)(hi:ops[i]?=some o)(hl:listed.getD i true=false):Vi ops (gm i sk) (listed.setIfInBounds i true) (a.put o.dst Go.undef):=fun k hk=>by
 by_cases hne:k=i
 ·subst hne;refine⟨Fk hi,?_⟩;rcases yg k listed.size with h'|h'
  ·simp[h']
  ·simp[Y3 h'] at hl
 ·have hk':sk k=true:=by
   simp only[gm,gK hne,OW] at hk;exact hk
  obtain⟨h1,h2⟩:=h k hk';exact⟨by rw[wq hnt hi hne];exact h1,by rw[getD_set_ne true (Lc hne)];exact h2⟩
theorem N3(hc:eW P cx)(dB:oJ P B.G cx)(kX:wk P B.G inl){Q:Exit→Act→World→Prop}(hnt:jX ops.toList=true)(YJ:∀i o,ops[i]?=some o→(fp i).KO=false→SM cx nb o (fp i))
  (hd:∀o∈ops.toList,∀k,o.dst=some k→k<N):∀(n:Nat) (listed:Array Bool) (s:Nx) (γ:Gh) (a:Act) (w:World),Qq cx nb bf inl ops fp (fun s=>s.1=σ') n listed s→cF B N γ s.1 a w→Vi ops s.2 listed a →
   (∀γ' a' w',cF B N γ' σ' a' w'→Ext B γ s.1.mem w γ' σ'.mem w'→Fr (number 0 ops.toList) a a'→Q .normal a' w')→wpAny P .any ops Q n listed a w:=by
 intro n;induction n with
 | zero =>
   intro listed s γ a w h hs hsk hK;obtain⟨h1,h2⟩:=h;rw[←h2] at hK;exact⟨h1,hK γ a w hs (Ext.refl _ _ _ _) fun t _=>rfl⟩
 | succ n ih =>
   intro listed s γ a w h hs hsk hK;refine⟨fun h0=>?_,fun i hi=>?_⟩
   ·have h2:=h.1 h0;rw[←h2] at hK;exact hK γ a w hs (Ext.refl _ _ _ _) fun t _=>rfl
   ·obtain⟨o,s1,h1,h3,h4⟩:=h.2 i hi;have hun:=(mem_ready.1 hi).1;have hmem:o∈ops.toList:=by
     have:=Y4 h1;simpa using this
    have Wz:(i,o)∈number 0 ops.toList:=by
     have:=Mc (l:=ops.toList) (k:=0) (j:=i) (o:=o) (by simpa using h1);simpa using this
    have hw:∀b,Ef ops o s=some b→Region.wanted o (yielded ops a.tmps)=b:=by
     intro b hb;unfold Ef at hb;cases hgd:o.guard with
     | none =>
       rw[hgd] at hb;obtain rfl:=aG hb;unfold Region.wanted;rw[hgd]
     | some p =>
       obtain⟨g,want⟩:=p;rw[hgd] at hb;dsimp only at hb;split at hb
       ·cases hb
       ·rename_i dg hdg;cases hg:s.2 g with
        | true =>
          rw[hg] at hb;obtain rfl:=aG hb;unfold Region.wanted;rw[hgd];simp only[(hsk g hg).1];rfl
        | false =>
          rw[hg] at hb;simp only[iA] at hb;split at hb
          ·rename_i c Fm;change Bool at c;obtain rfl:=aG hb;have ht:=IL hs Fm;unfold Region.wanted;rw[hgd];simp only[yielded,hdg,RL,ht];cases c<;>cases want<;>rfl
          ·cases hb
    unfold wpOp;rw[h1];dsimp only;unfold mR at h3;split at h3
    ·cases h3
    ·rename_i ael;obtain⟨σ1,q1,rfl⟩:=Option.map_eq_some_iff.1 h3;rw[hw true ael];simp only[nk];refine .inl (LS hc dB kX hs (hd o hmem) (Cv (YJ i o h1) q1) fun ij v w1 s1 x1=>?_);refine ih _ (σ1,s.2) ij _ w1 h4 s1 (hsk.run hnt h1 hun) fun Hi a2 w2 s2 x2 f2=>hK Hi a2 w2 s2 (x1.trans x2) fun t ht=>?_;rw[f2 t ht,fA (Md ht Wz)]
    ·rename_i ael;obtain rfl:=aG h3;rw[hw false ael];simp only[Uo,G1];have hs1:cF B N γ (s.1.aP o.dst .undef) (a.put o.dst Go.undef) w:=hs.ve (hd o hmem) ⟨_,rfl⟩;have hm:(s.1.aP o.dst .undef).mem=s.1.mem:=by cases o.dst<;>rfl
     refine ih _ (s.1.aP o.dst .undef,gm i s.2) γ _ w h4 hs1 (hsk.skip hnt h1 hun) fun Hi a2 w2 s2 x2 f2=>hK Hi a2 w2 s2 (by rw[←hm];exact x2) fun t ht=>?_;rw[f2 t ht,fA (Md ht Wz)]
theorem Qq.mono{Q Q':Nx→Prop}(hq:∀s,Q s→Q' s):∀{n:Nat} {listed:Array Bool} {s:Nx},Qq cx nb bf inl ops fp Q n listed s→Qq cx nb bf inl ops fp Q' n listed s:=by
 intro n;induction n with
 | zero=>intro listed s h;exact⟨h.1,hq _ h.2⟩
 | succ n ih =>
   intro listed s h;refine⟨fun h0=>hq _ (h.1 h0),fun i hi=>?_⟩;obtain⟨o,s',h1,h2,h3⟩:=h.2 i hi;exact⟨o,s',h1,h2,ih h3⟩
theorem Qr(sw:P.follows .mixedOrders=true)(hc:eW P cx)(dB:oJ P B.G cx)(kX:wk P B.G inl){Q:Exit→Act→World→Prop}{id:Nat}{a:Act}{w:World}(hnt:jX ops.toList=true)
  (hd:∀o∈ops.toList,∀k,o.dst=some k→k<N) (hr:(tL cx nb bf inl ops (number 0 ops.toList) [] σ (fun _=>false)).run=some σ') (h:cF B N γ σ a w)
  (hK:∀γ' a' w',cF B N γ' σ' a' w'→Ext B γ σ.mem w γ' σ'.mem w'→Fr (number 0 ops.toList) a a'→Q .normal a' w'):(Code.region id ops true).wp P Q a w:=by
 refine wp_region_any sw ?_;obtain⟨fs,sk',f1,fm,f2⟩:=N2 (ops:=ops) ops.toList 0 [] σ (fun _=>false) (fun j o hj=>by simpa using hj) rF.nil hr
 let fp:Nat→Fp:=fun i=>(fs[i]?.map (·.1)).getD ⟨[],[],true,none⟩
 obtain⟨g1,_⟩:=f2 fp fun j f hj=>by simp[fp,hj]
 have key:∀(l:List Oper) (k:Nat) (s s':Nx),acs cx nb bf inl ops fp k l s s'→∀j o,l[j]?=some o→(fp (k+j)).KO=false→SM cx nb o (fp (k+j)):=by
  intro l;induction l with
  | nil=>intro k s s' _ j o hj;cases hj
  | cons o l ih =>
    intro k s s' hL j o' hj;obtain⟨c2,c3,c4,s1,c5,c6⟩:=hL;cases j with
    | zero=>obtain rfl:=aG hj;exact c2.1
    | succ j=>rw[show k+(j+1)=k+1+j by omega];exact ih (k+1) s1 s' c6 j o' (by simpa using hj)
 have hA:=aaa (ops:=ops) (cx:=cx) (nb:=nb) (bf:=bf) (inl:=inl) (fp:=fp) (s':=(σ',sk')) ops.toList 0 (Array.replicate ops.size false) (σ,fun _=>false) (by simp) (by simp) (fun j hj=>by omega)
  (fun j _ hj=>by simp[hj]) (fun i o e hi=>by
   exfalso;rcases yg i ops.size with h'|h'<;>simp[h'] at hi) g1
 have hA':=Qq.mono (Q':=fun s:Nx=>s.1=σ') (fun s hs=>by rw[hs]) hA;obtain⟨s1,x1⟩:=h.draw (w.drawn+1);refine N3 hc dB kX hnt (fun i o hi=>by have:=key _ 0 _ _ g1 i o (by simpa using hi);simpa using this) hd _ _ (σ,fun _=>false) γ a _ (by simpa using hA') s1 (fun k hk=>by cases hk) fun γ' a' w' s x f=>hK γ' a' w' s (x1.trans x) f
theorem SS(sw:P.follows .mixedOrders=true)(hc:eW P cx)(dB:oJ P B.G cx)(kX:wk P B.G inl){Q:Exit→Act→World→Prop}{id:Nat}{a:Act}{w:World}
  (hd:∀o∈ops.toList,∀k,o.dst=some k→k<N) (hr:(yu cx nb bf inl ops σ).run=some σ') (h:cF B N γ σ a w)
  (hK:∀γ' a' w',cF B N γ' σ' a' w'→Ext B γ σ.mem w γ' σ'.mem w'→Fr (number 0 ops.toList) a a'→Q .normal a' w'):(Code.region id ops true).wp P Q a w:=by
 unfold yu at hr;cases hg:ops.any fun o=>o.guard.isSome with
 | true =>
   rw[hg] at hr;obtain⟨hnt,hr2⟩:=aB (show(bif jX ops.toList then tL cx nb bf inl ops (number 0 ops.toList) [] σ (fun _=>false) else .fail).run=some σ' from hr);exact Qr sw hc dB kX hnt hd hr2 h hK
 | false =>
   rw[hg] at hr;exact Qp sw hc dB kX hd hr h hK
end
end Go.Ge
namespace Go.Ge
open RowKit
def ux(f:Nat→bE→Bool)(mem:Nat→Option bE):Nat→Option bE:=fun b=>match mem b with|some bx=>some { bx with lk:=f b bx }|none=>none
section
variable {P:Program} {B:qq} {N:Nat} {γ Vj:Gh} {mem m0 me m1:Nat→Option bE} {w w0:World} {f:Nat→bE→Bool}
theorem O9{b:Nat}{bx:bE}(h:mem b=some bx):ux f mem b=some { bx with lk:=f b bx }:=by simp[ux,h]
theorem SU{b:Nat}{bx:bE}(h:ux f mem b=some bx):∃cQ,mem b=some cQ∧bx={ cQ with lk:=f b cQ }:=by
 simp only[ux] at h;split at h
 ·rename_i cQ h0;exact⟨cQ,h0,(aG h).symm⟩
 ·cases h
theorem Ext.ux:Ext B γ mem w γ (ux f mem) w where
 below:=va.refl _ _
 I:=fun _ _ h=>h
 pE:=fun _ _ h=>.inl h
 cells:=fun _ _ _=>rfl
 boxes:=fun b bx hb=>⟨_,O9 hb,mq _,fun _=>⟨rfl,rfl,rfl⟩⟩
theorem bp.ux(h:bp B γ mem w):bp B γ (Go.Ge.ux f mem) w:=by
 have hne:∀{b},Go.Ge.ux f mem b≠none→mem b≠none:=by
  intro b hb hq;apply hb;simp[Go.Ge.ux,hq]
 exact
  { aH:=h.aH
    base:=h.base
    boxes:=fun b bx hb=>by
     obtain⟨cQ,h0,rfl⟩:=SU hb;exact(h.boxes b cQ h0).keep (Ext.ux (B:=B) (γ:=γ) (w:=w) (f:=f) (mem:=mem)) rfl (fun _ _ _=>rfl)
    inj:=fun b c blk k k' hb hc h1 h2=>h.inj b c blk k k' (hne hb) (hne hc) h1 h2
    fresh:=fun b blk k hb h1=>h.fresh b blk k (hne hb) h1
    tN:=h.tN
    sep:=fun b bx blk k off hb h1 hi=>by
     obtain⟨cQ,h0,rfl⟩:=SU hb;exact h.sep b cQ blk k off h0 h1 hi }
theorem cF.ux{σ:St}{a:Act}(h:cF B N γ σ a w):cF B N γ { σ with mem:=Go.Ge.ux f σ.mem } a w:=h.go Ext.ux h.ok.ux
def Mid(m0 me m1:Nat→Option bE):Prop:=∀b cQ,m0 b=some cQ→∃xy,m1 b=some xy∧cQ.aA≤xy.aA ∧
 (xy.aA=cQ.aA→∃AV,me b=some AV∧AV.aA=cQ.aA∧AV.buf=xy.buf∧AV.row=xy.row)
theorem lJ.down(hm:Mid m0 me m1){b aA:Nat}{K0 K K':bE→Prop}(h0:lJ m0 b aA K0)(h:lJ me b aA K)(hK:∀AV xy:bE,AV.buf=xy.buf→AV.row=xy.row→K AV→K' xy):lJ m1 b aA K':=by
 obtain⟨cQ,h1,h2,_⟩:=h0;obtain⟨AV,k1,k2,k3⟩:=h;obtain⟨xy,l1,l2,l3⟩:=hm b cQ h1;refine⟨xy,l1,by omega,fun e=>?_⟩;obtain⟨ahv,q1,q2,q3,q4⟩:=l3 (by omega);rw[k1] at q1;obtain rfl:=aG q1;exact hK AV xy q3 q4 (k3 (by omega))
theorem b6.down(hm:Mid m0 me m1):∀{v:aO} {m:Mode} {us vs:List Value},b6 Vj m0 w0 v m us→b6 γ me w v m vs→b6 γ m1 w v m vs:=by
 intro v;induction v with
 | undef=>intro m us vs _ r;cases m<;>exact r
 | data t x=>intro m us vs _ r;cases m<;>exact r
 | nr=>intro m us vs _ r;cases m<;>exact r
 | qL=>intro m us vs _ r;cases m<;>exact r
 | cell t x=>intro m us vs _ r;cases m<;>exact r
 | nl=>intro m us vs _ r;cases m<;>exact r
 | sg=>intro m us vs _ r;cases m<;>exact r
 | vY b aA =>
   intro m us vs r0 r;cases m with
   | many=>exact r
   | cells=>exact⟨r.1,r0.2.down hm r.2 fun _ _ _ _ k=>k⟩
   | val=>exact⟨r.1,r0.2.down hm r.2 fun _ _ _ _ k=>k⟩
 | ptr b aA p =>
   intro m us vs r0 r;cases m with
   | many=>exact r
   | cells=>exact⟨r.1,r0.2.down hm r.2 fun _ _ _ _ k=>k⟩
   | val=>exact⟨r.1,r0.2.down hm r.2 fun _ _ _ _ k=>k⟩
 | whole b aA =>
   intro m us vs r0 r;cases m with
   | many=>exact r
   | cells=>exact⟨r.1,r0.2.down hm r.2 fun _ _ e1 e2 k=>by rw[←e1,←e2];exact k⟩
   | val=>exact⟨r.1,r0.2.down hm r.2 fun _ _ e1 e2 k=>by rw[←e1,←e2];exact k⟩
 | part b aA lo n =>
   intro m us vs r0 r;cases m with
   | many=>exact r
   | cells=>exact⟨r.1,r0.2.down hm r.2 fun _ _ e1 e2 k=>by unfold EV at k⊢;rw[←e1,←e2];exact k⟩
   | val=>exact⟨r.1,r0.2.down hm r.2 fun _ _ e1 e2 k=>by unfold EV at k⊢;rw[←e1,←e2];exact k⟩
 | win b aA q e k lo n =>
   intro m us vs r0 r;cases m with
   | many=>exact r
   | cells=>exact⟨r.1,r0.2.down hm r.2 fun _ _ e1 e2 k=>k⟩
   | val=>exact⟨r.1,r0.2.down hm r.2 fun _ _ e1 e2 k=>k⟩
 | fn f caps =>
   intro m us vs r0 r;cases m with
   | many=>exact r
   | cells=>obtain⟨_,_,_,s⟩:=r0;obtain⟨arr,r1,r2,r3⟩:=r;exact⟨arr,r1,r2,fun i b aA hc=>(s i b aA hc).down hm (r3 i b aA hc) fun _ _ _ _ k=>k⟩
   | val=>obtain⟨_,_,_,s⟩:=r0;obtain⟨arr,r1,r2,r3⟩:=r;exact⟨arr,r1,r2,fun i b aA hc=>(s i b aA hc).down hm (r3 i b aA hc) fun _ _ _ _ k=>k⟩
 | mix a b jm lG =>
   intro m us vs r0 r;cases m with
   | cells=>obtain⟨_,_,_,s1,s2⟩:=r0;obtain⟨c1,c2,r0,r1,r2⟩:=r;exact⟨c1,c2,r0,jm s1 r1,lG s2 r2⟩
   | val=>obtain⟨_,_,_,s1,s2⟩:=r0;obtain⟨c1,c2,r0,r1,r2⟩:=r;exact⟨c1,c2,r0,jm s1 r1,lG s2 r2⟩
   | many=>obtain⟨_,_,_,s1,s2⟩:=r0;obtain⟨c1,c2,r0,r1,r2⟩:=r;exact⟨c1,c2,r0,jm s1 r1,lG s2 r2⟩
 | D1 u ih =>
   intro m us vs r0 r;cases m with
   | val=>obtain⟨_,_,s⟩:=r0;obtain⟨arr,r1,r2⟩:=r;exact⟨arr,r1,ih s r2⟩
   | cells=>exact r
   | many=>exact r
def aab(M V:Nat→Bool)(m0 me m1:Nat→Option bE):Prop:=∀b cQ,m0 b=some cQ→∃AV xy,me b=some AV∧m1 b=some xy∧AV.buf=cQ.buf∧xy.buf=cQ.buf∧xy.row=AV.row ∧
 xy.aA=(bif M b&&(cQ.buf||V b) then cQ.aA+1 else cQ.aA)∧((M b&&(cQ.buf||V b))=false→AV.aA=cQ.aA)
theorem aab.mid{M V:Nat→Bool}(h:aab M V m0 me m1):Mid m0 me m1:=fun b cQ hb=>by
 obtain⟨AV,xy,h1,h2,h3,h4,h5,h6,h7⟩:=h b cQ hb;cases hc:(M b&&(cQ.buf||V b)) with
 | true =>
   rw[hc] at h6;simp only[fy] at h6;exact⟨xy,h2,by omega,fun e=>absurd e (by omega)⟩
 | false =>
   rw[hc] at h6;simp only[iA] at h6;exact⟨xy,h2,by omega,fun e=>⟨AV,h1,h7 hc,h3.trans h4.symm,h5.symm⟩⟩
def Mh:Sh→aO→Prop
 | .d _,_=>True
 | .k v,u=>v=u
 | .m a b,u=>∃p q,u=.mix p q∧Mh a p∧Mh b q
theorem acu(v:aO):Mh (abW v) v:=by
 induction v with
 | mix a b jm lG=>exact⟨a,b,rfl,jm,lG⟩
 | data t x=>trivial
 | _=>rfl
theorem aac{t:Ty}{v:aO}{y:t.den}(h:toD t v=some y){m:Mode}{vs:List Value}(hv:b6 γ me w v m vs):b6 γ m1 w (.data t y) m vs:=by
 unfold toD at h;split at h
 ·obtain⟨q,hq⟩:=Ty.jU h;subst q;subst hq;cases m<;>exact hv
 ·split at h
  ·obtain rfl:=aG h;cases m with
   | many=>exact hv
   | cells=>exact .inl ⟨⟨none,hv⟩,rfl⟩
   | val=>exact⟨[.slice none 0 0],.inl ⟨⟨none,rfl⟩,rfl⟩,(show vs=[Value.slice none 0 0] from hv)⟩
  ·cases h
 ·cases h
theorem SV{M V:Nat→Bool}{jA oM:St}(hc:aab M V jA.mem oM.mem m1)(hV:∀b x,V b=true→jA.mem b=some x→x.buf=false){u v:aO}(hs:zn V jA oM u v=true){m:Mode}{us vs:List Value}(h0:b6 Vj jA.mem w0 u m us)(he:b6 γ oM.mem w v m vs) :
  b6 γ m1 w (bump M V u) m vs:=by
 unfold zn at hs;split at hs
 ·rename_i b aA p b' UC p';simp only[dW] at hs;obtain⟨⟨h1,h3⟩,h2⟩:=hs;obtain rfl:=fu h1;obtain rfl:=Ut h3;have still:aA=UC→(M b&&V b)=false→b6 γ m1 w (bump M V (.ptr b aA p)) m vs:=by
   intro e q;subst e;have e:bump M V (.ptr b aA p)=.ptr b aA p:=by simp only[bump,q];rfl
   rw[e];exact b6.down hc.mid h0 he
  cases hVb:V b with
  | false =>
    rw[hVb] at h2;exact still (fu h2) (by simp[hVb])
  | true =>
    rw[hVb] at h2;simp only[fy] at h2;split at h2
    ·rename_i x y hx hy;simp only[dW] at h2;have h4:=fu h2.1;have h5:=fu h2.2;obtain⟨AV,xy,g1,g2,g3,g4,g5,g6,g7⟩:=hc b x hx;rw[hy] at g1;obtain rfl:=aG g1;cases hM:M b with
     | false=>exact still (by have:=g7 (by simp[hM]);omega) (by simp[hM])
     | true =>
       have e:bump M V (.ptr b aA p)=.ptr b (aA+1) p:=by simp only[bump,hM,hVb];rfl
       have hv1:xy.aA=aA+1:=by rw[g6,hM,hVb];simp;omega
       rw[e];cases m with
       | many=>exact he
       | cells=>exact⟨he.1,xy,g2,by omega,fun _=>aV hy h5 he.2⟩
       | val=>exact⟨he.1,xy,g2,by omega,fun _=>aV hy h5 he.2⟩
    ·cases h2
 ·rename_i b aA b' UC;simp only[dW] at hs;obtain⟨h1,h2⟩:=hs;obtain rfl:=fu h1;split at h2
  ·rename_i x y hx hy;simp only[dW] at h2;obtain⟨⟨h3,h4⟩,h5⟩:=h2;have h3:=fu h3;have h4:=fu h4;obtain⟨AV,xy,g1,g2,g3,g4,g5,g6,g7⟩:=hc b x hx;rw[hy] at g1;obtain rfl:=aG g1;have hxb:x.buf=true:=by rw[←g3];exact h5
   have key:∀v1,xy.aA=v1→((∃v,vs=[v]∧v.oneCell'=true)∧lJ oM.mem b UC fun bx=>∃e n,bx.buf=true∧bx.row=some (e,n) ∧
     ((γ.loc b=none∧vs=[.slice none 0 0])∨∃blk cap,γ.loc b=some (blk,cap)∧vs=[.slice (some ⟨blk,0,none⟩) n cap])) →
     ((∃v,vs=[v]∧v.oneCell'=true)∧lJ m1 b v1 fun bx=>∃e n,bx.buf=true∧bx.row=some (e,n) ∧
     ((γ.loc b=none∧vs=[.slice none 0 0])∨∃blk cap,γ.loc b=some (blk,cap)∧vs=[.slice (some ⟨blk,0,none⟩) n cap])):=by
    intro v1 hv1 hr;have hk:=aV hy h4 hr.2;exact⟨hr.1,xy,g2,by omega,fun _=>by obtain⟨e,n,q1,q2,q3⟩:=hk;exact⟨e,n,g4.trans hxb,g5.trans q2,q3⟩⟩
   have hv1:∃v1,bump M V (.whole b aA)=.whole b v1∧xy.aA=v1:=by
    unfold bump;cases hM:M b with
    | true=>exact⟨aA+1,by simp[hM],by rw[g6,hM,hxb,←h3];rfl⟩
    | false=>exact⟨aA,by simp[hM],by rw[g6,hM,←h3];rfl⟩
   obtain⟨v1,e1,e2⟩:=hv1;rw[e1];cases m with
   | many=>exact he
   | cells=>exact key v1 e2 he
   | val=>exact key v1 e2 he
  ·cases h2
 ·rename_i f caps f' aiI;simp only[dW] at hs;obtain rfl:=fu hs.1;obtain rfl:=Uu hs.2;exact b6.down hc.mid h0 he
 ·cases m<;>exact he
 ·cases m<;>exact he
 ·simp only[dW] at hs;obtain rfl:=fu hs.1;obtain rfl:=fu hs.2;exact b6.down hc.mid h0 he
 ·cases hs
theorem aad{V:Nat→Bool}{jA σ:St}{u v:aO}:Sh.out V jA σ (.k u) v=bif zn V jA σ u v then some () else none:=rfl
theorem afE{V:Nat→Bool}{jA σ:St}{a b:Sh}{v w:aO}:Sh.out V jA σ (.m a b) (.mix v w)=(match Sh.out V jA σ a v,Sh.out V jA σ b w with
 | some x,some y=>some ((x,y):(Sh.m a b).ty.den)
 | _,_=>none):=rfl
theorem WA{M V:Nat→Bool}{jA oM:St}(hc:aab M V jA.mem oM.mem m1)(hV:∀b x,V b=true→jA.mem b=some x→x.buf=false):∀{s:Sh} {u v:aO} {y:s.ty.den} {m:Mode} {us vs:List Value},Mh s u→Sh.out V jA oM s v=some y →
  b6 Vj jA.mem w0 u m us→b6 γ oM.mem w v m vs→b6 γ m1 w (s.qO M V y) m vs:=by
 intro s;induction s with
 | d t=>intro u v y m us vs _ ho _ he;exact aac ho he
 | k x =>
   intro u v y m us vs hk ho h0 he;obtain rfl:=hk;rw[aad] at ho;cases hs:zn V jA oM x v with
   | false=>rw[hs] at ho;cases ho
   | true=>exact SV hc hV hs h0 he
 | m a b jm lG =>
   intro u v y m us vs hk ho h0 he;obtain⟨p,q,rfl,k1,k2⟩:=hk;cases v with
   | mix v1 v2 =>
     rw[afE] at ho;split at ho
     ·rename_i y1 y2 o1 o2;obtain rfl:=aG ho;cases m with
      | cells=>obtain⟨_,_,_,s1,s2⟩:=h0;obtain⟨c1,c2,r0,r1,r2⟩:=he;exact⟨c1,c2,r0,jm k1 o1 s1 r1,lG k2 o2 s2 r2⟩
      | val=>obtain⟨_,_,_,s1,s2⟩:=h0;obtain⟨c1,c2,r0,r1,r2⟩:=he;exact⟨c1,c2,r0,jm k1 o1 s1 r1,lG k2 o2 s2 r2⟩
      | many=>obtain⟨_,_,_,s1,s2⟩:=h0;obtain⟨c1,c2,r0,r1,r2⟩:=he;exact⟨c1,c2,r0,jm k1 o1 s1 r1,lG k2 o2 s2 r2⟩
     ·cases ho
   | _=>cases ho
theorem XM{t:Ty}{v:aO}{y:t.den}(h:toD t v=some y):(v=.data t y)∨(v=.nr∧∃e,t=.slice e):=by
 unfold toD at h;split at h
 ·obtain⟨q,hq⟩:=Ty.jU h;subst q;subst hq;exact .inl rfl
 ·split at h
  ·exact .inr ⟨rfl,_,rfl⟩
  ·cases h
 ·cases h
theorem WB{M V:Nat→Bool}{jA oM:St}{s:Sh}{AV xy:bE}{y:s.ty.den}(ho:Sh.out V jA oM s AV.val=some y)(hv:xy.val=s.qO M V y)(hb:xy.buf=AV.buf)(bu:AV.buf=true→∃e l,AV.val=.data (.slice e) l) :
  xy.row=AV.row∧(AV.buf=true→xy.val=AV.val):=by
 have afF:∀t x,AV.val=.data t x→xy.val=AV.val:=by
  intro t x hx;rw[hx] at ho;cases s with
  | d u =>
    obtain⟨q,hq⟩:=Ty.jU (show Ty.to t u x=some y from ho);subst q;subst hq;rw[hv,hx];rfl
  | k z=>rw[aad] at ho;unfold zn at ho;cases z<;>cases ho
  | m a b=>cases ho
 have hrow:∀{b1 b2:bE},b1.buf=b2.buf→b1.val=b2.val→b1.row=b2.row:=by
  intro b1 b2 h1 h2;unfold bE.row;rw[h1,h2]
 cases hx:AV.val with
 | data t x =>
   have:=afF t x hx;exact⟨hrow hb this,fun _=>by rw[this,hx]⟩
 | _ =>
   refine⟨?_,fun h=>by obtain⟨e,l,q⟩:=bu h;rw[hx] at q;cases q⟩;cases hq:AV.buf with
   | true=>obtain⟨e,l,q⟩:=bu hq;rw[hx] at q;cases q
   | false =>
     have e1:AV.row=none:=by unfold bE.row;rw[hq,hx]
     rw[e1];unfold bE.row;rw[hb,hq,hv];rw[hx] at ho;cases s with
     | d u =>
       rcases XM (show toD u _=some y from ho) with q|⟨q,e,rfl⟩
       ·first|cases q|exact absurd hx (by rw[q];intro k;cases k)
       ·rfl
     | k z =>
       rw[aad] at ho;simp only[Sh.qO];have hnd:∀t x,bump M V z≠.data t x:=by
        intro t x q;cases z with
        | data t' x'=>unfold zn at ho;cases ho
        | whole b v=>simp only[bump] at q;cases hM:M b<;>rw[hM] at q<;>cases q
        | ptr b v p=>simp only[bump] at q;cases hM:(M b&&V b)<;>rw[hM] at q<;>cases q
        | _=>cases q
       split<;>first|rfl|(rename_i hh;exact absurd hh (hnd _ _))
     | m a b=>rfl
end
end Go.Ge
namespace Go.Ge
open RowKit
section
variable {P:Program} {B:qq} {N:Nat} {γ Vj:Gh} {w w0:World} {jA oM:St} {a a0:Act} {M V:Nat→Bool}
theorem aae:∀{l:List (Nat×Sh)} {x:(tyS l).den},abX V jA oM l=some x→∀t,(PI M V l x t=none∧∀s,(t,s)∉l)∨∃s y,(t,s)∈l∧Sh.out V jA oM s (oM.slots t)=some y∧PI M V l x t=some (s.qO M V y):=by
 intro l;induction l with
 | nil=>intro x _ t;exact .inl ⟨rfl,fun s h=>by cases h⟩
 | cons p r ih =>
   obtain⟨i,s⟩:=p;intro x h t;simp only[abX] at h;split at h
   ·rename_i y z h1 h2;obtain rfl:=aG h;by_cases e:t=i
    ·subst e;refine .inr ⟨s,y,sU ..,h1,?_⟩;show(bif Nat.beq t t then some (s.qO M V y) else PI M V r z t)=_
     simp
    ·have hb:Nat.beq t i=false:=gK e;have hq:PI M V ((i,s)::r) ((y,z):(tyS ((i,s)::r)).den) t=PI M V r z t:=by
      show(bif Nat.beq t i then some (s.qO M V y) else PI M V r z t)=_
      rw[hb];rfl
     rw[hq];rcases ih h2 t with ⟨k1,k2⟩|⟨s',y',k1,k2,k3⟩
     ·refine .inl ⟨k1,fun s' hm=>?_⟩;rcases List.mem_cons.1 hm with hm|hm
      ·exact e (ec hm).1
      ·exact k2 s' hm
     ·exact .inr ⟨s',y',vR _ k1,k2,k3⟩
   ·cases h
theorem Eg{fz mv:Bool}{bx b:bE}(h:Iz fz mv bx b=true):(bx.ro=true→(b.ro||fz)=true)∧bx.buf=b.buf∧((b.buf||mv)=false→bx.aA=b.aA):=by
 simp only[Iz,dW,EK,beq_iff_eq] at h;obtain⟨⟨⟨h1,h2⟩,h3⟩,h4⟩:=h;refine⟨fun hr=>by rcases h1 with h1|h1<;>simp[h1,←hr],h3,fun hb=>?_⟩;obtain⟨hb,hm⟩:=Bool.or_eq_false_iff.1 hb;rcases h4 with (h4|h4)|h4
 ·rw[h3,hb] at h4;cases h4
 ·rw[hm] at h4;cases h4
 ·exact fu h4
theorem XN{fz mv:Bool}{bx b:bE}(h:Iz fz mv bx b=true):bx.tid=b.tid:=by
 simp only[Iz,dW] at h;exact fu h.1.1.2
theorem SW{fz:Bool}:∀{l:List (Nat×Sh×bE)} {x:(tyM l).den},abY V fz jA oM l=some x→∀t,(Ll fz M V l x t=none∧ya l t=false) ∨
  ∃s b y bx,ya l t=true∧(t,s,b)∈l∧oM.mem t=some bx∧Iz fz (V t) bx b=true∧Sh.out V jA oM s bx.val=some y∧Ll fz M V l x t=some { b with val:=s.qO M V y,ro:=b.ro||fz,aA:=bif b.buf||V t then b.aA+1 else b.aA }:=by
 intro l;induction l with
 | nil=>intro x _ t;exact .inl ⟨rfl,rfl⟩
 | cons p r ih =>
   obtain⟨i,s,b⟩:=p;intro x h t;simp only[abY] at h;split at h
   ·rename_i bx qs;cases hok:Iz fz (V i) bx b with
    | false=>rw[hok] at h;cases h
    | true =>
      rw[hok] at h;simp only[fy] at h;split at h
      ·rename_i y z h1 h2;obtain rfl:=aG h;by_cases e:t=i
       ·subst e;refine .inr ⟨s,b,y,bx,by simp[ya],sU ..,qs,hok,h1,?_⟩;show(bif Nat.beq t t then some { b with val:=s.qO M V y,ro:=b.ro||fz,aA:=bif b.buf||V t then b.aA+1 else b.aA } else Ll fz M V r z t)=_
        simp
       ·have hb:Nat.beq t i=false:=gK e;have hq:Ll fz M V ((i,s,b)::r) ((y,z):(tyM ((i,s,b)::r)).den) t=Ll fz M V r z t:=by
         show(bif Nat.beq t i then some { b with val:=s.qO M V y,ro:=b.ro||fz,aA:=bif b.buf||V t then b.aA+1 else b.aA } else Ll fz M V r z t)=_
         rw[hb];rfl
        have hq2:ya ((i,s,b)::r) t=ya r t:=by simp only[ya,hb,OW]
        rw[hq,hq2];rcases ih h2 t with k|⟨s',b',y',gy,k0,k1,k2⟩
        ·exact .inl k
        ·exact .inr ⟨s',b',y',gy,k0,vR _ k1,k2⟩
      ·cases h
   ·cases h
structure Cx (k:Carry) (jA:St):Prop where
 S:∀t s,(t,s)∈k.S→Mh s (jA.slots t)
 M:∀b s bx,(b,s,bx)∈k.M→jA.mem b=some bx∧Mh s bx.val∧bx.lk=false
 V:∀b x,k.V b=true→jA.mem b=some x→x.buf=false
theorem aem{cx:Ctx}{σ:St}:∀{p:List (Nat×Nat)} {l:List (Nat×Sh)},mkS cx σ p=some l→∀t s,(t,s)∈l→Mh s (σ.slots t):=by
 intro p;induction p with
 | nil=>intro l h t s hm;obtain rfl:=aG h;cases hm
 | cons q r ih =>
   obtain⟨i,ty⟩:=q;intro l h t s hm;simp only[mkS] at h;split at h
   ·cases h
   ·rename_i l' hl';have fin:∀s0,Mh s0 (σ.slots i)→some ((i,s0)::l')=some l→Mh s (σ.slots t):=by
     intro s0 h0 e;obtain rfl:=aG e;rcases List.mem_cons.1 hm with hm|hm
     ·obtain⟨rfl,rfl⟩:=ec hm;exact h0
     ·exact ih hl' t s hm
    cases hty:Nat.beq ty 999999 with
    | true =>
      rw[hty] at h;simp only[fy] at h;split at h
      ·rename_i b v hv;exact fin (.k _) hv.symm h
      ·obtain rfl:=aG h;exact ih hl' t s hm
    | false =>
    rw[hty] at h;simp only[iA] at h;split at h
    ·exact fin (.d _) trivial h
    ·split at h
     ·exact fin (.d _) trivial h
     ·cases h
    ·split at h
     ·exact fin (.d _) trivial h
     ·cases h
    ·exact fin (.k _) rfl h
theorem aaf{σ:St}:∀{p:List Nat} {l:List (Nat×Sh×bE)},mkM σ p=some l→∀b s bx,(b,s,bx)∈l→σ.mem b=some bx∧Mh s bx.val∧bx.lk=false:=by
 intro p;induction p with
 | nil=>intro l h b s bx hm;obtain rfl:=aG h;cases hm
 | cons i r ih =>
   intro l h b s bx hm;simp only[mkM] at h;split at h
   ·rename_i cQ l' hb hl';cases hlk:cQ.lk with
    | true=>rw[hlk] at h;cases h
    | false =>
      rw[hlk] at h;obtain rfl:=aG h;rcases List.mem_cons.1 hm with hm|hm
      ·injection hm with e1 hm
       injection hm with e2 e3
       subst e1;subst e2;subst e3;exact⟨hb,acu _,hlk⟩
      ·exact ih hl' b s bx hm
   ·cases h
theorem zw{cx:Ctx}{nb:Nat}{bf:List Nat}{σ:St}{p:R5}{k:Carry}(h:KT cx nb bf σ p=some k):Cx k σ:=by
 unfold KT at h;split at h
 ·rename_i s m hs hm;obtain rfl:=aG h;refine⟨aem hs,aaf hm,fun b x hb hx=>?_⟩;simp only[afb,hx,dW,nj] at hb;exact hb.2.1
 ·cases h
theorem acv{l:List (Nat×Sh×bE)}{b:Nat}(h:ya l b=true):∃s bx,(b,s,bx)∈l:=by
 induction l with
 | nil=>cases h
 | cons p r ih =>
   obtain⟨i,s,bx⟩:=p;simp only[ya,EK] at h;rcases h with h|h
   ·obtain rfl:=fu h;exact⟨s,bx,sU ..⟩
   ·obtain⟨s',gy,hm⟩:=ih h;exact⟨s',gy,vR _ hm⟩
theorem sx{k:Carry}{fz lock:Bool}{wr:List Nat}{x:k.ty.den}(hk:Cx k jA)(h0:cF B N Vj jA a0 w0)(he:cF B N γ oM a w)(hx:Ext B Vj jA.mem w0 γ oM.mem w)
  (hf:∀t,cC wr t=false→a.tmps[t]?=a0.tmps[t]?) (hkeep:∀b bx,jA.mem b=some bx→ya k.M b=false→∃bl,oM.mem b=some { bx with lk:=bl }) (ho:k.out fz jA oM=some x) :
  cF B N γ (k.qO fz lock wr jA x) a w∧Ext B Vj jA.mem w0 γ (k.qO fz lock wr jA x).mem w:=by
 unfold Carry.out at ho;split at ho
 case h_2=>cases ho
 rename_i xs xm hxs hxm;obtain rfl:=aG ho;generalize afH:k.qO fz lock wr jA (xs,xm)=σ1;have Fm:∀t,σ1.slots t=match PI (ya k.M) k.V k.S xs t with|some v=>v|none=>bif cC wr t then .undef else jA.slots t:=fun t=>by rw[←afH];rfl
 have hmem:∀b,σ1.mem b=match Ll fz (ya k.M) k.V k.M xm b with|some bx=>some bx|none=>match jA.mem b with|some bx=>some { bx with lk:=bx.lk||lock }|none=>none:=fun b=>by rw[←afH];rfl
 have acw:∀b,ya k.M b=false→σ1.mem b=match jA.mem b with|some bx=>some { bx with lk:=bx.lk||lock }|none=>none:=by
  intro b hb;rw[hmem b];rcases SW (M:=ya k.M) hxm b with ⟨q,_⟩|⟨s,b',y,bx,q,_⟩
  ·rw[q]
  ·rw[hb] at q;cases q
 have here:∀b,ya k.M b=true→∃s b0 y bx,jA.mem b=some b0∧Mh s b0.val∧oM.mem b=some bx∧Iz fz (k.V b) bx b0=true∧Sh.out k.V jA oM s bx.val=some y ∧
   σ1.mem b=some { b0 with val:=s.qO (ya k.M) k.V y,ro:=b0.ro||fz,aA:=bif b0.buf||k.V b then b0.aA+1 else b0.aA }:=by
  intro b hb;rcases SW (M:=ya k.M) hxm b with ⟨_,q⟩|⟨s,b0,y,bx,q,q1,q2,q3,q4,q5⟩
  ·rw[hb] at q;cases q
  ·obtain⟨k1,k2,_⟩:=hk.M b s b0 q1;exact⟨s,b0,y,bx,k1,k2,q2,q3,q4,by rw[hmem b,q5]⟩
 have aag:∀b bx,oM.mem b=some bx→bx.buf=true→∃e l,bx.val=.data (.slice e) l:=by
  intro b bx hb bu;have:=he.ok.boxes b bx hb;rw[cr,bu] at this;obtain⟨e,l,q,_⟩:=this;exact⟨e,l,q⟩
 have hC:aab (ya k.M) k.V jA.mem oM.mem σ1.mem:=by
  intro b cQ hb;cases hin:ya k.M b with
  | false =>
    obtain⟨bl,hbl⟩:=hkeep b cQ hb hin;have h1:=acw b hin;rw[hb] at h1;exact⟨_,_,hbl,h1,rfl,rfl,rfl,by simp,fun _=>rfl⟩
  | true =>
    obtain⟨s,b0,y,bx,g1,g2,g3,g4,g5,g6⟩:=here b hin;rw[hb] at g1;obtain rfl:=aG g1;obtain⟨o1,o2,o3⟩:=Eg g4;obtain⟨r1,r2⟩:=WB (M:=ya k.M) (V:=k.V) (xy:={ cQ with val:=s.qO (ya k.M) k.V y,ro:=cQ.ro||fz,aA:=bif cQ.buf||k.V b then cQ.aA+1 else cQ.aA }) g5 rfl o2.symm (aag b bx g3);refine⟨bx,_,g3,g6,o2,rfl,r1,by simp,fun hq=>o3 ?_⟩;simpa using hq
 have hE:Ext B Vj jA.mem w0 γ σ1.mem w :=
  { below:=hx.below
    I:=hx.I
    pE:=hx.pE
    cells:=hx.cells
    boxes:=fun b cQ hb=>by
     obtain⟨AV,xy,c1,c2,c3,c4,c5,c6,c7⟩:=hC b cQ hb;obtain⟨ahv,e1,e2,e3⟩:=hx.boxes b cQ hb;rw[c1] at e1;obtain rfl:=aG e1;cases hq:(ya k.M b&&(cQ.buf||k.V b)) with
     | true =>
       rw[hq] at c6;simp only[fy] at c6;exact⟨xy,c2,by omega,fun e=>absurd e (by omega)⟩
     | false =>
       rw[hq] at c6;simp only[iA] at c6;obtain⟨r1,r2,r3⟩:=e3 (c7 hq);exact⟨xy,c2,by omega,fun _=>⟨r1,c4,c5.trans r3⟩⟩ }
 refine⟨⟨fun t=>?_,he.size,he.defers,?_⟩,hE⟩
 ·rw[Fm t];rcases aae (M:=ya k.M) hxs t with ⟨q,_⟩|⟨s,y,q1,q2,q3⟩
  ·rw[q];simp only;cases hw:cC wr t with
   | true=>exact⟨_,rfl⟩
   | false =>
     have:a.tmps.getD t undef=a0.tmps.getD t undef:=by simp only[YR,hf t hw]
     rw[this];exact(h0.slots t).ext hE
  ·rw[q3];exact WA hC hk.V (hk.S t s q1) q2 (h0.slots t) (he.slots t)
 ·have hne:∀b,σ1.mem b≠none→∃cQ,jA.mem b=some cQ:=by
   intro b hb;cases hin:ya k.M b with
   | true=>obtain⟨s,b0,y,bx,g1,_⟩:=here b hin;exact⟨b0,g1⟩
   | false =>
     rw[acw b hin] at hb;cases hq:jA.mem b with
     | none=>rw[hq] at hb;exact absurd rfl hb
     | some cQ=>exact⟨cQ,rfl⟩
  have aen:∀b,σ1.mem b≠none→oM.mem b≠none:=by
   intro b hb;obtain⟨cQ,h1⟩:=hne b hb;obtain⟨AV,xy,c1,_⟩:=hC b cQ h1;rw[c1];simp
  exact
   { aH:=he.ok.aH
     base:=he.ok.base
     boxes:=fun b xy hb=>by
      cases hin:ya k.M b with
      | true =>
        obtain⟨s,b0,y,bx,g1,g2,g3,g4,g5,g6⟩:=here b hin;rw[hb] at g6;obtain rfl:=aG g6;obtain⟨o1,o2,o3⟩:=Eg g4;have o4:=XN g4;obtain⟨r1,r2⟩:=WB (M:=ya k.M) (V:=k.V) (xy:={ b0 with val:=s.qO (ya k.M) k.V y,ro:=b0.ro||fz,aA:=bif b0.buf||k.V b then b0.aA+1 else b0.aA }) g5 rfl o2.symm (aag b bx g3);have ig:=he.ok.boxes b bx g3;have Vk:=h0.ok.boxes b b0 g1;unfold cr at ig Vk⊢;dsimp only at r2⊢;rcases adt bx.buf with hb1|hb1
        ·rw[hb1] at ig;rw[←o2,hb1,r2 hb1,←o4];exact ig
        ·rw[hb1] at ig;rw[←o2,hb1];rw[←o2,hb1] at Vk;obtain⟨_,_,_,_,_,_,_,_,_,z⟩:=Vk;obtain⟨blk,cap,cur,tid,fr,z1,z2,z3,gL,z4⟩:=ig;exact⟨blk,cap,cur,tid,fr,z1,z2,z3,o4▸gL,WA hC hk.V g2 g5 z z4⟩
      | false =>
        have h1:=acw b hin;rw[hb] at h1;cases hq:jA.mem b with
        | none=>rw[hq] at h1;cases h1
        | some cQ =>
          rw[hq] at h1;obtain rfl:=aG h1;obtain⟨bl,hbl⟩:=hkeep b cQ hq hin;have ig:=he.ok.boxes b _ hbl;have Vk:=h0.ok.boxes b cQ hq;unfold cr at ig Vk⊢;dsimp only at ig⊢;rcases adt cQ.buf with hb1|hb1
          ·rw[hb1] at ig⊢;exact ig
          ·rw[hb1] at ig Vk⊢;obtain⟨_,_,_,_,_,_,_,_,_,z⟩:=Vk;obtain⟨blk,cap,cur,tid,fr,z1,z2,z3,gL,z4⟩:=ig;exact⟨blk,cap,cur,tid,fr,z1,z2,z3,gL,b6.down hC.mid z z4⟩
     inj:=fun b c blk k1 k2 hb hc h1 h2=>he.ok.inj b c blk k1 k2 (aen b hb) (aen c hc) h1 h2
     fresh:=fun b blk k1 hb h1=>he.ok.fresh b blk k1 (aen b hb) h1
     tN:=he.ok.tN
     sep:=fun b xy blk k1 off hb h1 hi=>by
      obtain⟨cQ,q0⟩:=hne b (by rw[hb];simp);obtain⟨AV,ajF,c1,c2,c3,c4,c5,c6,c7⟩:=hC b cQ q0;rw[hb] at c2;obtain rfl:=aG c2;obtain⟨s1,s2⟩:=he.ok.sep b AV blk k1 off c1 h1 hi;have hro:AV.ro=true→xy.ro=true:=by
       cases hin:ya k.M b with
       | true =>
         obtain⟨s,b0,y,bx,g1,g2,g3,g4,g5,g6⟩:=here b hin;rw[c1] at g3;obtain rfl:=aG g3;rw[hb] at g6;obtain rfl:=aG g6;exact(Eg g4).1
       | false =>
         have h1:=acw b hin;rw[hb,q0] at h1;obtain rfl:=aG h1;obtain⟨bl,hbl⟩:=hkeep b cQ q0 hin;rw[c1] at hbl;obtain rfl:=aG hbl;exact fun h=>h
      exact⟨hro s1,fun bu e n hr=>s2 (by rw[c3,←c4];exact bu) e n (by rw[←c5];exact hr)⟩ }
end
end Go.Ge
namespace Go.Ge
variable [Lp]
open RowKit
theorem Ft{p:Nat→Prop}(h:∃n,p n):∃n,p n∧∀m,p m→n≤m:=by
 obtain⟨n,hn⟩:=h;induction n using Nat.strongRecOn with
 | _ n ih =>
   by_cases h:∃m,m<n∧p m
   ·obtain⟨m,h1,h2⟩:=h;exact ih m h1 h2
   ·exact⟨n,hn,fun m hm=>Nat.le_of_not_lt fun hlt=>h ⟨m,hlt,hm⟩⟩
open Classical in
noncomputable def least(p:Nat→Prop):Nat:=if h:∃n,p n then Classical.choose (Ft h) else 0
theorem Mi{p:Nat→Prop}(h:∃n,p n):p (least p)∧∀m,p m→least p≤m:=by
 unfold least;rw[dif_pos h];exact Nz (Ft h)
theorem Hu{P:Program}{c:Code}{Q:Exit→Act→World→Prop}{a:Act}{w:World}(I:Nat→Act→World→Prop){n:Nat}(h0:I n a w)
  (round:∀n a w,I n a w→c.wp P (Exit.then (fun a' w'=>∃m,m<n∧I m a' w') Q) a w):(Code.loop c).wp P Q a w:=by
 refine wp_loop (fun a w=>∃n,I n a w) (fun a w=>least fun n=>I n a w) ⟨n,h0⟩ fun a w h=>?_;obtain⟨h1,h2⟩:=Mi h;refine wp_mono (round _ a w h1) fun e a' w' hq=>?_;cases e with
 | normal =>
   obtain⟨m,m1,m2⟩:=hq;exact⟨⟨m,m2⟩,Nat.lt_of_le_of_lt ((Mi ⟨m,m2⟩).2 m m2) m1⟩
 | _=>exact hq
def Mj:Nat→Exit
 | 0=>.normal
 | 1=>.ret
 | i+2=>.exit i
theorem IQ{l m:List Nat}{t:Nat}:cC (l++m) t=(cC l t||cC m t):=by
 induction l with
 | nil=>rfl
 | cons i r ih=>simp only[Zi,cC,ih,Zp]
def Fu(ws:List Nat)(a a':Act):Prop:=∀t,cC ws t=false→a'.tmps[t]?=a.tmps[t]?
theorem Fu.refl(ws:List Nat)(a:Act):Fu ws a a:=fun _ _=>rfl
theorem Fu.trans{ws:List Nat}{a b c:Act}(h:Fu ws a b)(k:Fu ws b c):Fu ws a c:=fun t ht=>(k t ht).trans (h t ht)
theorem Fu.left{ws vs:List Nat}{a b:Act}(h:Fu ws a b):Fu (ws++vs) a b:=fun t ht=>h t (by rw[IQ,CK] at ht;exact ht.1)
theorem Fu.right{ws vs:List Nat}{a b:Act}(h:Fu vs a b):Fu (ws++vs) a b:=fun t ht=>h t (by rw[IQ,CK] at ht;exact ht.2)
theorem SX{t:Nat}:∀{l:List Oper} {k:Nat},cC (pq l) t=false→mA t (number k l)=false:=by
 intro l;induction l with
 | nil=>intro k _;rfl
 | cons o l ih =>
   intro k h;simp only[number,mA];cases hd:o.dst with
   | none=>simp only[pq,hd] at h;rw[ih h];rfl
   | some d =>
     simp only[pq,hd,cC,CK] at h;rw[ih h.2];simp only[Zo];exact gK fun e=>by subst e;simp at h
theorem Qs{l:List Oper}{o:Oper}(h:o∈l){k:Nat}(hk:o.dst=some k):k∈pq l:=by
 induction l with
 | nil=>cases h
 | cons p l ih =>
   rcases List.mem_cons.1 h with h|h
   ·subst h;simp only[pq,hk];exact sU ..
   ·simp only[pq];split
    ·exact vR _ (ih h)
    ·exact ih h
theorem Pb{α:Type}{f:Nat→Tree α}:∀{es:List Nat} {e i:Nat},JD es e=some i→(ER es i f).run=(f e).run:=by
 intro es;induction es with
 | nil=>intro e i h;cases h
 | cons k r ih =>
   intro e i h;simp only[JD] at h;have one:∀{b:Bool},(bif b then some 0 else(JD r e).map (·+1))=some i→(b=true∧i=0)∨(b=false∧∃j,JD r e=some j∧i=j+1):=by
    intro b hb;cases b with
    | true=>exact .inl ⟨rfl,(aG hb).symm⟩
    | false =>
      obtain⟨j,h1,h2⟩:=Option.map_eq_some_iff.1 hb;exact .inr ⟨rfl,j,h1,h2.symm⟩
   rcases one h with ⟨h1,rfl⟩|⟨h1,j,h2,rfl⟩
   ·obtain rfl:=fu h1;cases r with
    | nil=>rfl
    | cons m s=>rfl
   ·cases r with
    | nil=>cases h2
    | cons m s=>exact ih h2
section
variable {P:Program} {B:qq} {N:Nat} {cx:Ctx} {nb:Nat} {bf:List Nat} {inl:Nat→List aO→St→Tree (aO×St)}
theorem Vl(hkeep:∀f vals σ v σ',(inl f vals σ).run=some (v,σ')→aY σ σ'):∀(l:List Oper) (k:Nat) (done:List A9) (σ σ':St),(Lj cx nb bf inl (number k l) done σ).run=some σ'→aY σ σ':=by
 intro l;induction l with
 | nil=>intro k done σ σ' h;obtain rfl:=aG h;exact aY.refl _
 | cons o l ih =>
   intro k done σ σ' h;simp only[number,Lj] at h;split at h
   ·cases h
   ·obtain⟨hc,h1⟩:=aB h;obtain⟨σ1,h2,h3⟩:=bind_some h1;exact(Bl hkeep σ1 (Cv (fun hb=>KX o σ hb) h2)).trans (ih _ _ _ _ h3)
theorem XO{fz:Bool}{M V:Nat→Bool}:∀{l:List (Nat×Sh×bE)} {x:(tyM l).den} {t:Nat},ya l t=false→Ll fz M V l x t=none:=by
 intro l;induction l with
 | nil=>intro x t _;rfl
 | cons p r ih =>
   obtain⟨i,s,b⟩:=p;intro x t h;simp only[ya,CK] at h;simp only[Ll,h.1,iA];exact ih h.2
theorem SY{k:Carry}{fz lock:Bool}{wr:List Nat}{σ:St}{x:k.ty.den}{b:Nat}{bx:bE}(hb:σ.mem b=some bx)(h:ya k.M b=false):(k.qO fz lock wr σ x).mem b=some { bx with lk:=bx.lk||lock }:=by
 simp only[Carry.qO];rw[XO h,hb]
theorem Bp{k:Carry}{fz lock:Bool}{wr:List Nat}{σ:St}{x:k.ty.den}(hk:Cx k σ):aY σ (k.qO fz lock wr σ x):=by
 intro b bx hb hl;have:ya k.M b=false:=by
  cases hq:ya k.M b with
  | false=>rfl
  | true =>
    obtain⟨s,b0,hm⟩:=acv hq;obtain⟨h1,_,h3⟩:=hk.M b s b0 hm;rw[hb] at h1;obtain rfl:=aG h1;rw[hl] at h3;cases h3
 rw[SY hb this];cases bx;simp only at hl;subst hl;rfl
theorem IU{α:Type}{Q:α→Prop}{f:Nat→Tree α}(hf:∀e y,(f e).run=some y→Q y):∀{es:List Nat} {i:Nat} {y:α},(ER es i f).run=some y→Q y:=by
 intro es;induction es with
 | nil=>intro i y h;cases h
 | cons k r ih =>
   intro i y h;cases r with
   | nil=>exact hf k y h
   | cons m s =>
     have:=fL h;cases hq:eY i 0 with
     | true=>rw[hq] at this;exact hf k y this
     | false=>rw[hq] at this;exact ih this
theorem Mk:∀{l:List Nat} {σ σ':St},EP l σ=some σ'→aY σ σ':=by
 intro l;induction l with
 | nil=>intro σ σ' h;obtain rfl:=aG h;exact aY.refl _
 | cons m r ih =>
   intro σ σ' h;unfold EP at h;cases hm:Nat.ble 2000000 m with
   | false=>rw[hm] at h;exact ih h
   | true =>
     rw[hm] at h;simp only[fy] at h;split at h
     ·split at h
      ·split at h
       ·split at h
        ·rename_i hg;exact(oL hg).trans ((aY.put _ _ _).trans (ih h))
        ·cases h
       ·cases h
      ·cases h
     ·exact ih h
theorem IV{B:qq}{N:Nat}{a:Act}{w:World}:∀{l:List Nat} {σ σ':St} {γ:Gh},EP l σ=some σ'→cF B N γ σ a w→∃γ',cF B N γ' σ' a w∧Ext B γ σ.mem w γ' σ'.mem w:=by
 intro l;induction l with
 | nil=>intro σ σ' γ h hs;obtain rfl:=aG h;exact⟨γ,hs,Ext.refl _ _ _ _⟩
 | cons m r ih =>
   intro σ σ' γ h hs;unfold EP at h;cases hm:Nat.ble 2000000 m with
   | false=>rw[hm] at h;exact ih h hs
   | true =>
     rw[hm] at h;simp only[fy] at h;generalize m-2000000=k at h;split at h
     ·split at h
      ·split at h
       ·split at h
        ·rename_i x σ1 hg;have hv:=hs.slots k;obtain⟨ij,s1,s2,s3⟩:=lN hs hv hg;have s4:cF B N ij (σ1.put k (.data (.slice _) x)) a w:=⟨fun t=>by
          unfold St.put;dsimp only;cases ht:Nat.beq t k with
          | false=>exact s1.slots t
          | true =>
            obtain rfl:=fu ht;exact s3,s1.size,s1.defers,s1.ok⟩
         obtain⟨Hi,t1,t2⟩:=ih h s4;exact⟨Hi,t1,s2.trans t2⟩
        ·cases h
       ·cases h
      ·cases h
     ·exact ih h hs
theorem Vm{f:St→Tree (Nat×St)}(hf:∀σ r,(f σ).run=some r→aY σ r.2):∀(n:Nat) (σ:St) (r:Nat×St),(again f n σ).run=some r→aY σ r.2:=by
 intro n;induction n with
 | zero=>intro σ r h;cases h
 | succ n ih =>
   intro σ r h;obtain⟨r1,h1,h2⟩:=bind_some h;have k1:=hf _ _ h1;cases hq:Nat.beq r1.1 0 with
   | true=>rw[hq] at h2;exact k1.trans (ih _ _ h2)
   | false=>rw[hq] at h2;obtain rfl:=aG h2;exact k1
theorem SZ{f:St→Tree (Nat×St)}(hf:∀σ r,(f σ).run=some r→aY σ r.2){c:Nat}:∀(n j:Nat) (σ:St) (r:Nat×St),(G7 f c n j σ).run=some r→aY σ r.2:=by
 intro n;induction n with
 | zero=>intro j σ r h;cases h
 | succ n ih =>
   intro j σ r h;unfold G7 at h;split at h
   ·have h:=bY h;obtain⟨r1,h1,h2⟩:=bind_some h.2;have k1:=(aY.put σ c _).trans (hf _ _ h1);cases hq:Nat.beq r1.1 0 with
    | true=>rw[hq] at h2;exact k1.trans (ih _ _ _ h2)
    | false=>rw[hq] at h2;obtain rfl:=aG h2;exact k1
   ·cases h
theorem vl(hkeep:∀f vals σ v σ',(inl f vals σ).run=some (v,σ')→aY σ σ'):∀(c:Code) (pl:List (Option R5)) (σ:St) (r:Nat×St),(ic cx nb bf inl c pl σ).run=some r→aY σ r.2:=by
 intro c;induction c with
 | skip=>intro pl σ r h;obtain rfl:=aG h;exact aY.refl _
 | label l=>intro pl σ r h;obtain rfl:=aG h;exact aY.refl _
 | ret=>intro pl σ r h;obtain rfl:=aG h;exact aY.refl _
 | exit i=>intro pl σ r h;obtain rfl:=aG h;exact aY.refl _
 | region id ops dr =>
   intro pl σ r h;obtain⟨σ1,h1,h2⟩:=bind_some h;obtain rfl:=aG h2;cases dr with
   | true =>
     have h1':(yu cx nb bf inl ops σ).run=some σ1:=h1;unfold yu at h1';cases hg:ops.any fun o=>o.guard.isSome with
     | true =>
       rw[hg] at h1';obtain⟨hnt,h3⟩:=aB (show(bif jX ops.toList then tL cx nb bf inl ops (number 0 ops.toList) [] σ (fun _=>false) else .fail).run=some σ1 from h1');exact Vf hkeep _ _ _ _ _ _ h3
     | false =>
       rw[hg] at h1';exact Vl hkeep _ _ _ _ _ h1'
   | false=>exact Fl hkeep _ _ _ _ h1
 | seq a b jm lG =>
   intro pl σ r h;obtain⟨r1,h1,h2⟩:=bind_some h;have k1:=jm _ _ _ h1;cases hq:Nat.beq r1.1 0 with
   | true=>rw[hq] at h2;exact k1.trans (lG _ _ _ h2)
   | false=>rw[hq] at h2;obtain rfl:=aG h2;exact k1
 | block i a ih =>
   intro pl σ r h;obtain⟨r1,h1,h2⟩:=bind_some h;obtain rfl:=aG h2;exact ih _ _ r1 h1
 | scope a ih=>intro pl σ r h;exact ih _ _ _ h
 | cond c a b jm lG =>
   intro pl σ r h;unfold ic at h;split at h
   ·rename_i c0 pl0 hn;change Bool at c0;have:=fL h;cases c0 with
    | false=>exact lG _ _ _ this
    | true=>exact jm _ _ _ this
   ·split at h
    ·cases h
    rename_i σ Vn;refine(Mk Vn).trans ?_;split at h
    ·cases h
    ·rename_i k hk;have hok:=zw hk;dsimp only at h;split at h
     ·rw[Tree.A5] at h;obtain⟨x,h1,h2⟩:=Option.bind_eq_some_iff.1 h;obtain rfl:=aG h2;exact Bp hok
     ·rw[Tree.A5] at h;obtain⟨x,h1,h2⟩:=Option.bind_eq_some_iff.1 h;exact IU (Q:=fun r:Nat×St=>aY σ r.2) (fun e y hy=>by obtain rfl:=aG hy;exact Bp hok) h2
   ·cases h
 | loop a ih =>
   intro pl σ r h;unfold ic at h;split at h
   ·split at h
    ·exact SZ (fun σ r hr=>ih _ _ _ hr) _ _ _ _ h
    split at h
    ·cases h
    rename_i σ Vn;refine(Mk Vn).trans ?_;split at h
    ·cases h
    ·rename_i k hk;have hok:=zw hk;dsimp only at h;split at h
     ·cases h
     ·split at h
      ·obtain⟨x,h1,h2⟩:=bS h;obtain rfl:=aG h2;exact Bp hok
      ·obtain⟨x,h1,h2⟩:=bS h;exact IU (Q:=fun r:Nat×St=>aY σ r.2) (fun e y hy=>by obtain rfl:=aG hy;exact Bp hok) h2
   ·exact Vm (fun σ r hr=>ih _ _ _ hr) _ _ _ h
   ·cases h
 | _=>intro pl σ r h;cases h
end
end Go.Ge
