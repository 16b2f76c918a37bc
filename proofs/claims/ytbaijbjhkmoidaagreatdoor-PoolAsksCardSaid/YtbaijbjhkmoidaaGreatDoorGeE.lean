/- A ghost interpreter of the model's code, and that it tells the truth: part 5. It says of a function of plain data what a call of it comes to. -/
import Derived.Test.YtbaijbjhkmoidaaGreatDoorGeD
set_option linter.unusedVariables false
set_option linter.unusedSimpArgs false
set_option linter.unusedSectionVars false
namespace Go.Ge
open RowKit
def fC(w:World)(I:Nat→Nat→Prop):(A:Ty)→A.den→List Value→Prop
 | .pair t r,x,vs=>∃cs rest,vs=bO t cs::rest∧bt w I t x.1 cs∧fC w I r x.2 rest
 | .unit,_,vs=>vs=[]
 | _,_,_=>False
def iM(w:World)(I:Nat→Nat→Prop)(R:Ty)(y:R.den)(v:Value):Prop:=bH ⟨I,fun _=>none⟩ (fun _=>none) w (nJ R y) .val [v]
structure Holds (P:Program) (G:eH) (f:Nat) (c:jt):Prop where
 body:∃fn code,P.funcs[f]?=some fn∧(fn.name == "runtime.NumGoroutine")=false∧fn.body=some code
 calls:∀(I:Nat→Nat→Prop) (w:World) (args:Array Value) (x:c.A.den) (y:c.R.den),(∀b o,I b o→b<w.heap.size)→nQ G w→fC w I c.A x args.toList→c.spec x=some y →
  Calls P f args w fun e w'=>∃v I',e=.returned v∧Below w.heap.size w w'∧(∀b o,I b o→I' b o)∧(∀b o,I' b o→b<w'.heap.size)∧(∀b o,I' b o→¬I b o→w.heap.size≤b)∧iM w' I' c.R y v
def zN(P:Program)(G:eH)(name:String)(c:jt):Prop :=
 ∀(I:Nat→Nat→Prop) (w:World) (v:Value) (xs:List Value) (x:c.A.den) (y:c.R.den),(∀b o,I b o→b<w.heap.size)→nQ G w→fC w I c.A x (v::xs)→c.spec x=some y →
  ∃f u,(callMethod v name xs.toArray).run P w=(callFunc f (u::xs).toArray).run P w∧(∃fn code,P.funcs[f]?=some fn∧(fn.name == "runtime.NumGoroutine")=false∧fn.body=some code) ∧
  Calls P f (u::xs).toArray w fun e w'=>∃v I',e=.returned v∧Below w.heap.size w w'∧(∀b o,I b o→I' b o)∧(∀b o,I' b o→b<w'.heap.size)∧(∀b o,I' b o→¬I b o→w.heap.size≤b)∧iM w' I' c.R y v
theorem aV.Rz{B:ld}{γ:Gh}{mem:Nat→Option aY}{w w':World}(h:aV B γ mem w)(hw:Below w.heap.size w w'){I':Nat→Nat→Prop}(hI:∀b o,γ.I b o→I' b o)(Ph:∀b o,I' b o→b<w'.heap.size)
  (hnew:∀b o,I' b o→¬γ.I b o→w.heap.size≤b):aV B ⟨I',γ.loc⟩ mem w'∧Ext B γ mem w ⟨I',γ.loc⟩ mem w':=by
 have hx:Ext B γ mem w ⟨I',γ.loc⟩ mem w' :=
  { below:=.of ⟨hw.os,hw.tape,hw.output,hw.size,fun k hk=>hw.block k (ud hk h.base)⟩
    I:=hI
    mX:=fun b o x=>by
     by_cases hi:γ.I b o
     ·exact .inl hi
     ·exact .inr (.inl (jq h.base (hnew b o x hi)))
    cells:=fun b o hi=>ep (hw.block b (h.mW b o hi))
    boxes:=fun b bx hb=>⟨bx,hb,kS _,fun _=>⟨rfl,rfl,rfl⟩⟩ }
 refine⟨?_,hx⟩;exact
  { bG:=h.va hx
    base:=jq h.base hw.size
    boxes:=fun b bx hb=>(h.boxes b bx hb).keep hx rfl fun blk k hl=>hw.block blk (h.fresh b blk k (by rw[hb];simp) hl).2
    inj:=h.inj
    fresh:=fun b blk k hb hl=>by have:=h.fresh b blk k hb hl;exact⟨this.1,ud this.2 hw.size⟩
    mW:=Ph
    sep:=fun b bx blk k off hb hl hi=>by
     by_cases hi0:γ.I blk off
     ·exact h.sep b bx blk k off hb hl hi0
     ·have h1:=hnew blk off hi hi0;have h2:=(h.fresh b blk k (by rw[hb];simp) hl).2;omega }
theorem Jd{w:World}{γ γ':Gh}{mem mem':Nat→Option aY}(hI:∀b o,γ.I b o→γ'.I b o):∀{R:Ty} {y:R.den} {vs:List Value},bH γ mem w (rI R y) .many vs→bH γ' mem' w (rI R y) .many vs:=by
 intro R;induction R with
 | pair t r F3 ihr =>
   intro y vs h;obtain⟨v,rest,h0,⟨cs,h1,h2⟩,h3⟩:=h;exact⟨v,rest,h0,⟨cs,bt.mono hI (fun _ _ _=>rfl) h1,h2⟩,ihr h3⟩
 | _=>intro y vs h;exact h
theorem vp(R:Ty)(y:R.den):(∃t,∃q:R=.pair t .unit,nJ R y=.data t (show(Ty.pair t .unit).den from q▸y).1)∨nJ R y=.om (rI R y):=by
 cases R with
 | pair t r =>
   cases r with
   | unit=>exact .inl ⟨t,rfl,rfl⟩
   | _=>exact .inr rfl
 | _=>exact .inr rfl
theorem iM.rep{w:World}{I:Nat→Nat→Prop}{R:Ty}{y:R.den}{v:Value}(h:iM w I R y v){γ:Gh}{mem:Nat→Option aY}(hI:∀b o,I b o→γ.I b o):bH γ mem w (nJ R y) .val [v]:=by
 unfold iM at h;rcases vp R y with ⟨t,q,hq⟩|hq
 ·rw[hq] at h⊢;obtain⟨cs,h1,h2⟩:=h;exact⟨cs,bt.mono hI (fun _ _ _=>rfl) h1,h2⟩
 ·rw[hq] at h⊢;obtain⟨arr,h1,h2⟩:=h;exact⟨arr,h1,Jd hI h2⟩
theorem zO{w w':World}{γ γ':Gh}{mem mem':Nat→Option aY}:∀{R:Ty} {y:R.den} {vs:List Value},R.flat=true→bH γ mem w (rI R y) .many vs→bH γ' mem' w' (rI R y) .many vs:=by
 intro R;induction R with
 | pair t r F3 ihr =>
   intro y vs hf h;simp only[Ty.flat,cP] at hf;obtain⟨v,rest,h0,⟨cs,h1,h2⟩,h3⟩:=h;exact⟨v,rest,h0,⟨cs,bt.flat hf.1 h1,h2⟩,ihr hf.2 h3⟩
 | _=>intro y vs hf h;exact h
theorem iM.flat{w w':World}{I:Nat→Nat→Prop}{R:Ty}{y:R.den}{v:Value}(h:iM w I R y v){γ:Gh}{mem:Nat→Option aY}(hf:R.flat=true):bH γ mem w' (nJ R y) .val [v]:=by
 unfold iM at h;rcases vp R y with ⟨t,q,hq⟩|hq
 ·rw[hq] at h⊢;subst q;simp only[Ty.flat,cP] at hf;obtain⟨cs,h1,h2⟩:=h;exact⟨cs,bt.flat hf.1 h1,h2⟩
 ·rw[hq] at h⊢;obtain⟨arr,h1,h2⟩:=h;exact⟨arr,h1,zO hf h2⟩
section
variable {P:Program} {B:ld} {N:Nat} {γ:Gh} {σ σ':St} {a:Act} {w w':World} {d:Option Nat} {cx:Ctx}
theorem rT.R8{I I':Nat→Nat→Prop}{e:Ty}{l:List e.den}{v:Value}(h:rT w I e l v)(hI:∀b o,I b o→I' b o)(hc:∀blk off cap,v=.slice (some ⟨blk,off,none⟩) l.length cap→l≠[]→∀o,I' blk o) :
  bt w I' (.slice e) l [v]:=by
 rcases h with ⟨rfl,base,cap,r1,r2,r3⟩|⟨blk,off,cap,r1,r2,r3,r4⟩
 ·rcases r3 with rfl|⟨blk,off,rfl⟩
  ·exact .inl ⟨⟨base,by rw[r1]⟩,rfl⟩
  ·exact .inr ⟨blk,off,cap,by rw[r1];rfl,oZ _,r2,fun i x hx=>by cases hx⟩
 ·refine .inr ⟨blk,off,cap,by rw[r1],r2,r3,fun i x hx=>?_⟩;obtain⟨es,g1,g2,g3⟩:=r4 i x hx;exact⟨es,g1,fun j c hj=>⟨g2 j c hj,hc blk off cap r1 (fun e=>by rw[e] at hx;cases hx) _⟩,bt.mono hI (fun _ _ _=>rfl) g3⟩
theorem C5(hm:aV B γ σ.mem w){e:Ty}{v:ay}{l:List e.den}{blk off n cap:Nat}(hv:bH γ σ.mem w v .val [.slice (some ⟨blk,off,none⟩) n cap])(hl:eK e σ v=some l)(hne:l≠[]) :
  (∃q,v=.data (.slice e) q)∨(B.has blk∧blk<w.heap.size):=by
 rcases iK hl with rfl|⟨rfl,rfl⟩|⟨b,aj,bx,rfl,hb,aI,aW,iZ⟩|⟨b,aj,lo,n',bx,rfl,hb,aI,FP⟩
 ·exact .inl ⟨_,rfl⟩
 ·exact absurd rfl hne
 ·obtain⟨e',k,g1,g2,g3⟩:=aJ hb aI hv.2;rcases g3 with ⟨g3,g4⟩|⟨cB,cap',g3,g4⟩
  ·exfalso;have gi:=hm.boxes b bx hb;rw[bQ,aW] at gi;obtain⟨e3,l3,q1,q2,q3⟩:=gi;rw[iZ] at q1;cases q1;rcases q3 with ⟨_,q3⟩|⟨_,_,_,_,_,q3,_⟩
   ·exact hne q3
   ·rw[g3] at q3;cases q3
  ·have q1:blk=cB:=by
    have:=mJ g4;injection this with q1 _ _
    injection q1 with q1
    injection q1
   subst q1;exact .inr (hm.fresh b blk cap' (by rw[hb];simp) g3)
 ·obtain⟨e',k,g2,g3,g4,g5,base,cap',g6,g7,g8,gF,g9⟩:=aJ hb aI hv.2;have Ui:=mJ g6;rcases g9 with g9|⟨cB,c,g9,g10⟩
  ·exfalso;apply hne;rcases FP with ⟨_,l0,_,rfl⟩|⟨_,k0,l0,_,rfl⟩<;>simp[sub,g9]
  ·injection Ui with q1 _ _
   rw[g10] at q1;injection q1 with q1
   injection q1 with q1 _
   subst q1;exact .inr (hm.fresh b blk c (by rw[hb];simp) g9)
theorem ux(hm:aV B γ σ.mem w){I':Nat→Nat→Prop}(hI:∀b o,γ.I b o→I' b o)(Kj:∀b o,B.has b→b<w.heap.size→I' b o):∀{v:ay} {t:Ty} {x:t.den} {cs:List Value},
  bH γ σ.mem w v .cells cs→kR σ t v=some x→bt w I' t x cs:=by
 have sl:∀{v:ay} {e:Ty} {l:List e.den} {cs:List Value},bY v=1→(∀c,bH γ σ.mem w v .cells [c]→bH γ σ.mem w v .val [c])→(∀t x,v≠.data t x)→bH γ σ.mem w v .cells cs→eK e σ v=some l→bt w I' (.slice e) l cs:=by
  intro v e l cs h1 hval hnd hc hl;obtain⟨c,rfl⟩:=xH hc h1;have hv:=hval c hc;refine(lg hm hv hl).R8 hI fun blk off cap e0 hne o=>?_;subst e0;rcases C5 hm hv hl hne with ⟨q,hq⟩|⟨h2,h3⟩
  ·exact absurd hq (hnd _ _)
  ·exact Kj blk o h2 h3
 intro v;induction v with
 | data u y =>
   intro t x cs hc hl;have key:(∃q:u=t,x=q▸y):=by
    cases t with
    | slice e =>
      rcases iK (show eK e σ (.data u y)=some x from hl) with g|⟨g,_⟩|⟨_,_,_,g,_⟩|⟨_,_,_,_,_,g,_⟩
      ·injection g with g1 g2;subst g1;exact⟨rfl,(eq_of_heq g2).symm⟩
      ·cases g
      ·cases g
      ·cases g
    | _=>exact Ty.gL hl
   obtain⟨q,hq⟩:=key;subst q;subst hq;exact bt.mono hI (fun _ _ _=>rfl) hc
 | mix p q pY pg =>
   intro t x cs hc hl;cases t with
   | pair s r =>
     obtain⟨c1,c2,rfl,h1,h2⟩:=hc;obtain⟨y,z,hp,hq,rfl⟩:=vl hl;exact⟨c1,c2,rfl,pY h1 hp,pg h2 hq⟩
   | slice e=>exact absurd hl (by intro k;cases k)
   | _=>cases hl
 | js =>
   intro t x cs hc hl;cases t with
   | slice e=>exact sl (v:=.js) rfl (fun c k=>k) (fun _ _=>by simp) hc hl
   | _=>cases hl
 | whole b aj =>
   intro t x cs hc hl;cases t with
   | slice e=>exact sl (v:=.whole b aj) rfl (fun c k=>k) (fun _ _=>by simp) hc hl
   | _=>cases hl
 | part b aj lo n =>
   intro t x cs hc hl;cases t with
   | slice e=>exact sl (v:=.part b aj lo n) rfl (fun c k=>k) (fun _ _=>by simp) hc hl
   | _=>cases hl
 | lV =>
   intro t x cs hc hl;obtain rfl:cs=[.nilIface]:=hc;exact(jO hl).1 _ _
 | _ =>
   intro t x cs hc hl;cases t with
   | slice e=>exact absurd hl (by intro k;cases k)
   | _=>cases hl
theorem zP(hm:aV B γ σ.mem w){I':Nat→Nat→Prop}(hI:∀b o,γ.I b o→I' b o)(Kj:∀b o,B.has b→b<w.heap.size→I' b o){v:ay}{t:Ty}{x:t.den}{val:Value}
  (hv:bH γ σ.mem w v .val [val]) (hl:kR σ t v=some x):∃cs,bt w I' t x cs∧val=bO t cs:=by
 have one:∀{v:ay},bH γ σ.mem w v .cells [val]→(∃e,t=.slice e)→kR σ t v=some x→∃cs,bt w I' t x cs∧val=bO t cs:=by
  intro v hc he hl;obtain⟨e,rfl⟩:=he;exact⟨[val],ux hm hI Kj hc hl,rfl⟩
 cases v with
 | data u y =>
   obtain⟨cs,h1,h2⟩:=cC.1 hv;have hc:=ux hm hI Kj (v:=.data u y) (cs:=cs) h1 hl;refine⟨cs,hc,?_⟩;rw[h2];have:u.isAgg=t.isAgg:=by
    cases t with
    | slice e =>
      rcases iK (show eK e σ (.data u y)=some x from hl) with g|⟨g,_⟩|⟨_,_,_,g,_⟩|⟨_,_,_,_,_,g,_⟩
      ·injection g with g1 g2;rw[g1]
      ·cases g
      ·cases g
      ·cases g
    | _=>obtain⟨q,_⟩:=Ty.gL hl;rw[q]
   unfold bO;rw[this]
 | mix p q =>
   obtain⟨c1,c2,e1,h1,h2⟩:=hv;obtain rfl:val=_:=by simpa using e1
   have hc:=ux hm hI Kj (v:=.mix p q) (cs:=c1++c2) ⟨c1,c2,rfl,h1,h2⟩ hl;refine⟨_,hc,?_⟩;cases t with
   | pair s r=>rfl
   | slice e=>exact absurd hl (by intro k;cases k)
   | _=>cases hl
 | js=>cases t with
   | slice e=>exact one hv ⟨e,rfl⟩ hl
   | _=>cases hl
 | whole b aj=>cases t with
   | slice e=>exact one hv ⟨e,rfl⟩ hl
   | _=>cases hl
 | part b aj lo n=>cases t with
   | slice e=>exact one hv ⟨e,rfl⟩ hl
   | _=>cases hl
 | lV =>
   have hv:[val]=[Value.nilIface]:=hv;obtain rfl:val=.nilIface:=by simpa using hv
   exact⟨[.nilIface],(jO hl).1 _ _,(jO hl).2.2.1.symm⟩
 | _=>cases t with
   | slice e=>exact absurd hl (by intro k;cases k)
   | _=>cases hl
def ij(γ:Gh)(mem:Nat→Option aY)(w:World)(vs:List ay)(xs:List Value):Prop:=xs.length=vs.length∧∀(i:Nat) v x,vs[i]?=some v→xs[i]?=some x→bH γ mem w v .val [x]
theorem ij.cons{mem:Nat→Option aY}{v:ay}{vs:List ay}{xs:List Value}(h:ij γ mem w (v::vs) xs):∃x r,xs=x::r∧bH γ mem w v .val [x]∧ij γ mem w vs r:=by
 cases xs with
 | nil=>cases h.1
 | cons x r=>exact⟨x,r,rfl,h.2 0 v x rfl rfl,by simpa using h.1,fun i v' x' h1 h2=>h.2 (i+1) v' x' h1 h2⟩
theorem ij.ext{mem mem':Nat→Option aY}{γ':Gh}{vs:List ay}{xs:List Value}(h:ij γ mem w vs xs)(hx:Ext B γ mem w γ' mem' w'):ij γ' mem' w' vs xs:=⟨h.1,fun i v x h1 h2=>(h.2 i v x h1 h2).ext hx⟩
theorem Bj(hm:aV B γ σ.mem w){I':Nat→Nat→Prop}(hI:∀b o,γ.I b o→I' b o)(Kj:∀b o,B.has b→b<w.heap.size→I' b o):∀{A:Ty} {x:A.den} {vs:List ay} {xs:List Value},
  ij γ σ.mem w vs xs→fy σ A vs=some x→fC w I' A x xs:=by
 intro A;induction A with
 | pair t r F3 ihr =>
   intro x vs xs h hl;cases vs with
   | nil=>cases hl
   | cons v vs =>
     obtain⟨y,rest,rfl,h1,h2⟩:=h.cons;simp only[fy] at hl;split at hl
     ·rename_i p q hp hq;obtain rfl:=ax hl;obtain⟨cs,c1,c2⟩:=zP hm hI Kj h1 hp;exact⟨cs,rest,by rw[c2],c1,ihr h2 hq⟩
     ·cases hl
 | unit =>
   intro x vs xs h hl;cases vs with
   | nil=>exact List.length_eq_zero_iff.1 h.1
   | cons v vs=>cases hl
 | _=>intro x vs xs h hl;cases vs<;>cases hl
theorem fC.mono{I I':Nat→Nat→Prop}(hI:∀b o,I b o→I' b o)(hw:∀b o,I b o→w'.cell? ⟨b,o,none⟩=w.cell? ⟨b,o,none⟩):∀{A:Ty} {x:A.den} {xs:List Value},fC w I A x xs→fC w' I' A x xs:=by
 intro A;induction A with
 | pair t r F3 ihr=>intro x xs h;obtain⟨cs,rest,h0,h1,h2⟩:=h;exact⟨cs,rest,h0,bt.mono hI hw h1,ihr h2⟩
 | _=>intro x xs h;exact h
theorem lI:∀{A:Ty} {x:A.den} {vs:List ay} {xs:List Value} {σ σ':St} {γ:Gh},bZ B N γ σ a w→ij γ σ.mem w vs xs→gM σ A vs=some (x,σ') →
  ∃γ',bZ B N γ' σ' a w∧Ext B γ σ.mem w γ' σ'.mem w∧fC w γ'.I A x xs:=by
 intro A;induction A with
 | pair t r F3 ihr =>
   intro x vs xs σ σ' γ h hv hl;cases vs with
   | nil=>cases hl
   | cons v vs =>
     obtain⟨y,rest,rfl,h1,h2⟩:=hv.cons;simp only[gM] at hl;split at hl
     ·rename_i p σ1 hp;split at hl
      ·rename_i q σ2 hq;obtain⟨rfl,rfl⟩:=cr (ax hl);obtain⟨ff,s1,s2,cs,c1,c2⟩:=iL h h1 hp;obtain c2:y=_:=by simpa using c2
       obtain⟨tG,t1,t2,t3⟩:=ihr s1 (h2.ext s2) hq;exact⟨tG,t1,s2.trans t2,cs,rest,by rw[c2],bt.mono t2.I t2.cells c1,t3⟩
      ·cases hl
     ·cases hl
 | unit =>
   intro x vs xs σ σ' γ h hv hl;cases vs with
   | nil=>obtain⟨rfl,rfl⟩:=cr (ax hl);exact⟨γ,h,Ext.refl _ _ _ _,List.length_eq_zero_iff.1 hv.1⟩
   | cons v vs=>cases hl
 | _=>intro x vs xs σ σ' γ h hv hl;cases vs<;>cases hl
def Lh(w:World)(I:Nat→Nat→Prop)(e:Ty)(cq:Nat)(l:List e.den)(L:Option (Nat×Nat))(v:Value):Prop :=
 0<e.size∧((L=none∧l=[]∧v=.slice none 0 0)∨∃blk cap cur tid fr,L=some (blk,cap)∧v=.slice (some ⟨blk,0,none⟩) l.length cap∧w.heap[blk]?=some (.cells cur tid fr)∧MY e cur fr∧(cq=0∨tid=cq) ∧
  l.length≤cap∧cap≤maxLen∧cur.size=cap*e.size∧(∀o,¬I blk o)∧∀(i:Nat) (x:e.den),l[i]?=some x→bt w I e x ((cur.toList.drop (i*e.size)).take e.size))
def nU(w:World)(I:Nat→Nat→Prop):(o:OT)→o.den→List Value→List Nat→List (Option (Nat×Nat))→Prop
 | .dat t,x,cs,bs,ls=>bt w I t x cs∧bs=[]∧ls=[]
 | .buf e cq,l,cs,bs,ls=>∃L v,cs=[v]∧bs=[]∧ls=[L]∧Lh w I e cq l L v
 | .ref tid o,u,cs,bs,ls=>∃blk r,cs=[.pointer (some ⟨blk,0,none⟩)]∧bs=blk::r∧(∀off,¬I blk off)∧∃cur t' fr,w.heap[blk]?=some (.cells cur t' fr)∧jm cur fr∧(tid=0∨t'=tid)∧nU w I o u cur.toList r ls
 | .pair p q,u,cs,bs,ls=>∃c1 c2 b1 b2 l1 l2,cs=c1++c2∧bs=b1++b2∧ls=l1++l2∧nU w I p u.1 c1 b1 l1∧nU w I q u.2 c2 b2 l2
 | .unit,_,cs,bs,ls=>cs=[]∧bs=[]∧ls=[]
def bL(bs:List Nat)(ls:List (Option (Nat×Nat))):List Nat:=bs++ls.filterMap fun L=>L.map (·.1)
def Cc(w:World)(I:Nat→Nat→Prop):List Bool→(A:Ty)→(U:OT)→A.den→List Value→List Value→Prop
 | [],A,U,_,vs,en=>A=.unit∧U=.unit∧vs=[]∧en=[]
 | false::ps,A,U,x,vs,en=>match A,x with
   | .pair t A,x=>∃cs rest,vs=bO t cs::rest∧bt w I t x.1 cs∧Cc w I ps A U x.2 rest en
   | _,_=>False
 | true::ps,A,U,x,vs,en=>match U with
   | .pair (.ref _ _) U=>∃v rest r,vs=v::rest∧en=v::r∧Cc w I ps A U x rest r
   | _=>False
structure cH (P:Program) (G:eH) (f:Nat) (c:jX):Prop where
 body:∃fn code,P.funcs[f]?=some fn∧(fn.name == "runtime.NumGoroutine")=false∧fn.body=some code
 calls:∀(I:Nat→Nat→Prop) (w:World) (args:Array Value) (en:List Value) (bs:List Nat) (ls:List (Option (Nat×Nat))) (x:c.A.den) (u:c.U.den) (y:c.R.den×c.U.den),(∀b o,I b o→b<w.heap.size)→nQ G w→(∀b Q,G b Q→b∉bL bs ls) →
  Cc w I c.ps c.A c.U x args.toList en→nU w I c.U u en bs ls→(bL bs ls).Nodup→c.spec (x,u)=some y →
  Calls P f args w fun e w'=>∃v I' ls',e=.returned v∧nD ⟨w.heap.size,(·∈bL bs ls),G⟩ w w'∧(∀b o,I b o→I' b o)∧(∀b o,I' b o→b<w'.heap.size)∧(∀b o,I' b o→¬I b o→w.heap.size≤b∨b∈bL bs ls)∧iM w' I' c.R y.1 v ∧
   nU w' I' c.U y.2 en bs ls'∧(bL bs ls').Nodup∧∀blk∈bL [] ls',blk∈bL bs ls∨w.heap.size≤blk
structure oz (og:Option Nat) (w w':World):Prop where
 os:w'.os=w.os
 tape:w'.tape=w.tape
 output:w'.output=w.output
 size:w.heap.size≤w'.heap.size
 block:∀k,k<w.heap.size→og≠some k→w'.heap[k]?=w.heap[k]?
 cell:∀k o,k<w.heap.size→w'.cell? ⟨k,o,none⟩=w.cell? ⟨k,o,none⟩
def rW(w:World)(I:Nat→Nat→Prop)(e:Ty)(l:List e.den)(L:Option (Nat×Nat))(v:Value):Prop :=
 (L=none∧l=[]∧v=.slice none 0 0)∨∃blk cap cur tid fr,L=some (blk,cap)∧v=.slice (some ⟨blk,0,none⟩) l.length cap∧w.heap[blk]?=some (.cells cur tid fr)∧MY e cur fr ∧
  l.length≤cap∧cap≤maxLen∧cur.size=cap*e.size∧(∀o,¬I blk o)∧∀(i:Nat) (x:e.den),l[i]?=some x→bt w I e x ((cur.toList.drop (i*e.size)).take e.size)
structure C6 (w:World) (I:Nat→Nat→Prop) (X:Nat→Prop) (w':World) (I':Nat→Nat→Prop):Prop where
 below:nD ⟨w.heap.size,X,u9⟩ w w'
 held:∀b o,I b o→I' b o
 mW:∀b o,I' b o→b<w'.heap.size
 mX:∀b o,I' b o→¬I b o→w.heap.size≤b
def mP(P:Program)(f:Nat):Ka→Prop
 | .KT T=>(∃fn code,P.funcs[f]?=some fn∧(fn.name == "runtime.NumGoroutine")=false∧fn.body=some code) ∧
  ∀(w:World) (b:Nat) (p v:Value) (fr:Nat×Nat),w.heap[b]?=some (.cells #[p,v] T fr)→¬(fr.1≤0∧0<fr.2)→(p=.pointer none∨p=.pointer (some ⟨b,0,none⟩)) →
   Calls P f #[.pointer (some ⟨b,0,none⟩)] w fun e w'=>e=.returned (.tuple #[])∧(w'=w∨w'=w.setRow b #[.pointer (some ⟨b,0,none⟩),v])
 | .str T E=>(∃fn code,P.funcs[f]?=some fn∧(fn.name == "runtime.NumGoroutine")=false∧fn.body=some code) ∧
  ∀(w:World) (b:Nat) (p v:Value) (fr:Nat×Nat) (l:List UInt8) (og:Option Nat),w.heap[b]?=some (.cells #[p,v] T fr) →
   ((og=none∧v=.slice none 0 0∧l=[])∨∃(g cap:Nat) (cur:Array Value) (fr':Nat×Nat),og=some g∧v=.slice (some ⟨g,0,none⟩) l.length cap∧w.heap[g]?=some (.cells cur E fr')∧l.length≤cap∧cap≤maxLen∧cur.size=cap∧∀(j:Nat) (x:UInt8),l[j]?=some x→cur[j]?=some (Value.int .u8 x.toNat)) →
   Calls P f #[.pointer (some ⟨b,0,none⟩)] w fun e w'=>e=.returned (.string ⟨l.toArray⟩)∧oz og w w'
 | .clone e=>(∃fn code,P.funcs[f]?=some fn∧(fn.name == "runtime.NumGoroutine")=false∧fn.body=some code) ∧
  ∀(I:Nat→Nat→Prop) (w:World) (args:Array Value) (l:List e.den),(∀b o,I b o→b<w.heap.size)→fC w I (.pair (.slice e) .unit) (l,()) args.toList→fits (len l)=true →
   Calls P f args w fun q w'=>∃v I' L,q=.returned v∧C6 w I (fun _=>False) w' I'∧rW w' I' e l L v∧∀blk c,L=some (blk,c)→w.heap.size≤blk
 | .own e A res spec=>(∃fn code,P.funcs[f]?=some fn∧(fn.name == "runtime.NumGoroutine")=false∧fn.body=some code) ∧
  ∀(I:Nat→Nat→Prop) (w:World) (args:Array Value) (v:Value) (rest:List Value) (l l':List e.den) (L:Option (Nat×Nat)) (x:A.den),(∀b o,I b o→b<w.heap.size)→args.toList=v::rest→rW w I e l L v→fC w I A x rest→spec l x=some l' →
   Calls P f args w fun q w'=>∃I',C6 w I (fun k=>∃c,L=some (k,c)) w' I' ∧
    match res with
    | true=>∃v' L',q=.returned v'∧rW w' I' e l' L' v'∧∀blk c,L'=some (blk,c)→(∃c,L=some (blk,c))∨w.heap.size≤blk
    | false=>q=.returned (.tuple #[])∧l'.length=l.length∧rW w' I' e l' L v
 | .rG g=>(∃fn code,P.funcs[f]?=some fn∧(fn.name == "runtime.NumGoroutine")=false∧fn.body=some code) ∧
  ∃T,∀(w:World) (v:Value),Calls P f #[v] w fun q w'=>q=.returned (.func (.func g) #[] #[.pointer (some ⟨w.heap.size,0,none⟩)])∧w'=w.alloc (.cells v.cells T)
structure jP (P:Program) (G:eH) (cx:Ctx):Prop where
 fH:∀f c,find cx.fH f=some c→Holds P G f c
 bU:∀f c,find cx.bU f=some c→cH P G f c
 D2:∀f s,find cx.D2 f=some s→mP P f s
 inv:∀name c,Eh cx.inv name=some c→zN P G name c
theorem vq{l:List Nat}{t:Nat}:b6 l t=true↔t∈l:=by
 induction l with
 | nil=>simp[b6]
 | cons i r ih =>
   simp only[b6,zd,CH,ih];constructor
   ·rintro(h|h)
    ·exact .inl (dz h)
    ·exact .inr h
   ·rintro(h|h)
    ·subst h;exact .inl (by simp)
    ·exact .inr h
theorem wU{l:List Nat}:zm l=true↔l.Nodup:=by
 induction l with
 | nil=>simp[zm]
 | cons b r ih =>
   simp only[zm,cP,iE,IL,ih];constructor
   ·rintro⟨h,k⟩;exact⟨fun q=>(by rw[vq.2 q] at h;cases h),k⟩
   ·rintro⟨h,k⟩;refine⟨?_,k⟩;cases hq:b6 r b with
    | false=>rfl
    | true=>exact absurd (vq.1 hq) h
theorem nU.len{w:World}{I:Nat→Nat→Prop}:∀{o:OT} {u:o.den} {cs:List Value} {bs:List Nat} {ls:List (Option (Nat×Nat))},nU w I o u cs bs ls→bs.length=o.nr∧ls.length=o.nb:=by
 intro o;induction o with
 | dat t=>intro u cs bs ls h;rw[h.2.1,h.2.2];exact⟨rfl,rfl⟩
 | buf e cq=>intro u cs bs ls h;obtain⟨L,v,_,rfl,rfl,_⟩:=h;exact⟨rfl,rfl⟩
 | ref tid o ih =>
   intro u cs bs ls h;obtain⟨blk,r,_,rfl,_,cur,t',fr,_,_,_,h1⟩:=h;have:=ih h1;exact⟨by simp[OT.nr,this.1],this.2⟩
 | pair p q pY pg =>
   intro u cs bs ls h;obtain⟨c1,c2,b1,b2,l1,l2,_,rfl,rfl,h1,h2⟩:=h;have:=pY h1;have:=pg h2;simp_all[OT.nr,OT.nb]
 | unit=>intro u cs bs ls h;rw[h.2.1,h.2.2];exact⟨rfl,rfl⟩
def xM(mem:Nat→Option aY):(o:OT)→o.den→List (Nat×Nat)→List (Nat×Nat)→Prop
 | .dat _,_,_,_=>True
 | .buf e cq,l,_,M=>∃b v r,M=(b,v)::r∧mem b=some { val:=.data (.slice e) l,tid:=cq,buf:=true,ro:=false,lk:=false,aj:=v }
 | .ref tid o,u,N,M=>∃b v r,N=(b,v)::r∧mem b=some { val:=zl o u r M,tid,buf:=false,ro:=false,lk:=false,aj:=v }∧xM mem o u r M
 | .pair p q,u,N,M=>xM mem p u.1 (N.take p.nr) (M.take p.nb)∧xM mem q u.2 (N.drop p.nr) (M.drop p.nb)
 | .unit,_,_,_=>True
theorem jH:∀{o:OT} {u:o.den} {N M:List (Nat×Nat)} {c:Nat} {bx:aY},fI o u N M c=some bx→c∈aT N M:=by
 intro o;induction o with
 | dat t=>intro u N M c bx h;cases h
 | buf e cq =>
   intro u N M c bx h;cases M with
   | nil=>cases h
   | cons p r =>
     unfold fI at h;cases hb:Nat.beq c p.1 with
     | true=>rw[dz hb];simp[aT]
     | false=>dsimp only at h;rw[hb] at h;cases h
 | ref tid o ih =>
   intro u N M c bx h;cases N with
   | nil=>cases h
   | cons p r =>
     unfold fI at h;cases hb:Nat.beq c p.1 with
     | true=>rw[dz hb];simp[aT]
     | false =>
       dsimp only at h;rw[hb] at h;have:=ih h;unfold aT at this⊢;simp only[mT,D8,CH];exact .inr this
 | pair p q pY pg =>
   intro u N M c bx h;unfold fI at h;have hs:∀{n m:Nat},(c∈aT (N.take n) (M.take m)→c∈aT N M)∧(c∈aT (N.drop n) (M.drop m)→c∈aT N M):=by
    intro n m;unfold aT;simp only[D9,List.mem_map];constructor
    ·rintro(⟨a,ha,rfl⟩|⟨a,ha,rfl⟩)
     ·exact .inl ⟨a,List.mem_of_mem_take ha,rfl⟩
     ·exact .inr ⟨a,List.mem_of_mem_take ha,rfl⟩
    ·rintro(⟨a,ha,rfl⟩|⟨a,ha,rfl⟩)
     ·exact .inl ⟨a,List.mem_of_mem_drop ha,rfl⟩
     ·exact .inr ⟨a,List.mem_of_mem_drop ha,rfl⟩
   split at h
   ·rename_i x hx;exact hs.1 (pY hx)
   ·exact hs.2 (pg h)
 | unit=>intro u N M c bx h;cases h
theorem Je{mem:Nat→Option aY}{t:Ty}{v:ay}{x:t.den}{val:Value}(hv:bH γ mem w v .val [val])(h:IQ t v=some x):∃cs,bt w γ.I t x cs∧val=bO t cs:=by
 unfold IQ at h;split at h
 ·rename_i u y;obtain⟨q,hq⟩:=Ty.gL h;subst q;subst hq;exact cC.1 hv
 ·split at h
  ·rename_i e;obtain rfl:=ax h;obtain rfl:val=_:=by simpa [bH] using hv
   exact⟨[.slice none 0 0],.inl ⟨⟨none,rfl⟩,rfl⟩,rfl⟩
  ·cases h
 ·cases h
theorem EF{t:Ty}{v:ay}{x:t.den}(h:toS t v=some x):v=.data t x:=by
 unfold toS at h;split at h
 ·obtain⟨q,hq⟩:=Ty.gL h;subst q;subst hq;rfl
 ·cases h
theorem EG{mem:Nat→Option aY}:∀{o:OT} {u:o.den} {N M:List (Nat×Nat)},N.length=o.nr→M.length=o.nb→(aT N M).Nodup→(∀c bx,fI o u N M c=some bx→mem c=some bx)→xM mem o u N M:=by
 intro o;induction o with
 | dat t=>intro u N M _ _ _ _;trivial
 | buf e cq =>
   intro u N M _ hM _ h;cases M with
   | nil=>cases hM
   | cons p r=>exact⟨p.1,p.2,r,rfl,h p.1 _ (by unfold fI;dsimp only;rw[CI];rfl)⟩
 | ref tid o ih =>
   intro u N M hN hM hd h;cases N with
   | nil=>cases hN
   | cons p r =>
     refine⟨p.1,p.2,r,rfl,h p.1 _ (by unfold fI;dsimp only;rw[CI];rfl),ih (by simpa [OT.nr] using hN) hM ?_ fun c bx hc=>?_⟩
     ·unfold aT at hd⊢;simp only[mT,D8,IL] at hd;exact hd.2
     ·refine h c bx ?_;have hne:Nat.beq c p.1=false:=by
       cases hq:Nat.beq c p.1 with
       | false=>rfl
       | true =>
         have hm:=jH hc;rw[dz hq] at hm;unfold aT at hd hm;simp only[mT,D8,IL] at hd;exact absurd hm hd.1
      unfold fI;dsimp only;rw[hne];exact hc
 | pair p q pY pg =>
   intro u N M hN hM hd h;have e1:N.take p.nr++N.drop p.nr=N:=A6 ..;have e2:M.take p.nb++M.drop p.nb=M:=A6 ..;simp only[OT.nr,OT.nb] at hN hM;have hd':((N.take p.nr).map (·.1)++(N.drop p.nr).map (·.1)++((M.take p.nb).map (·.1)++(M.drop p.nb).map (·.1))).Nodup:=by
    rw[←tc,←tc,e1,e2];exact hd
   have d1:(aT (N.take p.nr) (M.take p.nb)).Nodup:=by
    unfold aT;refine hd'.sublist ?_;exact List.Sublist.append (Ow _ _) (Ow _ _)
   have d2:(aT (N.drop p.nr) (M.drop p.nb)).Nodup:=by
    unfold aT;refine hd'.sublist ?_;exact List.Sublist.append (Ou _ _) (Ou _ _)
   have R9:∀c,c∈aT (N.take p.nr) (M.take p.nb)→c∉aT (N.drop p.nr) (M.drop p.nb):=by
    intro c h1 h2;unfold aT at h1 h2;rw[List.nodup_append] at hd';obtain⟨x1,x2,x3⟩:=hd';rw[List.nodup_append] at x1 x2;rcases List.mem_append.1 h1 with a|a<;>rcases List.mem_append.1 h2 with b|b
    ·exact x1.2.2 c a c b rfl
    ·exact x3 c (tC _ a) c (sK _ b) rfl
    ·exact x3 c (sK _ b) c (tC _ a) rfl
    ·exact x2.2.2 c a c b rfl
   refine⟨pY (by rw[iA];omega) (by rw[iA];omega) d1 fun c bx hc=>h c bx ?_,pg (by rw[ou];omega) (by rw[ou];omega) d2 fun c bx hc=>h c bx ?_⟩
   ·show(match fI p u.1 (N.take p.nr) (M.take p.nb) c with|some x=>some x|none=>_)=some bx
    rw[hc]
   ·show(match fI p u.1 (N.take p.nr) (M.take p.nb) c with|some x=>some x|none=>fI q u.2 (N.drop p.nr) (M.drop p.nb) c)=some bx
    cases hq:fI p u.1 (N.take p.nr) (M.take p.nb) c with
    | none=>exact hc
    | some x=>exact absurd (jH hc) (R9 c (jH hq))
 | unit=>intro u N M _ _ _ _;trivial
def fK(γ:Gh)(N:List (Nat×Nat))(bs:List Nat):Prop:=N.map (fun p=>(γ.loc p.1).map (·.1))=bs.map some
def kj(γ:Gh)(M:List (Nat×Nat))(ls:List (Option (Nat×Nat))):Prop:=M.map (fun p=>γ.loc p.1)=ls
theorem fK.split{N:List (Nat×Nat)}{b1 b2:List Nat}{n:Nat}(h:fK γ N (b1++b2))(hn:b1.length=n):fK γ (N.take n) b1∧fK γ (N.drop n) b2:=by
 unfold fK at h⊢;rw[KN,List.map_drop,h,tc,Eb (by simp[hn]),IK (by simp[hn])];exact⟨rfl,rfl⟩
theorem kj.split{M:List (Nat×Nat)}{l1 l2:List (Option (Nat×Nat))}{n:Nat}(h:kj γ M (l1++l2))(hn:l1.length=n):kj γ (M.take n) l1∧kj γ (M.drop n) l2:=by
 unfold kj at h⊢;rw[KN,List.map_drop,h,Eb hn,IK hn];exact⟨rfl,rfl⟩
theorem Lh.rep{mem:Nat→Option aY}{e:Ty}{cq:Nat}{l:List e.den}{L:Option (Nat×Nat)}{v:Value}{b aj:Nat}{bx:aY}(h:Lh w γ.I e cq l L v)
  (tq:γ.loc b=L) (hb:mem b=some bx) (aI:bx.aj=aj) (aW:bx.buf=true) (hval:bx.val=.data (.slice e) l):bH γ mem w (.whole b aj) .cells [v]:=by
 rcases h.2 with ⟨q1,q2,q3⟩|⟨cB,cap,cur,tid,fr,q1,q2,q3,q4,q5,q6,q7,q8,q9⟩
 ·exact⟨⟨v,rfl,by rw[q3];rfl⟩,cZ hb aI ⟨e,l.length,aW,aY.b7 aW hval,.inl ⟨by rw[←q1];exact tq,by rw[q3]⟩⟩⟩
 ·exact⟨⟨v,rfl,by rw[q2];rfl⟩,cZ hb aI ⟨e,l.length,aW,aY.b7 aW hval,.inr ⟨cB,cap,by rw[←q1];exact tq,by rw[q2]⟩⟩⟩
theorem H7{mem:Nat→Option aY}:∀{o:OT} {u:o.den} {cs:List Value} {bs:List Nat} {ls:List (Option (Nat×Nat))} {N M:List (Nat×Nat)},nU w γ.I o u cs bs ls→fK γ N bs→kj γ M ls→xM mem o u N M →
  bH γ mem w (zl o u N M) .cells cs:=by
 intro o;induction o with
 | dat t=>intro u cs bs ls N M h _ _ _;exact h.1
 | buf e cq =>
   intro u cs bs ls N M h hN hM hm;obtain⟨L,v,rfl,rfl,rfl,h1⟩:=h;obtain⟨b,vr,r,rfl,hb⟩:=hm;unfold kj at hM;simp only[mT,IJ] at hM;exact h1.rep hM.1 hb rfl rfl rfl
 | ref tid o ih =>
   intro u cs bs ls N M h hN hM hm;obtain⟨blk,r,rfl,rfl,_,cur,t',fr,_,_,_,h1⟩:=h;obtain⟨b,vr,r',rfl,hb,_⟩:=hm;unfold fK at hN;simp only[mT,IJ] at hN;obtain⟨q,hq,he⟩:=Option.map_eq_some_iff.1 hN.1;refine⟨⟨_,rfl,rfl⟩,cZ hb rfl ⟨blk,q.2,?_,rfl⟩⟩;rw[hq,←he]
 | pair p q pY pg =>
   intro u cs bs ls N M h hN hM hm;obtain⟨c1,c2,b1,b2,l1,l2,rfl,rfl,rfl,h1,h2⟩:=h;obtain⟨n1,n2⟩:=hN.split h1.len.1;obtain⟨m1,m2⟩:=hM.split h1.len.2;exact⟨c1,c2,rfl,pY h1 n1 m1 hm.1,pg h2 n2 m2 hm.2⟩
 | unit=>intro u cs bs ls N M h _ _ _;rw[h.1];exact rfl
theorem Cd{mem:Nat→Option aY}:∀{o:OT} {u:o.den} {cs:List Value} {bs:List Nat} {ls:List (Option (Nat×Nat))} {N M:List (Nat×Nat)},nU w γ.I o u cs bs ls→fK γ N bs→kj γ M ls→xM mem o u N M →
  ∀{c:Nat} {bx:aY},fI o u N M c=some bx→bQ γ mem w c bx∧bx.ro=false∧∀blk k,γ.loc c=some (blk,k)→blk∈bL bs ls∧(∃x,w.heap[blk]?=some x)∧∀o,¬γ.I blk o:=by
 intro o;induction o with
 | dat t=>intro u cs bs ls N M _ _ _ _ c bx h;cases h
 | buf e cq =>
   intro u cs bs ls N M h hN hM hm c bx hc;obtain⟨L,v,rfl,rfl,rfl,h1⟩:=h;obtain⟨b,vr,r,rfl,hb⟩:=hm;unfold kj at hM;simp only[mT,IJ] at hM;unfold fI at hc;dsimp only at hc;cases hq:Nat.beq c b with
   | false=>rw[hq] at hc;cases hc
   | true =>
     rw[hq] at hc;obtain rfl:=dz hq;obtain rfl:=ax hc;refine⟨?_,rfl,fun blk k hl=>?_⟩
     ·unfold bQ;refine⟨e,u,rfl,h1.1,?_⟩;rcases h1.2 with ⟨q1,q2,q3⟩|⟨cB,cap,cur,tid,fr,q1,q2,q3,q4,q5,q6,q7,q8,q9,OO⟩
      ·exact .inl ⟨by rw[hM.1];exact q1,q2⟩
      ·exact .inr ⟨cB,cap,cur,tid,fr,by rw[hM.1];exact q1,q3,q4,q5,q6,q7,q8,OO⟩
     ·rcases h1.2 with ⟨q1,q2,q3⟩|⟨cB,cap,cur,tid,fr,q1,q2,q3,q4,q5,q6,q7,q8,q9,OO⟩
      ·rw[hM.1,q1] at hl;cases hl
      ·rw[hM.1,q1] at hl;obtain⟨rfl,rfl⟩:=cr (ax hl);exact⟨by simp[bL,q1],⟨_,q3⟩,q9⟩
 | ref tid o ih =>
   intro u cs bs ls N M h hN hM hm c bx hc;obtain⟨blk,r,rfl,rfl,hfree,cur,t',fr,k1,k2,k3,h1⟩:=h;obtain⟨b,vr,r',rfl,hb,hm'⟩:=hm;unfold fK at hN;simp only[mT,IJ] at hN;obtain⟨q,hq,he⟩:=Option.map_eq_some_iff.1 hN.1;have Nz:γ.loc b=some (blk,q.2):=by rw[hq,←he]
   unfold fI at hc;dsimp only at hc;cases hcb:Nat.beq c b with
   | false =>
     rw[hcb] at hc;obtain⟨g1,g2,g3⟩:=ih h1 hN.2 hM hm' hc;refine⟨g1,g2,fun cB k hl=>?_⟩;obtain⟨j1,j2⟩:=g3 cB k hl;refine⟨?_,j2⟩;unfold bL at j1⊢;exact nF _ j1
   | true =>
     rw[hcb] at hc;obtain rfl:=dz hcb;obtain rfl:=ax hc;refine⟨?_,rfl,fun cB k hl=>?_⟩
     ·unfold bQ;exact⟨blk,q.2,cur,t',fr,Nz,k1,k2,k3,H7 h1 hN.2 hM hm'⟩
     ·rw[Nz] at hl;obtain⟨rfl,rfl⟩:=cr (ax hl);exact⟨by simp[bL],⟨_,k1⟩,hfree⟩
 | pair p q pY pg =>
   intro u cs bs ls N M h hN hM hm c bx hc;obtain⟨c1,c2,b1,b2,l1,l2,rfl,rfl,rfl,h1,h2⟩:=h;obtain⟨n1,n2⟩:=hN.split h1.len.1;obtain⟨m1,m2⟩:=hM.split h1.len.2;have hin:∀{blk},(blk∈bL b1 l1∨blk∈bL b2 l2)→blk∈bL (b1++b2) (l1++l2):=by
    intro blk;unfold bL;simp only[OB,D9];rintro((a|a)|(a|a))
    ·exact .inl (.inl a)
    ·exact .inr (.inl a)
    ·exact .inl (.inr a)
    ·exact .inr (.inr a)
   unfold fI at hc;split at hc
   ·rename_i x hx;obtain rfl:=ax hc;obtain⟨g1,g2,g3⟩:=pY h1 n1 m1 hm.1 hx;exact⟨g1,g2,fun blk k hl=>⟨hin (.inl (g3 blk k hl).1),(g3 blk k hl).2⟩⟩
   ·obtain⟨g1,g2,g3⟩:=pg h2 n2 m2 hm.2 hc;exact⟨g1,g2,fun blk k hl=>⟨hin (.inr (g3 blk k hl).1),(g3 blk k hl).2⟩⟩
 | unit=>intro u cs bs ls N M _ _ _ _ c bx h;cases h
def Handed(mem:Nat→Option aY)(p:Nat×Nat):Prop:=∃bx,mem p.1=some bx∧bx.aj=p.2∧bx.lk=false∧bx.ro=false
theorem C7{mem:Nat→Option aY}(hm:aV B γ mem w){b blk k:Nat}{bx:aY}(hb:mem b=some bx)(hro:bx.ro=false)(hl:γ.loc b=some (blk,k))(o:Nat):¬γ.I blk o:=fun hi=>by
 have:=(hm.sep b bx blk k o hb hl hi).1;rw[hro] at this;cases this
theorem Ce{mem:Nat→Option aY}(hm:aV B γ mem w):∀{o:OT} {v:ay} {cs:List Value} {u:o.den} {N M:List (Nat×Nat)},bH γ mem w v .cells cs→cj mem o v=some (u,N,M) →
  ∃bs,fK γ N bs∧nU w γ.I o u cs bs (M.map fun p=>γ.loc p.1)∧∀p∈N++M,Handed mem p:=by
 intro o;induction o with
 | dat t =>
   intro v cs u N M hv h;unfold cj at h;split at h
   ·rename_i x hx;obtain⟨rfl,q⟩:=cr (ax h);obtain⟨rfl,rfl⟩:=cr q;rw[EF hx] at hv;exact⟨[],rfl,⟨hv,rfl,rfl⟩,fun p hp=>by cases hp⟩
   ·cases h
 | buf e cq =>
   intro v cs u N M hv h;unfold cj at h;split at h
   case h_2=>cases h
   rename_i b aj;split at h
   case h_2=>cases h
   rename_i bx hb;cases hcd:(Nat.beq bx.aj aj&&bx.buf&&!bx.lk&&!bx.ro&&Nat.beq bx.tid cq&&Nat.blt 0 e.size) with
   | false=>rw[hcd] at h;cases h
   | true =>
     rw[hcd] at h;simp only[cP,iE] at hcd;obtain⟨⟨⟨⟨⟨aI,aW⟩,hlk⟩,hro⟩,ez⟩,hsz⟩:=hcd;have aI:=dz aI;have ez:=dz ez;have hsz:0<e.size:=by simpa using hsz
     simp only[jk] at h;split at h
     case h_2=>cases h
     rename_i t l0 hval;split at h
     case h_2=>cases h
     rename_i l hl;obtain⟨rfl,q⟩:=cr (ax h);obtain⟨rfl,rfl⟩:=cr q;obtain⟨rfl,rfl⟩:=gA hl;obtain⟨v,rfl⟩:∃v,cs=[v]:=by obtain⟨⟨v,e,_⟩,_⟩:=hv;exact⟨v,e⟩
     obtain⟨e',n,k1,k2,k3⟩:=aJ hb aI hv.2;rw[aY.b7 aW hval] at k2;obtain⟨rfl,rfl⟩:=cr (ax k2);have gi:=hm.boxes b bx hb;unfold bQ at gi;rw[aW] at gi;obtain⟨t2,l2,a1,a2,a3⟩:=gi;rw[hval] at a1;injection a1 with a1 a4
     injection a1 with a1
     subst a1;obtain rfl:=eq_of_heq a4;refine⟨[],rfl,⟨γ.loc b,v,rfl,rfl,rfl,hsz,?_⟩,fun p hp=>?_⟩
     ·rcases k3 with ⟨k3,k4⟩|⟨blk,cap,k3,k4⟩
      ·rcases a3 with ⟨a3,a5⟩|⟨blk,cap,cur,tid,fr,a3,_⟩
       ·exact .inl ⟨a3,a5,mJ k4⟩
       ·rw[k3] at a3;cases a3
      ·rcases a3 with ⟨a3,a5⟩|⟨cB,cap',cur,tid,fr,a3,a5,a6,a7,a8,a9,Uj,Uk⟩
       ·rw[k3] at a3;cases a3
       ·rw[k3] at a3;obtain⟨rfl,rfl⟩:=cr (ax a3);exact .inr ⟨blk,cap,cur,tid,fr,k3,mJ k4,a5,a6,by rw[←ez];exact a7,a8,a9,Uj,fun o=>C7 hm hb hro k3 o,Uk⟩
     ·simp only[CG,List.mem_singleton] at hp;subst hp;exact⟨bx,hb,aI,hlk,hro⟩
 | ref tid o ih =>
   intro v cs u N M hv h;unfold cj at h;split at h
   case h_2=>cases h
   rename_i b aj;split at h
   case h_2=>cases h
   rename_i bx hb;cases hcd:(Nat.beq bx.aj aj&&!bx.buf&&!bx.lk&&!bx.ro&&Nat.beq bx.tid tid) with
   | false=>rw[hcd] at h;cases h
   | true =>
     rw[hcd] at h;simp only[cP,iE] at hcd;obtain⟨⟨⟨⟨aI,aW⟩,hlk⟩,hro⟩,ez⟩:=hcd;have aI:=dz aI;have ez:=dz ez;simp only[jk] at h;split at h
     case h_2=>cases h
     rename_i u1 N1 M1 hr;obtain⟨rfl,q⟩:=cr (ax h);obtain⟨rfl,rfl⟩:=cr q;obtain⟨blk,k,j1,j2⟩:=aJ hb aI hv.2;simp only[bR] at j2;have gi:=hm.boxes b bx hb;unfold bQ at gi;rw[aW] at gi;obtain⟨cB,cap,cur,t',fr,a1,a2,a3,a4,a5⟩:=gi;rw[j1] at a1;obtain⟨rfl,rfl⟩:=cr (ax a1);obtain⟨bs,g1,g2,g3⟩:=ih a5 hr;refine⟨blk::bs,?_,⟨blk,bs,j2,rfl,fun o=>C7 hm hb hro j1 o,cur,t',fr,a2,a3,by rw[←ez];exact a4,g2⟩,fun p hp=>?_⟩
     ·unfold fK at g1⊢;simp only[mT,g1,j1];rfl
     ·rcases List.mem_cons.1 (by simpa using hp:p∈(b,aj)::(N1++M1)) with rfl|hp
      ·exact⟨bx,hb,aI,hlk,hro⟩
      ·exact g3 p hp
 | pair p q pY pg =>
   intro v cs u N M hv h;unfold cj at h;split at h
   case h_2=>cases h
   rename_i a b;split at h
   case h_2=>cases h
   rename_i x N1 M1 y N2 M2 h1 h2;obtain⟨rfl,z⟩:=cr (ax h);obtain⟨rfl,rfl⟩:=cr z;obtain⟨c1,c2,rfl,v1,v2⟩:=hv;obtain⟨b1,g1,g2,g3⟩:=pY v1 h1;obtain⟨b2,k1,k2,k3⟩:=pg v2 h2;refine⟨b1++b2,?_,⟨c1,c2,b1,b2,M1.map fun p=>γ.loc p.1,M2.map fun p=>γ.loc p.1,rfl,rfl,by rw[tc],g2,k2⟩,fun r hr=>?_⟩
   ·unfold fK at g1 k1⊢;rw[tc,tc,g1,k1]
   ·simp only[D9] at hr;rcases hr with (hr|hr)|(hr|hr)
    ·exact g3 r (tC _ hr)
    ·exact k3 r (tC _ hr)
    ·exact g3 r (sK _ hr)
    ·exact k3 r (sK _ hr)
 | unit =>
   intro v cs u N M hv h;unfold cj at h;split at h
   case h_2=>cases h
   obtain⟨rfl,z⟩:=cr (ax h);obtain⟨rfl,rfl⟩:=cr z;exact⟨[],rfl,⟨hv,rfl,rfl⟩,fun p hp=>by cases hp⟩
theorem wV{mem:Nat→Option aY}:∀{o:OT} {v:ay} {u:o.den} {N M:List (Nat×Nat)},cj mem o v=some (u,N,M)→N.length=o.nr∧M.length=o.nb:=by
 intro o;induction o with
 | dat t =>
   intro v u N M h;unfold cj at h;split at h
   ·obtain⟨_,q⟩:=cr (ax h);obtain⟨rfl,rfl⟩:=cr q;exact⟨rfl,rfl⟩
   ·cases h
 | buf e cq =>
   intro v u N M h;unfold cj at h;split at h
   case h_2=>cases h
   split at h
   case h_2=>cases h
   rename_i bx hb;cases hcd:(Nat.beq bx.aj _&&bx.buf&&!bx.lk&&!bx.ro&&Nat.beq bx.tid cq&&Nat.blt 0 e.size) with
   | false=>rw[hcd] at h;cases h
   | true =>
     rw[hcd] at h;simp only[jk] at h;split at h
     case h_2=>cases h
     split at h
     case h_2=>cases h
     obtain⟨_,q⟩:=cr (ax h);obtain⟨rfl,rfl⟩:=cr q;exact⟨rfl,rfl⟩
 | ref tid o ih =>
   intro v u N M h;unfold cj at h;split at h
   case h_2=>cases h
   split at h
   case h_2=>cases h
   rename_i bx hb;cases hcd:(Nat.beq bx.aj _&&!bx.buf&&!bx.lk&&!bx.ro&&Nat.beq bx.tid tid) with
   | false=>rw[hcd] at h;cases h
   | true =>
     rw[hcd] at h;simp only[jk] at h;split at h
     case h_2=>cases h
     rename_i u1 N1 M1 hr;obtain⟨_,q⟩:=cr (ax h);obtain⟨rfl,rfl⟩:=cr q;have:=ih hr;exact⟨by simp[OT.nr,this.1],this.2⟩
 | pair p q pY pg =>
   intro v u N M h;unfold cj at h;split at h
   case h_2=>cases h
   split at h
   case h_2=>cases h
   rename_i x N1 M1 y N2 M2 h1 h2;obtain⟨_,z⟩:=cr (ax h);obtain⟨rfl,rfl⟩:=cr z;have a:=pY h1;have b:=pg h2;simp[OT.nr,OT.nb,a.1,a.2,b.1,b.2]
 | unit =>
   intro v u N M h;unfold cj at h;split at h
   case h_2=>cases h
   obtain⟨_,z⟩:=cr (ax h);obtain⟨rfl,rfl⟩:=cr z;exact⟨rfl,rfl⟩
def ay.Pj:ay→Option (Ty×Nat)
 | .data (.arr n e) _=>some (e,n)
 | _=>none
theorem Li{bx:aY}(h:bx.buf=false):bx.row=bx.val.Pj:=by
 unfold aY.row;rw[h];cases hv:bx.val with
 | data t x=>cases t<;>rfl
 | _=>rfl
theorem Gn{mem:Nat→Option aY}{o:OT}{v:ay}{u y:o.den}{N M N' M':List (Nat×Nat)}(h:cj mem o v=some (u,N,M)):(zl o y N' M').Pj=v.Pj:=by
 unfold cj at h;cases o with
 | dat t =>
   dsimp only at h;split at h
   ·rename_i x hx;rw[EF hx];cases t<;>rfl
   ·cases h
 | buf e cq =>
   dsimp only at h;split at h
   case h_2=>cases h
   cases M'<;>rfl
 | ref tid o =>
   dsimp only at h;split at h
   case h_2=>cases h
   cases N'<;>rfl
 | pair p q =>
   dsimp only at h;split at h
   case h_2=>cases h
   rfl
 | unit =>
   dsimp only at h;split at h
   case h_2=>cases h
   rfl
theorem Cf{mem:Nat→Option aY}:∀{o:OT} {v:ay} {u y:o.den} {N M:List (Nat×Nat)} {c:Nat} {bx:aY},cj mem o v=some (u,N,M)→fI o y N (M.map fun p=>(p.1,p.2+1)) c=some bx →
  (∃cx,(c,cx.aj)∈N∧mem c=some cx∧bx.aj=cx.aj∧bx.buf=cx.buf∧bx.row=cx.row)∨∃cx,(c,cx.aj)∈M∧mem c=some cx∧bx.aj=cx.aj+1:=by
 intro o;induction o with
 | dat t=>intro v u y N M c bx _ h;cases h
 | buf e cq =>
   intro v u y N M c bx h hc;unfold cj at h;split at h
   case h_2=>cases h
   rename_i b aj;split at h
   case h_2=>cases h
   rename_i b0 hb;cases hcd:(Nat.beq b0.aj aj&&b0.buf&&!b0.lk&&!b0.ro&&Nat.beq b0.tid cq&&Nat.blt 0 e.size) with
   | false=>rw[hcd] at h;cases h
   | true =>
     rw[hcd] at h;simp only[cP] at hcd;have aI:=dz hcd.1.1.1.1.1;simp only[jk] at h;split at h
     case h_2=>cases h
     split at h
     case h_2=>cases h
     obtain⟨_,q⟩:=cr (ax h);obtain⟨rfl,rfl⟩:=cr q;unfold fI at hc;simp only[mT,List.map_nil] at hc;cases hq:Nat.beq c b with
     | false=>rw[hq] at hc;cases hc
     | true =>
       rw[hq] at hc;obtain rfl:=dz hq;obtain rfl:=ax hc;exact .inr ⟨b0,by rw[aI];simp,hb,by rw[aI]⟩
 | ref tid o ih =>
   intro v u y N M c bx h hc;unfold cj at h;split at h
   case h_2=>cases h
   rename_i b aj;split at h
   case h_2=>cases h
   rename_i b0 hb;cases hcd:(Nat.beq b0.aj aj&&!b0.buf&&!b0.lk&&!b0.ro&&Nat.beq b0.tid tid) with
   | false=>rw[hcd] at h;cases h
   | true =>
     rw[hcd] at h;simp only[cP,iE] at hcd;have aI:=dz hcd.1.1.1.1;simp only[jk] at h;split at h
     case h_2=>cases h
     rename_i u1 N1 M1 hr;obtain⟨_,q⟩:=cr (ax h);obtain⟨rfl,rfl⟩:=cr q;unfold fI at hc;dsimp only at hc;cases hq:Nat.beq c b with
     | false =>
       rw[hq] at hc;rcases ih hr hc with ⟨cx,g1,g2⟩|g
       ·exact .inl ⟨cx,nF _ g1,g2⟩
       ·exact .inr g
     | true =>
       rw[hq] at hc;obtain rfl:=dz hq;obtain rfl:=ax hc;refine .inl ⟨b0,by rw[aI];simp,hb,aI.symm,hcd.1.1.1.2.symm,?_⟩;rw[Li hcd.1.1.1.2,Li rfl];exact Gn hr
 | pair p q pY pg =>
   intro v u y N M c bx h hc;unfold cj at h;split at h
   case h_2=>cases h
   split at h
   case h_2=>cases h
   rename_i x N1 M1 y1 N2 M2 h1 h2;obtain⟨_,z⟩:=cr (ax h);obtain⟨rfl,rfl⟩:=cr z;have a:=wV h1;unfold fI at hc;rw[tc,Eb a.1,IK a.1,Eb (by simp[a.2]),IK (by simp[a.2])] at hc;split at hc
   ·rename_i x hx;obtain rfl:=ax hc;rcases pY h1 hx with ⟨cx,g1,g2⟩|⟨cx,g1,g2⟩
    ·exact .inl ⟨cx,tC _ g1,g2⟩
    ·exact .inr ⟨cx,tC _ g1,g2⟩
   ·rcases pg h2 hc with ⟨cx,g1,g2⟩|⟨cx,g1,g2⟩
    ·exact .inl ⟨cx,sK _ g1,g2⟩
    ·exact .inr ⟨cx,sK _ g1,g2⟩
 | unit=>intro v u y N M c bx _ h;cases h
theorem wW:∀{o:OT} {u:o.den} {N M:List (Nat×Nat)} {c:Nat},N.length=o.nr→M.length=o.nb→c∈aT N M→∃bx,fI o u N M c=some bx:=by
 intro o;induction o with
 | dat t =>
   intro u N M c hN hM hc;rw[List.length_eq_zero_iff.1 hN,List.length_eq_zero_iff.1 hM] at hc;cases hc
 | buf e cq =>
   intro u N M c hN hM hc;rw[List.length_eq_zero_iff.1 hN] at hc
   match M,hM,hc with
   | [p],_,hc =>
     have:c=p.1:=by simpa [aT] using hc
     subst this;exact⟨_,by unfold fI;dsimp only;rw[CI];rfl⟩
 | ref tid o ih =>
   intro u N M c hN hM hc;cases N with
   | nil=>cases hN
   | cons p r =>
     unfold fI;dsimp only;cases hq:Nat.beq c p.1 with
     | true=>exact⟨_,rfl⟩
     | false =>
       refine ih (by simpa [OT.nr] using hN) hM ?_;unfold aT at hc⊢;simp only[mT,D8,CH] at hc;rcases hc with rfl|hc
       ·rw[CI] at hq;cases hq
       ·exact hc
 | pair p q pY pg =>
   intro u N M c hN hM hc;simp only[OT.nr,OT.nb] at hN hM;have e1:N.take p.nr++N.drop p.nr=N:=A6 ..;have e2:M.take p.nb++M.drop p.nb=M:=A6 ..;unfold fI;cases hq:fI p u.1 (N.take p.nr) (M.take p.nb) c with
   | some x=>exact⟨x,rfl⟩
   | none =>
     refine pg (by rw[ou];omega) (by rw[ou];omega) ?_;have hno:c∉aT (N.take p.nr) (M.take p.nb):=fun hin=>by
      obtain⟨bx,hb⟩:=pY (u:=u.1) (by rw[iA];omega) (by rw[iA];omega) hin;rw[hq] at hb;cases hb
     unfold aT at hc hno⊢;rw[←e1,←e2,tc,tc] at hc;simp only[D9] at hc hno⊢;rcases hc with (hc|hc)|(hc|hc)
     ·exact absurd (.inl hc) hno
     ·exact .inl hc
     ·exact absurd (.inr hc) hno
     ·exact .inr hc
 | unit =>
   intro u N M c hN hM hc;rw[List.length_eq_zero_iff.1 hN,List.length_eq_zero_iff.1 hM] at hc;cases hc
def fo:List (Nat×Nat)→List (Option (Nat×Nat))→(Nat→Option (Nat×Nat))→Nat→Option (Nat×Nat)
 | (b,_)::M,L::ls,loc,c=>if c=b then L else fo M ls loc c
 | _,_,loc,c=>loc c
theorem uy{loc:Nat→Option (Nat×Nat)}:∀{M:List (Nat×Nat)} {ls:List (Option (Nat×Nat))} {c:Nat},c∉M.map (·.1)→fo M ls loc c=loc c:=by
 intro M;induction M with
 | nil=>intro ls c _;cases ls<;>rfl
 | cons p r ih =>
   intro ls c h;cases ls with
   | nil=>rfl
   | cons L ls =>
     simp only[mT,CH,not_or] at h;unfold fo;rw[cT h.1];exact ih h.2
theorem qE{loc:Nat→Option (Nat×Nat)}:∀{M:List (Nat×Nat)} {ls:List (Option (Nat×Nat))},(M.map (·.1)).Nodup→M.length=ls.length→M.map (fun p=>fo M ls loc p.1)=ls:=by
 intro M;induction M with
 | nil=>intro ls _ h;cases ls with|nil=>rfl|cons _ _=>cases h
 | cons p r ih =>
   intro ls hd h;cases ls with
   | nil=>cases h
   | cons L ls =>
     simp only[mT,IL] at hd;have:r.map (fun q=>fo (p::r) (L::ls) loc q.1)=ls:=by
      refine Eq.trans (FX fun q hq=>?_) (ih hd.2 (by simpa using h));have hne:q.1≠p.1:=fun e=>hd.1 (by rw[←e];exact List.mem_map.2 ⟨q,hq,rfl⟩);show(if q.1=p.1 then L else fo r ls loc q.1)=_
      rw[cT hne]
     rw[mT,this];show(if p.1=p.1 then L else _)::ls=L::ls
     rw[ek rfl]
theorem wX{loc:Nat→Option (Nat×Nat)}{M:List (Nat×Nat)}{ls:List (Option (Nat×Nat))}(hd:(M.map (·.1)).Nodup)(hl:M.length=ls.length){c:Nat}(hc:c∈M.map (·.1)):∃i v:Nat,M[i]?=some (c,v)∧ls[i]?=some (fo M ls loc c):=by
 obtain⟨p,hp,rfl⟩:=List.mem_map.1 hc;obtain⟨i,hi,OP⟩:=FW hp;refine⟨i,p.2,by rw[qV hi,OP],?_⟩;have:=qE (loc:=loc) hd hl
 conv=>lhs;rw[←this]
 rw[zb,qV hi,OP];rfl
theorem eX{U:OT}{y:U.den}{N M:List (Nat×Nat)}{σ:St}{c:Nat}:(gN U y N M σ).mem c=match fI U y N (M.map fun p=>(p.1,p.2+1)) c with|some bx=>some bx|none=>σ.mem c:=rfl
theorem nV{N M:List (Nat×Nat)}:aT N (M.map fun p=>(p.1,p.2+1))=aT N M:=by
 unfold aT;rw[Ef];rfl
theorem Lj{blk k k':Nat}:∀{l:List (Option (Nat×Nat))} {i j:Nat},(l.filterMap fun L=>L.map (·.1)).Nodup→l[i]?=some (some (blk,k))→l[j]?=some (some (blk,k'))→i=j:=by
 intro l;induction l with
 | nil=>intro i j _ h;simp at h
 | cons L r ih =>
   intro i j hn hi hj;have hmem:∀(q kq:Nat),r[q]?=some (some (blk,kq))→blk∈r.filterMap fun L=>L.map (·.1):=fun q kq hq=>List.mem_filterMap.2 ⟨_,D5 hq,rfl⟩;cases i with
   | zero =>
     cases j with
     | zero=>rfl
     | succ j =>
       obtain rfl:=ax (show some L=_ from hi);rw[M9 (f:=fun L:Option (Nat×Nat)=>L.map (·.1)) (a:=some (blk,k)) (b:=blk) rfl] at hn;exact absurd (hmem j k' (by simpa using hj)) (List.nodup_cons.1 hn).1
   | succ i =>
     cases j with
     | zero =>
       obtain rfl:=ax (show some L=_ from hj);rw[M9 (f:=fun L:Option (Nat×Nat)=>L.map (·.1)) (a:=some (blk,k')) (b:=blk) rfl] at hn;exact absurd (hmem i k (by simpa using hi)) (List.nodup_cons.1 hn).1
     | succ j =>
       have hn':(r.filterMap fun L=>L.map (·.1)).Nodup:=by
        cases hL:L.map (·.1) with
        | none=>rw[Ox hL] at hn;exact hn
        | some q=>rw[M9 hL] at hn;exact(List.nodup_cons.1 hn).2
       have:=ih hn' (by simpa using hi) (by simpa using hj);omega
theorem aV.refs(h:aV B γ σ.mem w){U:OT}{V:ay}{u y:U.den}{N M:List (Nat×Nat)}{en:List Value}{bs:List Nat}{ls':List (Option (Nat×Nat))}(hr:cj σ.mem U V=some (u,N,M))(hd:(aT N M).Nodup)(hN:fK γ N bs)
  (hH:∀p∈N++M,Handed σ.mem p) {G:eH} (hw:nD ⟨w.heap.size,(·∈bL bs (M.map fun p=>γ.loc p.1)),G⟩ w w') {I':Nat→Nat→Prop} (hI:∀b o,γ.I b o→I' b o) (Ph:∀b o,I' b o→b<w'.heap.size)
  (hnew:∀b o,I' b o→¬γ.I b o→w.heap.size≤b∨b∈bL bs (M.map fun p=>γ.loc p.1)) (ha:nU w' I' U y en bs ls') (hnd:(bL bs ls').Nodup) (hfr:∀blk∈bL [] ls',blk∈bL bs (M.map fun p=>γ.loc p.1)∨w.heap.size≤blk) :
  aV B ⟨I',fo M ls' γ.loc⟩ (gN U y N M σ).mem w'∧Ext B γ σ.mem w ⟨I',fo M ls' γ.loc⟩ (gN U y N M σ).mem w':=by
 have hlen:=wV hr;have hal:=ha.len;have RA:M.length=ls'.length:=by rw[hlen.2,hal.2]
 have RB:(M.map (·.1)).Nodup:=by unfold aT at hd;exact(List.nodup_append.1 hd).2.1
 have hNM:∀c,c∈N.map (·.1)→c∉M.map (·.1):=fun c h1 h2=>by unfold aT at hd;exact(List.nodup_append.1 hd).2.2 c h1 c h2 rfl
 have hold:∀blk,blk∈bL bs (M.map fun p=>γ.loc p.1)→∃b bx k,b∈aT N M∧σ.mem b=some bx∧bx.ro=false∧γ.loc b=some (blk,k)∧(b∈N.map (·.1)→blk∈bs):=by
  intro blk hb;unfold bL at hb;rcases List.mem_append.1 hb with hb|hb
  ·have:some blk∈N.map fun p=>(γ.loc p.1).map (·.1):=by rw[hN];exact List.mem_map.2 ⟨blk,hb,rfl⟩
   obtain⟨p,hp,he⟩:=List.mem_map.1 this;obtain⟨q,hq,he⟩:=Option.map_eq_some_iff.1 he;obtain⟨bx,j1,j2,j3,j4⟩:=hH p (tC _ hp);exact⟨p.1,bx,q.2,tC _ (List.mem_map.2 ⟨p,hp,rfl⟩),j1,j4,by rw[hq,←he],fun _=>hb⟩
  ·obtain⟨L,hL,he⟩:=List.mem_filterMap.1 hb;obtain⟨p,hp,rfl⟩:=List.mem_map.1 hL;obtain⟨q,hq,he⟩:=Option.map_eq_some_iff.1 he;obtain⟨bx,j1,j2,j3,j4⟩:=hH p (sK _ hp);exact⟨p.1,bx,q.2,sK _ (List.mem_map.2 ⟨p,hp,rfl⟩),j1,j4,by rw[hq,←he],fun K8=>absurd (List.mem_map.2 ⟨p,hp,rfl⟩) (hNM _ K8)⟩
 have hown:∀blk∈bL bs (M.map fun p=>γ.loc p.1),B.has blk∧blk<w.heap.size:=fun blk hb=>by
  obtain⟨b,bx,k,_,g2,_,g4,_⟩:=hold blk hb;exact h.fresh b blk k (by rw[g2];simp) g4
 have hfree:∀blk∈bL bs (M.map fun p=>γ.loc p.1),∀o,¬γ.I blk o:=fun blk hb o=>by
  obtain⟨b,bx,k,_,g2,g3,g4,_⟩:=hold blk hb;exact C7 h g2 g3 g4 o
 have hsame:∀k,k<w.heap.size→k∉bL bs (M.map fun p=>γ.loc p.1)→w'.heap[k]?=w.heap[k]?:=fun k hk hb=>hw.block k fun q=>by
  rcases q with q|q
  ·have:w.heap.size≤k:=q;omega
  ·exact hb q
 have Pk:∀k,¬B.has k→k<w.heap.size:=fun k hk=>HM fun q=>hk (.inl (jq h.base q));have Ul:fK ⟨I',fo M ls' γ.loc⟩ N bs:=by
  unfold fK at hN⊢;rw[←hN];refine FX fun p hp=>?_;show(fo M ls' γ.loc p.1).map _=_
  rw[uy (hNM p.1 (List.mem_map.2 ⟨p,hp,rfl⟩))]
 have hL':kj ⟨I',fo M ls' γ.loc⟩ (M.map fun p=>(p.1,p.2+1)) ls':=by
  unfold kj;rw[Ef];exact qE RB RA
 have hin:xM (gN U y N M σ).mem U y N (M.map fun p=>(p.1,p.2+1)) :=
  EG hlen.1 (by rw[zf];exact hlen.2) (by rw[nV];exact hd) fun c bx hc=>by rw[eX,hc]
 have Gp:∀{c bx},fI U y N (M.map fun p=>(p.1,p.2+1)) c=some bx→_:=fun {c bx} hc=>Cd (γ:=⟨I',fo M ls' γ.loc⟩) ha Ul hL' hin hc;have hout:∀{c},fI U y N (M.map fun p=>(p.1,p.2+1)) c=none→c∉aT N M:=fun {c} hc hq=>by
  obtain⟨bx,hb⟩:=wW (u:=y) (M:=M.map fun p=>(p.1,p.2+1)) hlen.1 (by rw[zf];exact hlen.2) (by rw[nV];exact hq);rw[hc] at hb;cases hb
 have tq:∀{c},c∉M.map (·.1)→fo M ls' γ.loc c=γ.loc c:=fun hc=>uy hc;have hne:∀c,(gN U y N M σ).mem c≠none→σ.mem c≠none:=by
  intro c hc hq;apply hc;rw[eX];cases hv:fI U y N (M.map fun p=>(p.1,p.2+1)) c with
  | none=>exact hq
  | some bx =>
    rcases Cf hr hv with ⟨cx,_,g,_⟩|⟨cx,_,g,_⟩
    ·rw[hq] at g;cases g
    ·rw[hq] at g;cases g
 have hx:Ext B γ σ.mem w ⟨I',fo M ls' γ.loc⟩ (gN U y N M σ).mem w' :=
  { below:=⟨hw.os,hw.tape,hw.output,hw.size,fun k hk=>hsame k (Pk k hk) fun hb=>hk (hown k hb).1⟩
    I:=hI
    mX:=fun b o x=>by
     by_cases hi:γ.I b o
     ·exact .inl hi
     ·rcases hnew b o x hi with q|q
      ·exact .inr (.inl (jq h.base q))
      ·exact .inr (hown b q).1
    cells:=fun b o hi=>ep (hsame b (h.mW b o hi) fun hb=>hfree b hb o hi)
    boxes:=fun c cx hc=>by
     rw[eX];cases hv:fI U y N (M.map fun p=>(p.1,p.2+1)) c with
     | none=>exact⟨cx,hc,kS _,fun _=>⟨tq fun q=>hout hv (sK _ q),rfl,rfl⟩⟩
     | some bx =>
       rcases Cf hr hv with ⟨Tq,g1,g2,g3,g4,g5⟩|⟨Tq,g1,g2,g3⟩
       ·rw[hc] at g2;obtain rfl:=ax g2;exact⟨bx,rfl,CJ g3.symm,fun _=>⟨tq (hNM c (List.mem_map.2 ⟨_,g1,rfl⟩)),g4,g5⟩⟩
       ·rw[hc] at g2;obtain rfl:=ax g2;exact⟨bx,rfl,by omega,fun e=>by omega⟩ }
 have hls:∀{c blk k},c∈M.map (·.1)→fo M ls' γ.loc c=some (blk,k)→blk∈bL [] ls':=fun {c blk k} hc he=>by
  obtain⟨i,v,h1,h2⟩:=wX (loc:=γ.loc) RB RA hc;rw[he] at h2;unfold bL;exact sK _ (List.mem_filterMap.2 ⟨_,D5 h2,rfl⟩)
 have OQ:∀{c d blk k k'},c∈M.map (·.1)→σ.mem d≠none→fo M ls' γ.loc c=some (blk,k)→fo M ls' γ.loc d=some (blk,k')→c=d:=by
  intro c d blk k k' hc Sa e1 e2;have hb:=hls hc e1;by_cases Jf:d∈M.map (·.1)
  ·obtain⟨i,v,i1,i2⟩:=wX (loc:=γ.loc) RB RA hc;obtain⟨j,v',j1,j2⟩:=wX (loc:=γ.loc) RB RA Jf;rw[e1] at i2;rw[e2] at j2;have Qh:(ls'.filterMap fun L=>L.map (·.1)).Nodup:=by unfold bL at hnd;exact(List.nodup_append.1 hnd).2.1
   have hij:i=j:=by
    exact Lj Qh i2 j2
   subst hij;rw[i1] at j1;exact(cr (ax j1)).1
  ·rw[tq Jf] at e2;have hlt:=(h.fresh d blk k' Sa e2).2;rcases hfr blk hb with hq|hq
   ·obtain⟨n,bx,kn,n1,n2,n3,n4,n5⟩:=hold blk hq;have Sc:=h.inj n d blk kn k' (by rw[n2];simp) Sa n4 e2;subst Sc;unfold aT at n1;rcases List.mem_append.1 n1 with n1|n1
    ·have h1:=n5 n1;unfold bL at hnd hb;rw[CG] at hb;exact absurd rfl ((List.nodup_append.1 hnd).2.2 blk h1 blk hb)
    ·exact absurd n1 Jf
   ·omega
 refine⟨?_,hx⟩;exact
  { bG:=h.va hx
    base:=jq h.base hw.size
    boxes:=fun c cx hc=>by
     rw[eX] at hc;cases hv:fI U y N (M.map fun p=>(p.1,p.2+1)) c with
     | none =>
       rw[hv] at hc;replace hc:σ.mem c=some cx:=hc;have Tr:=hout hv;refine(h.boxes c cx hc).keep hx (tq fun q=>Tr (sK _ q)) fun blk k hl=>?_;refine hsame blk (h.fresh c blk k (by rw[hc];simp) hl).2 fun hb=>?_;obtain⟨b,bx,k',g1,g2,g3,g4,_⟩:=hold blk hb;have:=h.inj c b blk k k' (by rw[hc];simp) (by rw[g2];simp) hl g4;subst this;exact Tr g1
     | some bx =>
       rw[hv] at hc;obtain rfl:=ax hc;exact(Gp hv).1
    inj:=fun c d blk k k' hc hd' e1 e2=>by
     by_cases Qi:c∈M.map (·.1)
     ·exact OQ Qi (hne d hd') e1 e2
     ·by_cases Jf:d∈M.map (·.1)
      ·exact(OQ Jf (hne c hc) e2 e1).symm
      ·exact h.inj c d blk k k' (hne c hc) (hne d hd') ((tq Qi).symm.trans e1) ((tq Jf).symm.trans e2)
    fresh:=fun c blk k hc hl=>by
     by_cases Qi:c∈M.map (·.1)
     ·have hb:=hls Qi hl;obtain⟨bx,jW⟩:=wW (u:=y) (M:=M.map fun p=>(p.1,p.2+1)) hlen.1 (by rw[zf];exact hlen.2) (by rw[nV];exact sK _ Qi);obtain⟨_,_,g⟩:=Gp jW;obtain⟨_,⟨x,hx1⟩,_⟩:=g blk k hl;refine⟨?_,(Array.getElem?_eq_some_iff.1 hx1).1⟩;rcases hfr blk hb with q|q
      ·exact(hown blk q).1
      ·exact .inl (jq h.base q)
     ·have:=h.fresh c blk k (hne c hc) ((tq Qi).symm.trans hl);exact⟨this.1,ud this.2 hw.size⟩
    mW:=Ph
    sep:=fun c cx blk k off hc hl hi=>by
     rw[eX] at hc;cases hv:fI U y N (M.map fun p=>(p.1,p.2+1)) c with
     | some bx =>
       obtain⟨_,_,g⟩:=Gp hv;exact absurd hi ((g blk k hl).2.2 off)
     | none =>
       rw[hv] at hc;replace hc:σ.mem c=some cx:=hc;have Kf:γ.loc c=some (blk,k):=(tq fun q=>hout hv (sK _ q)).symm.trans hl;by_cases hi0:γ.I blk off
       ·exact h.sep c cx blk k off hc Kf hi0
       ·have h2:=(h.fresh c blk k (by rw[hc];simp) Kf).2;rcases hnew blk off hi hi0 with h1|h1
        ·omega
        ·obtain⟨b,bx,k',g1,g2,g3,g4,_⟩:=hold blk h1;have:=h.inj c b blk k k' (by rw[hc];simp) (by rw[g2];simp) Kf g4;subst this;exact absurd g1 (hout hv) }
theorem wY{mem:Nat→Option aY}{p q:OT}{a b:ay}{x:p.den}{y:q.den}{N M N' M':List (Nat×Nat)}(h1:cj mem p a=some (x,N,M))(h2:cj mem q b=some (y,N',M')):cj mem (.pair p q) (.mix a b)=some ((x,y),N++N',M++M'):=by
 simp only[cj,h1,h2];rfl
theorem Bk:∀{ps:List Bool} {A:Ty} {U:OT} {vs:List ay} {xs:List Value} {x:A.den} {u:U.den} {N M:List (Nat×Nat)},ij γ σ.mem w vs xs→eG σ ps A U vs=some (x,u,N,M) →
  ∃V en,Cc w γ.I ps A U x xs en∧bH γ σ.mem w V .cells en∧cj σ.mem U V=some (u,N,M):=by
 intro ps;induction ps with
 | nil =>
   intro A U vs xs x u N M hv h;cases A<;>first|(cases h;done)|skip
   cases U<;>first|(cases h;done)|skip
   cases vs with
   | cons v r=>cases h
   | nil =>
     cases h;have hx:xs=[]:=by have:=hv.1;simpa using this
     exact⟨.data .unit (),[],⟨rfl,rfl,hx,rfl⟩,rfl,rfl⟩
 | cons p ps ih =>
   intro A U vs xs x u N M hv h;cases p with
   | false =>
     cases A<;>first|(cases h;done)|skip
     rename_i t A;cases vs with
     | nil=>cases h
     | cons v r =>
       simp only[eG] at h;split at h
       ·rename_i x1 y1 u1 q1 h1 h2;obtain⟨rfl,q⟩:=cr (ax h);obtain⟨rfl,rfl⟩:=cr q;obtain⟨val,rest,rfl,g1,g2⟩:=hv.cons;obtain⟨V,en,k1,k2,k3⟩:=ih g2 h2;obtain⟨cs,c1,c2⟩:=Je g1 h1;exact⟨V,en,⟨cs,rest,by rw[c2],c1,k1⟩,k2,k3⟩
       ·cases h
   | true =>
     cases U<;>first|(cases h;done)|skip
     rename_i o U;cases o<;>first|(cases h;done)|skip
     rename_i tid o;cases vs with
     | nil=>cases h
     | cons v r =>
       simp only[eG] at h;split at h
       ·rename_i x1 N1 M1 y1 u1 N2 M2 h1 h2;cases h;obtain⟨val,rest,rfl,g1,g2⟩:=hv.cons;obtain⟨V,en,k1,k2,k3⟩:=ih g2 h2;have hp:∃b aj,v=.ptr b aj []:=by
         have h1':=h1;unfold cj at h1';split at h1'
         ·exact⟨_,_,rfl⟩
         ·cases h1'
        obtain⟨b,aj,rfl⟩:=hp;exact⟨.mix (.ptr b aj []) V,val::en,⟨val,rest,en,rfl,rfl,k1⟩,⟨[val],en,rfl,g1,k2⟩,by
         exact wY h1 k3⟩
       ·cases h
theorem Cg{mem:Nat→Option aY}{N M:List (Nat×Nat)}{bs:List Nat}(hN:fK γ N bs)(hH:∀p∈N++M,Handed mem p){blk:Nat}(hb:blk∈bL bs (M.map fun p=>γ.loc p.1)):∃b k,(∃bx,mem b=some bx)∧γ.loc b=some (blk,k):=by
 unfold bL at hb;rcases List.mem_append.1 hb with hb|hb
 ·have:some blk∈N.map fun p=>(γ.loc p.1).map (·.1):=by rw[hN];exact List.mem_map.2 ⟨blk,hb,rfl⟩
  obtain⟨p,hp,he⟩:=List.mem_map.1 this;obtain⟨q,hq,he⟩:=Option.map_eq_some_iff.1 he;obtain⟨bx,j1,_⟩:=hH p (tC _ hp);exact⟨p.1,q.2,⟨bx,j1⟩,by rw[hq,←he]⟩
 ·obtain⟨L,hL,he⟩:=List.mem_filterMap.1 hb;obtain⟨p,hp,rfl⟩:=List.mem_map.1 hL;obtain⟨q,hq,he⟩:=Option.map_eq_some_iff.1 he;obtain⟨bx,j1,_⟩:=hH p (sK _ hp);exact⟨p.1,q.2,⟨bx,j1⟩,by rw[hq,←he]⟩
theorem Gq{mem:Nat→Option aY}(hm:aV B γ mem w):∀{l:List (Nat×Nat)},(l.map (·.1)).Nodup→(∀p∈l,Handed mem p)→(l.filterMap fun p=>(γ.loc p.1).map (·.1)).Nodup:=by
 intro l;induction l with
 | nil=>intro _ _;exact List.nodup_nil
 | cons p r ih =>
   intro hd hH;simp only[mT,IL] at hd;have hr:=ih hd.2 fun q hq=>hH q (nF _ hq);cases hL:(γ.loc p.1).map (·.1) with
   | none=>rw[Ox (f:=fun p:Nat×Nat=>(γ.loc p.1).map (·.1)) hL];exact hr
   | some blk =>
     rw[M9 (f:=fun p:Nat×Nat=>(γ.loc p.1).map (·.1)) hL,IL];refine⟨fun hq=>?_,hr⟩;obtain⟨q,hq,he⟩:=List.mem_filterMap.1 hq;obtain⟨x,hx,hx2⟩:=Option.map_eq_some_iff.1 hL;obtain⟨z,hz,Um⟩:=Option.map_eq_some_iff.1 he;obtain⟨bp,p1,_⟩:=hH p (nG ..);obtain⟨bq,q1,_⟩:=hH q (nF _ hq);have:=hm.inj p.1 q.1 blk x.2 z.2 (by rw[p1];simp) (by rw[q1];simp) (by rw[hx,←hx2]) (by rw[hz,←Um]);exact hd.1 (by rw[this];exact List.mem_map.2 ⟨q,hq,rfl⟩)
theorem xN{mem:Nat→Option aY}(hm:aV B γ mem w){N M:List (Nat×Nat)}{bs:List Nat}(hN:fK γ N bs)(hH:∀p∈N++M,Handed mem p)(hd:(aT N M).Nodup):(bL bs (M.map fun p=>γ.loc p.1)).Nodup:=by
 have h:=Gq hm (l:=N++M) (by rw[tc];exact hd) hH;have e:((N++M).filterMap fun p=>(γ.loc p.1).map (·.1))=bL bs (M.map fun p=>γ.loc p.1):=by
  unfold bL;rw[OB,KI]
  congr 1
  have h2:(N.filterMap fun p=>(γ.loc p.1).map (·.1))=(N.map fun p=>(γ.loc p.1).map (·.1)).filterMap id:=by rw[KI];rfl
  rw[h2,hN,KI];exact List.filterMap_some
 rw[←e];exact h
end
end Go.Ge
