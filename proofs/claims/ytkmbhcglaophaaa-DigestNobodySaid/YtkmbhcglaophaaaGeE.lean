/- A ghost interpreter of the model's code, and that it tells the truth: part 5. It says of a function of plain data what a call of it comes to. -/
import Derived.Test.YtkmbhcglaophaaaGeD
set_option linter.unusedVariables false
set_option linter.unusedSimpArgs false
set_option linter.unusedSectionVars false
namespace Go.Ge
open RowKit
def dL(w:World)(I:Nat→Nat→Prop):(A:Ty)→A.den→List Value→Prop
 | .pair t r,x,vs=>∃cs rest,vs=bk t cs::rest∧aM w I t x.1 cs∧dL w I r x.2 rest
 | .unit,_,vs=>vs=[]
 | _,_,_=>False
def gw(w:World)(I:Nat→Nat→Prop)(R:Ty)(y:R.den)(v:Value):Prop:=aV ⟨I,fun _=>none⟩ (fun _=>none) w (jX R y) .val [v]
structure Holds (P:Program) (G:eN) (f:Nat) (c:kJ):Prop where
 body:∃fn code,P.funcs[f]?=some fn∧(fn.name == "runtime.NumGoroutine")=false∧fn.body=some code
 calls:∀(I:Nat→Nat→Prop) (w:World) (args:Array Value) (x:c.A.den) (y:c.R.den),(∀b o,I b o→b<w.heap.size)→pN G w→dL w I c.A x args.toList→c.spec x=some y →
  Calls P f args w fun e w'=>∃v I',e=.returned v∧Below w.heap.size w w'∧(∀b o,I b o→I' b o)∧(∀b o,I' b o→b<w'.heap.size)∧(∀b o,I' b o→¬I b o→w.heap.size≤b)∧gw w' I' c.R y v
def vf(P:Program)(G:eN)(name:String)(c:kJ):Prop :=
 ∀(I:Nat→Nat→Prop) (w:World) (v:Value) (xs:List Value) (x:c.A.den) (y:c.R.den),(∀b o,I b o→b<w.heap.size)→pN G w→dL w I c.A x (v::xs)→c.spec x=some y →
  ∃f u,(callMethod v name xs.toArray).run P w=(callFunc f (u::xs).toArray).run P w∧(∃fn code,P.funcs[f]?=some fn∧(fn.name == "runtime.NumGoroutine")=false∧fn.body=some code) ∧
  Calls P f (u::xs).toArray w fun e w'=>∃v I',e=.returned v∧Below w.heap.size w w'∧(∀b o,I b o→I' b o)∧(∀b o,I' b o→b<w'.heap.size)∧(∀b o,I' b o→¬I b o→w.heap.size≤b)∧gw w' I' c.R y v
theorem aG.LY{B:iP}{γ:Gh}{mem:Nat→Option aI}{w w':World}(h:aG B γ mem w)(hw:Below w.heap.size w w'){I':Nat→Nat→Prop}(hI:∀b o,γ.I b o→I' b o)(J6:∀b o,I' b o→b<w'.heap.size)
  (hnew:∀b o,I' b o→¬γ.I b o→w.heap.size≤b):aG B ⟨I',γ.loc⟩ mem w'∧Ext B γ mem w ⟨I',γ.loc⟩ mem w':=by
 have hx:Ext B γ mem w ⟨I',γ.loc⟩ mem w' :=
  { below:=.of ⟨hw.os,hw.tape,hw.output,hw.size,fun k hk=>hw.block k (qe hk h.base)⟩
    I:=hI
    kP:=fun b o x=>by
     by_cases hi:γ.I b o
     ·exact .inl hi
     ·exact .inr (.inl (gK h.base (hnew b o x hi)))
    cells:=fun b o hi=>cJ (hw.block b (h.kO b o hi))
    boxes:=fun b bx hb=>⟨bx,hb,dB _,fun _=>⟨rfl,rfl,rfl⟩⟩ }
 refine⟨?_,hx⟩;exact
  { bX:=h.qu hx
    base:=gK h.base hw.size
    boxes:=fun b bx hb=>(h.boxes b bx hb).keep hx rfl fun blk k hl=>hw.block blk (h.fresh b blk k (by rw[hb];simp) hl).2
    inj:=h.inj
    fresh:=fun b blk k hb hl=>by have:=h.fresh b blk k hb hl;exact⟨this.1,qe this.2 hw.size⟩
    kO:=J6
    sep:=fun b bx blk k off hb hl hi=>by
     by_cases HH:γ.I blk off
     ·exact h.sep b bx blk k off hb hl HH
     ·have h1:=hnew blk off hi HH;have h2:=(h.fresh b blk k (by rw[hb];simp) hl).2;omega }
theorem Ee{w:World}{γ γ':Gh}{mem mem':Nat→Option aI}(hI:∀b o,γ.I b o→γ'.I b o):∀{R:Ty} {y:R.den} {vs:List Value},aV γ mem w (nA R y) .many vs→aV γ' mem' w (nA R y) .many vs:=by
 intro R;induction R with
 | pair t r BH ihr =>
   intro y vs h;obtain⟨v,rest,h0,⟨cs,h1,h2⟩,h3⟩:=h;exact⟨v,rest,h0,⟨cs,aM.mono hI (fun _ _ _=>rfl) h1,h2⟩,ihr h3⟩
 | _=>intro y vs h;exact h
theorem qG(R:Ty)(y:R.den):(∃t,∃q:R=.pair t .unit,jX R y=.data t (show(Ty.pair t .unit).den from q▸y).1)∨jX R y=.kN (nA R y):=by
 cases R with
 | pair t r =>
   cases r with
   | unit=>exact .inl ⟨t,rfl,rfl⟩
   | _=>exact .inr rfl
 | _=>exact .inr rfl
theorem gw.rep{w:World}{I:Nat→Nat→Prop}{R:Ty}{y:R.den}{v:Value}(h:gw w I R y v){γ:Gh}{mem:Nat→Option aI}(hI:∀b o,I b o→γ.I b o):aV γ mem w (jX R y) .val [v]:=by
 unfold gw at h;rcases qG R y with ⟨t,q,hq⟩|hq
 ·rw[hq] at h⊢;obtain⟨cs,h1,h2⟩:=h;exact⟨cs,aM.mono hI (fun _ _ _=>rfl) h1,h2⟩
 ·rw[hq] at h⊢;obtain⟨arr,h1,h2⟩:=h;exact⟨arr,h1,Ee hI h2⟩
theorem vg{w w':World}{γ γ':Gh}{mem mem':Nat→Option aI}:∀{R:Ty} {y:R.den} {vs:List Value},R.flat=true→aV γ mem w (nA R y) .many vs→aV γ' mem' w' (nA R y) .many vs:=by
 intro R;induction R with
 | pair t r BH ihr =>
   intro y vs hf h;simp only[Ty.flat,bY] at hf;obtain⟨v,rest,h0,⟨cs,h1,h2⟩,h3⟩:=h;exact⟨v,rest,h0,⟨cs,aM.flat hf.1 h1,h2⟩,ihr hf.2 h3⟩
 | _=>intro y vs hf h;exact h
theorem gw.flat{w w':World}{I:Nat→Nat→Prop}{R:Ty}{y:R.den}{v:Value}(h:gw w I R y v){γ:Gh}{mem:Nat→Option aI}(hf:R.flat=true):aV γ mem w' (jX R y) .val [v]:=by
 unfold gw at h;rcases qG R y with ⟨t,q,hq⟩|hq
 ·rw[hq] at h⊢;subst q;simp only[Ty.flat,bY] at hf;obtain⟨cs,h1,h2⟩:=h;exact⟨cs,aM.flat hf.1 h1,h2⟩
 ·rw[hq] at h⊢;obtain⟨arr,h1,h2⟩:=h;exact⟨arr,h1,vg hf h2⟩
section
variable {P:Program} {B:iP} {N:Nat} {γ:Gh} {σ σ':St} {a:Act} {w w':World} {d:Option Nat} {cx:Ctx}
theorem nK.Ms{I I':Nat→Nat→Prop}{e:Ty}{l:List e.den}{v:Value}(h:nK w I e l v)(hI:∀b o,I b o→I' b o)(hc:∀blk off cap,v=.slice (some ⟨blk,off,none⟩) l.length cap→l≠[]→∀o,I' blk o) :
  aM w I' (.slice e) l [v]:=by
 rcases h with ⟨rfl,base,cap,r1,r2,r3⟩|⟨blk,off,cap,r1,r2,r3,r4⟩
 ·rcases r3 with rfl|⟨blk,off,rfl⟩
  ·exact .inl ⟨⟨base,by rw[r1]⟩,rfl⟩
  ·exact .inr ⟨blk,off,cap,by rw[r1];rfl,lO _,r2,fun i x hx=>by cases hx⟩
 ·refine .inr ⟨blk,off,cap,by rw[r1],r2,r3,fun i x hx=>?_⟩;obtain⟨es,g1,g2,g3⟩:=r4 i x hx;exact⟨es,g1,fun j c hj=>⟨g2 j c hj,hc blk off cap r1 (fun e=>by rw[e] at hx;cases hx) _⟩,aM.mono hI (fun _ _ _=>rfl) g3⟩
theorem yN(hm:aG B γ σ.mem w){e:Ty}{v:av}{l:List e.den}{blk off n cap:Nat}(hv:aV γ σ.mem w v .val [.slice (some ⟨blk,off,none⟩) n cap])(hl:cV e σ v=some l)(hne:l≠[]) :
  (∃q,v=.data (.slice e) q)∨(B.has blk∧blk<w.heap.size):=by
 rcases fP hl with rfl|⟨rfl,rfl⟩|⟨b,ag,bx,rfl,hb,aC,aJ,ga⟩|⟨b,ag,lo,n',bx,rfl,hb,aC,Bw⟩
 ·exact .inl ⟨_,rfl⟩
 ·exact absurd rfl hne
 ·obtain⟨e',k,g1,g2,g3⟩:=aD hb aC hv.2;rcases g3 with ⟨g3,g4⟩|⟨bQ,cap',g3,g4⟩
  ·exfalso;have ew:=hm.boxes b bx hb;rw[bn,aJ] at ew;obtain⟨e3,l3,q1,q2,q3⟩:=ew;rw[ga] at q1;cases q1;rcases q3 with ⟨_,q3⟩|⟨_,_,_,_,_,q3,_⟩
   ·exact hne q3
   ·rw[g3] at q3;cases q3
  ·have q1:blk=bQ:=by
    have:=sD g4;injection this with q1 _ _
    injection q1 with q1
    injection q1
   subst q1;exact .inr (hm.fresh b blk cap' (by rw[hb];simp) g3)
 ·obtain⟨e',k,g2,g3,g4,g5,base,cap',g6,g7,g8,gF,g9⟩:=aD hb aC hv.2;have Og:=sD g6;rcases g9 with g9|⟨bQ,c,g9,g10⟩
  ·exfalso;apply hne;rcases Bw with ⟨_,l0,_,rfl⟩|⟨_,k0,l0,_,rfl⟩<;>simp[sub,g9]
  ·injection Og with q1 _ _
   rw[g10] at q1;injection q1 with q1
   injection q1 with q1 _
   subst q1;exact .inr (hm.fresh b blk c (by rw[hb];simp) g9)
theorem pT(hm:aG B γ σ.mem w){I':Nat→Nat→Prop}(hI:∀b o,γ.I b o→I' b o)(E7:∀b o,B.has b→b<w.heap.size→I' b o):∀{v:av} {t:Ty} {x:t.den} {cs:List Value},
  aV γ σ.mem w v .cells cs→iF σ t v=some x→aM w I' t x cs:=by
 have sl:∀{v:av} {e:Ty} {l:List e.den} {cs:List Value},bA v=1→(∀c,aV γ σ.mem w v .cells [c]→aV γ σ.mem w v .val [c])→(∀t x,v≠.data t x)→aV γ σ.mem w v .cells cs→cV e σ v=some l→aM w I' (.slice e) l cs:=by
  intro v e l cs h1 hval hnd hc hl;obtain⟨c,rfl⟩:=sK hc h1;have hv:=hval c hc;refine(iR hm hv hl).Ms hI fun blk off cap e0 hne o=>?_;subst e0;rcases yN hm hv hl hne with ⟨q,hq⟩|⟨h2,h3⟩
  ·exact absurd hq (hnd _ _)
  ·exact E7 blk o h2 h3
 intro v;induction v with
 | data u y =>
   intro t x cs hc hl;have key:(∃q:u=t,x=q▸y):=by
    cases t with
    | slice e =>
      rcases fP (show cV e σ (.data u y)=some x from hl) with g|⟨g,_⟩|⟨_,_,_,g,_⟩|⟨_,_,_,_,_,g,_⟩
      ·injection g with g1 g2;subst g1;exact⟨rfl,(eq_of_heq g2).symm⟩
      ·cases g
      ·cases g
      ·cases g
    | _=>exact Ty.eY hl
   obtain⟨q,hq⟩:=key;subst q;subst hq;exact aM.mono hI (fun _ _ _=>rfl) hc
 | mix p q l8 lG =>
   intro t x cs hc hl;cases t with
   | pair s r =>
     obtain⟨c1,c2,rfl,h1,h2⟩:=hc;obtain⟨y,z,hp,hq,rfl⟩:=qC hl;exact⟨c1,c2,rfl,l8 h1 hp,lG h2 hq⟩
   | slice e=>exact absurd hl (by intro k;cases k)
   | _=>cases hl
 | gA =>
   intro t x cs hc hl;cases t with
   | slice e=>exact sl (v:=.gA) rfl (fun c k=>k) (fun _ _=>by simp) hc hl
   | _=>cases hl
 | whole b ag =>
   intro t x cs hc hl;cases t with
   | slice e=>exact sl (v:=.whole b ag) rfl (fun c k=>k) (fun _ _=>by simp) hc hl
   | _=>cases hl
 | part b ag lo n =>
   intro t x cs hc hl;cases t with
   | slice e=>exact sl (v:=.part b ag lo n) rfl (fun c k=>k) (fun _ _=>by simp) hc hl
   | _=>cases hl
 | jg =>
   intro t x cs hc hl;obtain rfl:cs=[.nilIface]:=hc;exact(gS hl).1 _ _
 | _ =>
   intro t x cs hc hl;cases t with
   | slice e=>exact absurd hl (by intro k;cases k)
   | _=>cases hl
theorem vh(hm:aG B γ σ.mem w){I':Nat→Nat→Prop}(hI:∀b o,γ.I b o→I' b o)(E7:∀b o,B.has b→b<w.heap.size→I' b o){v:av}{t:Ty}{x:t.den}{val:Value}
  (hv:aV γ σ.mem w v .val [val]) (hl:iF σ t v=some x):∃cs,aM w I' t x cs∧val=bk t cs:=by
 have one:∀{v:av},aV γ σ.mem w v .cells [val]→(∃e,t=.slice e)→iF σ t v=some x→∃cs,aM w I' t x cs∧val=bk t cs:=by
  intro v hc he hl;obtain⟨e,rfl⟩:=he;exact⟨[val],pT hm hI E7 hc hl,rfl⟩
 cases v with
 | data u y =>
   obtain⟨cs,h1,h2⟩:=b5.1 hv;have hc:=pT hm hI E7 (v:=.data u y) (cs:=cs) h1 hl;refine⟨cs,hc,?_⟩;rw[h2];have:u.isAgg=t.isAgg:=by
    cases t with
    | slice e =>
      rcases fP (show cV e σ (.data u y)=some x from hl) with g|⟨g,_⟩|⟨_,_,_,g,_⟩|⟨_,_,_,_,_,g,_⟩
      ·injection g with g1 g2;rw[g1]
      ·cases g
      ·cases g
      ·cases g
    | _=>obtain⟨q,_⟩:=Ty.eY hl;rw[q]
   unfold bk;rw[this]
 | mix p q =>
   obtain⟨c1,c2,e1,h1,h2⟩:=hv;obtain rfl:val=_:=by simpa using e1
   have hc:=pT hm hI E7 (v:=.mix p q) (cs:=c1++c2) ⟨c1,c2,rfl,h1,h2⟩ hl;refine⟨_,hc,?_⟩;cases t with
   | pair s r=>rfl
   | slice e=>exact absurd hl (by intro k;cases k)
   | _=>cases hl
 | gA=>cases t with
   | slice e=>exact one hv ⟨e,rfl⟩ hl
   | _=>cases hl
 | whole b ag=>cases t with
   | slice e=>exact one hv ⟨e,rfl⟩ hl
   | _=>cases hl
 | part b ag lo n=>cases t with
   | slice e=>exact one hv ⟨e,rfl⟩ hl
   | _=>cases hl
 | jg =>
   have hv:[val]=[Value.nilIface]:=hv;obtain rfl:val=.nilIface:=by simpa using hv
   exact⟨[.nilIface],(gS hl).1 _ _,(gS hl).2.2.1.symm⟩
 | _=>cases t with
   | slice e=>exact absurd hl (by intro k;cases k)
   | _=>cases hl
def gm(γ:Gh)(mem:Nat→Option aI)(w:World)(vs:List av)(xs:List Value):Prop:=xs.length=vs.length∧∀(i:Nat) v x,vs[i]?=some v→xs[i]?=some x→aV γ mem w v .val [x]
theorem gm.cons{mem:Nat→Option aI}{v:av}{vs:List av}{xs:List Value}(h:gm γ mem w (v::vs) xs):∃x r,xs=x::r∧aV γ mem w v .val [x]∧gm γ mem w vs r:=by
 cases xs with
 | nil=>cases h.1
 | cons x r=>exact⟨x,r,rfl,h.2 0 v x rfl rfl,by simpa using h.1,fun i v' x' h1 h2=>h.2 (i+1) v' x' h1 h2⟩
theorem gm.ext{mem mem':Nat→Option aI}{γ':Gh}{vs:List av}{xs:List Value}(h:gm γ mem w vs xs)(hx:Ext B γ mem w γ' mem' w'):gm γ' mem' w' vs xs:=⟨h.1,fun i v x h1 h2=>(h.2 i v x h1 h2).ext hx⟩
theorem wT(hm:aG B γ σ.mem w){I':Nat→Nat→Prop}(hI:∀b o,γ.I b o→I' b o)(E7:∀b o,B.has b→b<w.heap.size→I' b o):∀{A:Ty} {x:A.den} {vs:List av} {xs:List Value},
  gm γ σ.mem w vs xs→eI σ A vs=some x→dL w I' A x xs:=by
 intro A;induction A with
 | pair t r BH ihr =>
   intro x vs xs h hl;cases vs with
   | nil=>cases hl
   | cons v vs =>
     obtain⟨y,rest,rfl,h1,h2⟩:=h.cons;simp only[eI] at hl;split at hl
     ·rename_i p q hp hq;obtain rfl:=au hl;obtain⟨cs,c1,c2⟩:=vh hm hI E7 h1 hp;exact⟨cs,rest,by rw[c2],c1,ihr h2 hq⟩
     ·cases hl
 | unit =>
   intro x vs xs h hl;cases vs with
   | nil=>exact List.length_eq_zero_iff.1 h.1
   | cons v vs=>cases hl
 | _=>intro x vs xs h hl;cases vs<;>cases hl
theorem dL.mono{I I':Nat→Nat→Prop}(hI:∀b o,I b o→I' b o)(hw:∀b o,I b o→w'.cell? ⟨b,o,none⟩=w.cell? ⟨b,o,none⟩):∀{A:Ty} {x:A.den} {xs:List Value},dL w I A x xs→dL w' I' A x xs:=by
 intro A;induction A with
 | pair t r BH ihr=>intro x xs h;obtain⟨cs,rest,h0,h1,h2⟩:=h;exact⟨cs,rest,h0,aM.mono hI hw h1,ihr h2⟩
 | _=>intro x xs h;exact h
theorem ja:∀{A:Ty} {x:A.den} {vs:List av} {xs:List Value} {σ σ':St} {γ:Gh},bE B N γ σ a w→gm γ σ.mem w vs xs→eZ σ A vs=some (x,σ') →
  ∃γ',bE B N γ' σ' a w∧Ext B γ σ.mem w γ' σ'.mem w∧dL w γ'.I A x xs:=by
 intro A;induction A with
 | pair t r BH ihr =>
   intro x vs xs σ σ' γ h hv hl;cases vs with
   | nil=>cases hl
   | cons v vs =>
     obtain⟨y,rest,rfl,h1,h2⟩:=hv.cons;simp only[eZ] at hl;split at hl
     ·rename_i p σ1 hp;split at hl
      ·rename_i q σ2 hq;obtain⟨rfl,rfl⟩:=bM (au hl);obtain⟨dS,s1,s2,cs,c1,c2⟩:=fQ h h1 hp;obtain c2:y=_:=by simpa using c2
       obtain⟨oY,t1,t2,t3⟩:=ihr s1 (h2.ext s2) hq;exact⟨oY,t1,s2.trans t2,cs,rest,by rw[c2],aM.mono t2.I t2.cells c1,t3⟩
      ·cases hl
     ·cases hl
 | unit =>
   intro x vs xs σ σ' γ h hv hl;cases vs with
   | nil=>obtain⟨rfl,rfl⟩:=bM (au hl);exact⟨γ,h,Ext.refl _ _ _ _,List.length_eq_zero_iff.1 hv.1⟩
   | cons v vs=>cases hl
 | _=>intro x vs xs σ σ' γ h hv hl;cases vs<;>cases hl
def Ga(w:World)(I:Nat→Nat→Prop)(e:Ty)(bN:Nat)(l:List e.den)(L:Option (Nat×Nat))(v:Value):Prop :=
 0<e.size∧((L=none∧l=[]∧v=.slice none 0 0)∨∃blk cap cur tid fr,L=some (blk,cap)∧v=.slice (some ⟨blk,0,none⟩) l.length cap∧w.heap[blk]?=some (.cells cur tid fr)∧HG e cur fr∧(bN=0∨tid=bN) ∧
  l.length≤cap∧cap≤maxLen∧cur.size=cap*e.size∧(∀o,¬I blk o)∧∀(i:Nat) (x:e.den),l[i]?=some x→aM w I e x ((cur.toList.drop (i*e.size)).take e.size))
def kg(w:World)(I:Nat→Nat→Prop):(o:OT)→o.den→List Value→List Nat→List (Option (Nat×Nat))→Prop
 | .dat t,x,cs,bs,ls=>aM w I t x cs∧bs=[]∧ls=[]
 | .buf e bN,l,cs,bs,ls=>∃L v,cs=[v]∧bs=[]∧ls=[L]∧Ga w I e bN l L v
 | .ref tid o,u,cs,bs,ls=>∃blk r,cs=[.pointer (some ⟨blk,0,none⟩)]∧bs=blk::r∧(∀off,¬I blk off)∧∃cur t' fr,w.heap[blk]?=some (.cells cur t' fr)∧gu cur fr∧(tid=0∨t'=tid)∧kg w I o u cur.toList r ls
 | .pair p q,u,cs,bs,ls=>∃c1 c2 b1 b2 l1 l2,cs=c1++c2∧bs=b1++b2∧ls=l1++l2∧kg w I p u.1 c1 b1 l1∧kg w I q u.2 c2 b2 l2
 | .unit,_,cs,bs,ls=>cs=[]∧bs=[]∧ls=[]
def aY(bs:List Nat)(ls:List (Option (Nat×Nat))):List Nat:=bs++ls.filterMap fun L=>L.map (·.1)
def xS(w:World)(I:Nat→Nat→Prop):List Bool→(A:Ty)→(U:OT)→A.den→List Value→List Value→Prop
 | [],A,U,_,vs,cO=>A=.unit∧U=.unit∧vs=[]∧cO=[]
 | false::ps,A,U,x,vs,cO=>match A,x with
   | .pair t A,x=>∃cs rest,vs=bk t cs::rest∧aM w I t x.1 cs∧xS w I ps A U x.2 rest cO
   | _,_=>False
 | true::ps,A,U,x,vs,cO=>match U with
   | .pair (.ref _ _) U=>∃v rest r,vs=v::rest∧cO=v::r∧xS w I ps A U x rest r
   | _=>False
structure fR (P:Program) (G:eN) (f:Nat) (c:pJ):Prop where
 body:∃fn code,P.funcs[f]?=some fn∧(fn.name == "runtime.NumGoroutine")=false∧fn.body=some code
 calls:∀(I:Nat→Nat→Prop) (w:World) (args:Array Value) (cO:List Value) (bs:List Nat) (ls:List (Option (Nat×Nat))) (x:c.A.den) (u:c.U.den) (y:c.R.den×c.U.den),(∀b o,I b o→b<w.heap.size)→pN G w→(∀b Q,G b Q→b∉aY bs ls) →
  xS w I c.ps c.A c.U x args.toList cO→kg w I c.U u cO bs ls→(aY bs ls).Nodup→c.spec (x,u)=some y →
  Calls P f args w fun e w'=>∃v I' ls',e=.returned v∧jR ⟨w.heap.size,(·∈aY bs ls),G⟩ w w'∧(∀b o,I b o→I' b o)∧(∀b o,I' b o→b<w'.heap.size)∧(∀b o,I' b o→¬I b o→w.heap.size≤b∨b∈aY bs ls)∧gw w' I' c.R y.1 v ∧
   kg w' I' c.U y.2 cO bs ls'∧(aY bs ls').Nodup∧∀blk∈aY [] ls',blk∈aY bs ls∨w.heap.size≤blk
structure kQ (og:Option Nat) (w w':World):Prop where
 os:w'.os=w.os
 tape:w'.tape=w.tape
 output:w'.output=w.output
 size:w.heap.size≤w'.heap.size
 block:∀k,k<w.heap.size→og≠some k→w'.heap[k]?=w.heap[k]?
 cell:∀k o,k<w.heap.size→w'.cell? ⟨k,o,none⟩=w.cell? ⟨k,o,none⟩
def o5(w:World)(I:Nat→Nat→Prop)(e:Ty)(l:List e.den)(L:Option (Nat×Nat))(v:Value):Prop :=
 (L=none∧l=[]∧v=.slice none 0 0)∨∃blk cap cur tid fr,L=some (blk,cap)∧v=.slice (some ⟨blk,0,none⟩) l.length cap∧w.heap[blk]?=some (.cells cur tid fr)∧HG e cur fr ∧
  l.length≤cap∧cap≤maxLen∧cur.size=cap*e.size∧(∀o,¬I blk o)∧∀(i:Nat) (x:e.den),l[i]?=some x→aM w I e x ((cur.toList.drop (i*e.size)).take e.size)
structure B2 (w:World) (I:Nat→Nat→Prop) (X:Nat→Prop) (w':World) (I':Nat→Nat→Prop):Prop where
 below:jR ⟨w.heap.size,X,yA⟩ w w'
 held:∀b o,I b o→I' b o
 kO:∀b o,I' b o→b<w'.heap.size
 kP:∀b o,I' b o→¬I b o→w.heap.size≤b
def ng(P:Program)(f:Nat):EZ→Prop
 | .FK T=>(∃fn code,P.funcs[f]?=some fn∧(fn.name == "runtime.NumGoroutine")=false∧fn.body=some code) ∧
  ∀(w:World) (b:Nat) (p v:Value) (fr:Nat×Nat),w.heap[b]?=some (.cells #[p,v] T fr)→¬(fr.1≤0∧0<fr.2)→(p=.pointer none∨p=.pointer (some ⟨b,0,none⟩)) →
   Calls P f #[.pointer (some ⟨b,0,none⟩)] w fun e w'=>e=.returned (.tuple #[])∧(w'=w∨w'=w.setRow b #[.pointer (some ⟨b,0,none⟩),v])
 | .str T E=>(∃fn code,P.funcs[f]?=some fn∧(fn.name == "runtime.NumGoroutine")=false∧fn.body=some code) ∧
  ∀(w:World) (b:Nat) (p v:Value) (fr:Nat×Nat) (l:List UInt8) (og:Option Nat),w.heap[b]?=some (.cells #[p,v] T fr) →
   ((og=none∧v=.slice none 0 0∧l=[])∨∃(g cap:Nat) (cur:Array Value) (fr':Nat×Nat),og=some g∧v=.slice (some ⟨g,0,none⟩) l.length cap∧w.heap[g]?=some (.cells cur E fr')∧l.length≤cap∧cap≤maxLen∧cur.size=cap∧∀(j:Nat) (x:UInt8),l[j]?=some x→cur[j]?=some (Value.int .u8 x.toNat)) →
   Calls P f #[.pointer (some ⟨b,0,none⟩)] w fun e w'=>e=.returned (.string ⟨l.toArray⟩)∧kQ og w w'
 | .clone e=>(∃fn code,P.funcs[f]?=some fn∧(fn.name == "runtime.NumGoroutine")=false∧fn.body=some code) ∧
  ∀(I:Nat→Nat→Prop) (w:World) (args:Array Value) (l:List e.den),(∀b o,I b o→b<w.heap.size)→dL w I (.pair (.slice e) .unit) (l,()) args.toList→fits (len l)=true →
   Calls P f args w fun q w'=>∃v I' L,q=.returned v∧B2 w I (fun _=>False) w' I'∧o5 w' I' e l L v∧∀blk c,L=some (blk,c)→w.heap.size≤blk
 | .own e A res spec=>(∃fn code,P.funcs[f]?=some fn∧(fn.name == "runtime.NumGoroutine")=false∧fn.body=some code) ∧
  ∀(I:Nat→Nat→Prop) (w:World) (args:Array Value) (v:Value) (rest:List Value) (l l':List e.den) (L:Option (Nat×Nat)) (x:A.den),(∀b o,I b o→b<w.heap.size)→args.toList=v::rest→o5 w I e l L v→dL w I A x rest→spec l x=some l' →
   Calls P f args w fun q w'=>∃I',B2 w I (fun k=>∃c,L=some (k,c)) w' I' ∧
    match res with
    | true=>∃v' L',q=.returned v'∧o5 w' I' e l' L' v'∧∀blk c,L'=some (blk,c)→(∃c,L=some (blk,c))∨w.heap.size≤blk
    | false=>q=.returned (.tuple #[])∧l'.length=l.length∧o5 w' I' e l' L v
structure jD (P:Program) (G:eN) (cx:Ctx):Prop where
 gX:∀f c,find cx.gX f=some c→Holds P G f c
 cI:∀f c,find cx.cI f=some c→fR P G f c
 zY:∀f s,find cx.zY f=some s→ng P f s
 inv:∀name c,zZ cx.inv name=some c→vf P G name c
theorem qH{l:List Nat}{t:Nat}:bC l t=true↔t∈l:=by
 induction l with
 | nil=>simp[bC]
 | cons i r ih =>
   simp only[bC,uz,zU,ih];constructor
   ·rintro(h|h)
    ·exact .inl (cB h)
    ·exact .inr h
   ·rintro(h|h)
    ·subst h;exact .inl (by simp)
    ·exact .inr h
theorem rX{l:List Nat}:uG l=true↔l.Nodup:=by
 induction l with
 | nil=>simp[uG]
 | cons b r ih =>
   simp only[uG,bY,oh,DS,ih];constructor
   ·rintro⟨h,k⟩;exact⟨fun q=>(by rw[qH.2 q] at h;cases h),k⟩
   ·rintro⟨h,k⟩;refine⟨?_,k⟩;cases hq:bC r b with
    | false=>rfl
    | true=>exact absurd (qH.1 hq) h
theorem kg.len{w:World}{I:Nat→Nat→Prop}:∀{o:OT} {u:o.den} {cs:List Value} {bs:List Nat} {ls:List (Option (Nat×Nat))},kg w I o u cs bs ls→bs.length=o.nr∧ls.length=o.nb:=by
 intro o;induction o with
 | dat t=>intro u cs bs ls h;rw[h.2.1,h.2.2];exact⟨rfl,rfl⟩
 | buf e bN=>intro u cs bs ls h;obtain⟨L,v,_,rfl,rfl,_⟩:=h;exact⟨rfl,rfl⟩
 | ref tid o ih =>
   intro u cs bs ls h;obtain⟨blk,r,_,rfl,_,cur,t',fr,_,_,_,h1⟩:=h;have:=ih h1;exact⟨by simp[OT.nr,this.1],this.2⟩
 | pair p q l8 lG =>
   intro u cs bs ls h;obtain⟨c1,c2,b1,b2,l1,l2,_,rfl,rfl,h1,h2⟩:=h;have:=l8 h1;have:=lG h2;simp_all[OT.nr,OT.nb]
 | unit=>intro u cs bs ls h;rw[h.2.1,h.2.2];exact⟨rfl,rfl⟩
def sP(mem:Nat→Option aI):(o:OT)→o.den→List (Nat×Nat)→List (Nat×Nat)→Prop
 | .dat _,_,_,_=>True
 | .buf e bN,l,_,M=>∃b v r,M=(b,v)::r∧mem b=some { val:=.data (.slice e) l,tid:=bN,buf:=true,ro:=false,lk:=false,ag:=v }
 | .ref tid o,u,N,M=>∃b v r,N=(b,v)::r∧mem b=some { val:=uF o u r M,tid,buf:=false,ro:=false,lk:=false,ag:=v }∧sP mem o u r M
 | .pair p q,u,N,M=>sP mem p u.1 (N.take p.nr) (M.take p.nb)∧sP mem q u.2 (N.drop p.nr) (M.drop p.nb)
 | .unit,_,_,_=>True
theorem gN:∀{o:OT} {u:o.den} {N M:List (Nat×Nat)} {c:Nat} {bx:aI},dN o u N M c=some bx→c∈aF N M:=by
 intro o;induction o with
 | dat t=>intro u N M c bx h;cases h
 | buf e bN =>
   intro u N M c bx h;cases M with
   | nil=>cases h
   | cons p r =>
     unfold dN at h;cases hb:Nat.beq c p.1 with
     | true=>rw[cB hb];simp[aF]
     | false=>dsimp only at h;rw[hb] at h;cases h
 | ref tid o ih =>
   intro u N M c bx h;cases N with
   | nil=>cases h
   | cons p r =>
     unfold dN at h;cases hb:Nat.beq c p.1 with
     | true=>rw[cB hb];simp[aF]
     | false =>
       dsimp only at h;rw[hb] at h;have:=ih h;unfold aF at this⊢;simp only[jH,zP,zU];exact .inr this
 | pair p q l8 lG =>
   intro u N M c bx h;unfold dN at h;have hs:∀{n m:Nat},(c∈aF (N.take n) (M.take m)→c∈aF N M)∧(c∈aF (N.drop n) (M.drop m)→c∈aF N M):=by
    intro n m;unfold aF;simp only[zS,List.mem_map];constructor
    ·rintro(⟨a,ha,rfl⟩|⟨a,ha,rfl⟩)
     ·exact .inl ⟨a,List.mem_of_mem_take ha,rfl⟩
     ·exact .inr ⟨a,List.mem_of_mem_take ha,rfl⟩
    ·rintro(⟨a,ha,rfl⟩|⟨a,ha,rfl⟩)
     ·exact .inl ⟨a,List.mem_of_mem_drop ha,rfl⟩
     ·exact .inr ⟨a,List.mem_of_mem_drop ha,rfl⟩
   split at h
   ·rename_i x hx;exact hs.1 (l8 hx)
   ·exact hs.2 (lG h)
 | unit=>intro u N M c bx h;cases h
theorem Ef{mem:Nat→Option aI}{t:Ty}{v:av}{x:t.den}{val:Value}(hv:aV γ mem w v .val [val])(h:DY t v=some x):∃cs,aM w γ.I t x cs∧val=bk t cs:=by
 unfold DY at h;split at h
 ·rename_i u y;obtain⟨q,hq⟩:=Ty.eY h;subst q;subst hq;exact b5.1 hv
 ·split at h
  ·rename_i e;obtain rfl:=au h;obtain rfl:val=_:=by simpa [aV] using hv
   exact⟨[.slice none 0 0],.inl ⟨⟨none,rfl⟩,rfl⟩,rfl⟩
  ·cases h
 ·cases h
theorem As{t:Ty}{v:av}{x:t.den}(h:toS t v=some x):v=.data t x:=by
 unfold toS at h;split at h
 ·obtain⟨q,hq⟩:=Ty.eY h;subst q;subst hq;rfl
 ·cases h
theorem At{mem:Nat→Option aI}:∀{o:OT} {u:o.den} {N M:List (Nat×Nat)},N.length=o.nr→M.length=o.nb→(aF N M).Nodup→(∀c bx,dN o u N M c=some bx→mem c=some bx)→sP mem o u N M:=by
 intro o;induction o with
 | dat t=>intro u N M _ _ _ _;trivial
 | buf e bN =>
   intro u N M _ hM _ h;cases M with
   | nil=>cases hM
   | cons p r=>exact⟨p.1,p.2,r,rfl,h p.1 _ (by unfold dN;dsimp only;rw[yl];rfl)⟩
 | ref tid o ih =>
   intro u N M hN hM hd h;cases N with
   | nil=>cases hN
   | cons p r =>
     refine⟨p.1,p.2,r,rfl,h p.1 _ (by unfold dN;dsimp only;rw[yl];rfl),ih (by simpa [OT.nr] using hN) hM ?_ fun c bx hc=>?_⟩
     ·unfold aF at hd⊢;simp only[jH,zP,DS] at hd;exact hd.2
     ·refine h c bx ?_;have hne:Nat.beq c p.1=false:=by
       cases hq:Nat.beq c p.1 with
       | false=>rfl
       | true =>
         have hm:=gN hc;rw[cB hq] at hm;unfold aF at hd hm;simp only[jH,zP,DS] at hd;exact absurd hm hd.1
      unfold dN;dsimp only;rw[hne];exact hc
 | pair p q l8 lG =>
   intro u N M hN hM hd h;have e1:N.take p.nr++N.drop p.nr=N:=wE ..;have e2:M.take p.nb++M.drop p.nb=M:=wE ..;simp only[OT.nr,OT.nb] at hN hM;have hd':((N.take p.nr).map (·.1)++(N.drop p.nr).map (·.1)++((M.take p.nb).map (·.1)++(M.drop p.nb).map (·.1))).Nodup:=by
    rw[←qg,←qg,e1,e2];exact hd
   have d1:(aF (N.take p.nr) (M.take p.nb)).Nodup:=by
    unfold aF;refine hd'.sublist ?_;exact List.Sublist.append (Jl _ _) (Jl _ _)
   have d2:(aF (N.drop p.nr) (M.drop p.nb)).Nodup:=by
    unfold aF;refine hd'.sublist ?_;exact List.Sublist.append (Jk _ _) (Jk _ _)
   have Mt:∀c,c∈aF (N.take p.nr) (M.take p.nb)→c∉aF (N.drop p.nr) (M.drop p.nb):=by
    intro c h1 h2;unfold aF at h1 h2;rw[List.nodup_append] at hd';obtain⟨x1,x2,x3⟩:=hd';rw[List.nodup_append] at x1 x2;rcases List.mem_append.1 h1 with a|a<;>rcases List.mem_append.1 h2 with b|b
    ·exact x1.2.2 c a c b rfl
    ·exact x3 c (rB _ a) c (qc _ b) rfl
    ·exact x3 c (qc _ b) c (rB _ a) rfl
    ·exact x2.2.2 c a c b rfl
   refine⟨l8 (by rw[gb];omega) (by rw[gb];omega) d1 fun c bx hc=>h c bx ?_,lG (by rw[kL];omega) (by rw[kL];omega) d2 fun c bx hc=>h c bx ?_⟩
   ·show(match dN p u.1 (N.take p.nr) (M.take p.nb) c with|some x=>some x|none=>_)=some bx
    rw[hc]
   ·show(match dN p u.1 (N.take p.nr) (M.take p.nb) c with|some x=>some x|none=>dN q u.2 (N.drop p.nr) (M.drop p.nb) c)=some bx
    cases hq:dN p u.1 (N.take p.nr) (M.take p.nb) c with
    | none=>exact hc
    | some x=>exact absurd (gN hc) (Mt c (gN hq))
 | unit=>intro u N M _ _ _ _;trivial
def dP(γ:Gh)(N:List (Nat×Nat))(bs:List Nat):Prop:=N.map (fun p=>(γ.loc p.1).map (·.1))=bs.map some
def ig(γ:Gh)(M:List (Nat×Nat))(ls:List (Option (Nat×Nat))):Prop:=M.map (fun p=>γ.loc p.1)=ls
theorem dP.split{N:List (Nat×Nat)}{b1 b2:List Nat}{n:Nat}(h:dP γ N (b1++b2))(hn:b1.length=n):dP γ (N.take n) b1∧dP γ (N.drop n) b2:=by
 unfold dP at h⊢;rw[FE,List.map_drop,h,qg,Fk (by simp[hn]),DR (by simp[hn])];exact⟨rfl,rfl⟩
theorem ig.split{M:List (Nat×Nat)}{l1 l2:List (Option (Nat×Nat))}{n:Nat}(h:ig γ M (l1++l2))(hn:l1.length=n):ig γ (M.take n) l1∧ig γ (M.drop n) l2:=by
 unfold ig at h⊢;rw[FE,List.map_drop,h,Fk hn,DR hn];exact⟨rfl,rfl⟩
theorem Ga.rep{mem:Nat→Option aI}{e:Ty}{bN:Nat}{l:List e.den}{L:Option (Nat×Nat)}{v:Value}{b ag:Nat}{bx:aI}(h:Ga w γ.I e bN l L v)
  (oR:γ.loc b=L) (hb:mem b=some bx) (aC:bx.ag=ag) (aJ:bx.buf=true) (hval:bx.val=.data (.slice e) l):aV γ mem w (.whole b ag) .cells [v]:=by
 rcases h.2 with ⟨q1,q2,q3⟩|⟨bQ,cap,cur,tid,fr,q1,q2,q3,q4,q5,q6,q7,q8,q9⟩
 ·exact⟨⟨v,rfl,by rw[q3];rfl⟩,cl hb aC ⟨e,l.length,aJ,aI.bD aJ hval,.inl ⟨by rw[←q1];exact oR,by rw[q3]⟩⟩⟩
 ·exact⟨⟨v,rfl,by rw[q2];rfl⟩,cl hb aC ⟨e,l.length,aJ,aI.bD aJ hval,.inr ⟨bQ,cap,by rw[←q1];exact oR,by rw[q2]⟩⟩⟩
theorem Dt{mem:Nat→Option aI}:∀{o:OT} {u:o.den} {cs:List Value} {bs:List Nat} {ls:List (Option (Nat×Nat))} {N M:List (Nat×Nat)},kg w γ.I o u cs bs ls→dP γ N bs→ig γ M ls→sP mem o u N M →
  aV γ mem w (uF o u N M) .cells cs:=by
 intro o;induction o with
 | dat t=>intro u cs bs ls N M h _ _ _;exact h.1
 | buf e bN =>
   intro u cs bs ls N M h hN hM hm;obtain⟨L,v,rfl,rfl,rfl,h1⟩:=h;obtain⟨b,vr,r,rfl,hb⟩:=hm;unfold ig at hM;simp only[jH,DQ] at hM;exact h1.rep hM.1 hb rfl rfl rfl
 | ref tid o ih =>
   intro u cs bs ls N M h hN hM hm;obtain⟨blk,r,rfl,rfl,_,cur,t',fr,_,_,_,h1⟩:=h;obtain⟨b,vr,r',rfl,hb,_⟩:=hm;unfold dP at hN;simp only[jH,DQ] at hN;obtain⟨q,hq,he⟩:=Option.map_eq_some_iff.1 hN.1;refine⟨⟨_,rfl,rfl⟩,cl hb rfl ⟨blk,q.2,?_,rfl⟩⟩;rw[hq,←he]
 | pair p q l8 lG =>
   intro u cs bs ls N M h hN hM hm;obtain⟨c1,c2,b1,b2,l1,l2,rfl,rfl,rfl,h1,h2⟩:=h;obtain⟨n1,n2⟩:=hN.split h1.len.1;obtain⟨m1,m2⟩:=hM.split h1.len.2;exact⟨c1,c2,rfl,l8 h1 n1 m1 hm.1,lG h2 n2 m2 hm.2⟩
 | unit=>intro u cs bs ls N M h _ _ _;rw[h.1];exact rfl
theorem xT{mem:Nat→Option aI}:∀{o:OT} {u:o.den} {cs:List Value} {bs:List Nat} {ls:List (Option (Nat×Nat))} {N M:List (Nat×Nat)},kg w γ.I o u cs bs ls→dP γ N bs→ig γ M ls→sP mem o u N M →
  ∀{c:Nat} {bx:aI},dN o u N M c=some bx→bn γ mem w c bx∧bx.ro=false∧∀blk k,γ.loc c=some (blk,k)→blk∈aY bs ls∧(∃x,w.heap[blk]?=some x)∧∀o,¬γ.I blk o:=by
 intro o;induction o with
 | dat t=>intro u cs bs ls N M _ _ _ _ c bx h;cases h
 | buf e bN =>
   intro u cs bs ls N M h hN hM hm c bx hc;obtain⟨L,v,rfl,rfl,rfl,h1⟩:=h;obtain⟨b,vr,r,rfl,hb⟩:=hm;unfold ig at hM;simp only[jH,DQ] at hM;unfold dN at hc;dsimp only at hc;cases hq:Nat.beq c b with
   | false=>rw[hq] at hc;cases hc
   | true =>
     rw[hq] at hc;obtain rfl:=cB hq;obtain rfl:=au hc;refine⟨?_,rfl,fun blk k hl=>?_⟩
     ·unfold bn;refine⟨e,u,rfl,h1.1,?_⟩;rcases h1.2 with ⟨q1,q2,q3⟩|⟨bQ,cap,cur,tid,fr,q1,q2,q3,q4,q5,q6,q7,q8,q9,JF⟩
      ·exact .inl ⟨by rw[hM.1];exact q1,q2⟩
      ·exact .inr ⟨bQ,cap,cur,tid,fr,by rw[hM.1];exact q1,q3,q4,q5,q6,q7,q8,JF⟩
     ·rcases h1.2 with ⟨q1,q2,q3⟩|⟨bQ,cap,cur,tid,fr,q1,q2,q3,q4,q5,q6,q7,q8,q9,JF⟩
      ·rw[hM.1,q1] at hl;cases hl
      ·rw[hM.1,q1] at hl;obtain⟨rfl,rfl⟩:=bM (au hl);exact⟨by simp[aY,q1],⟨_,q3⟩,q9⟩
 | ref tid o ih =>
   intro u cs bs ls N M h hN hM hm c bx hc;obtain⟨blk,r,rfl,rfl,hfree,cur,t',fr,k1,k2,k3,h1⟩:=h;obtain⟨b,vr,r',rfl,hb,hm'⟩:=hm;unfold dP at hN;simp only[jH,DQ] at hN;obtain⟨q,hq,he⟩:=Option.map_eq_some_iff.1 hN.1;have Ij:γ.loc b=some (blk,q.2):=by rw[hq,←he]
   unfold dN at hc;dsimp only at hc;cases hcb:Nat.beq c b with
   | false =>
     rw[hcb] at hc;obtain⟨g1,g2,g3⟩:=ih h1 hN.2 hM hm' hc;refine⟨g1,g2,fun bQ k hl=>?_⟩;obtain⟨j1,j2⟩:=g3 bQ k hl;refine⟨?_,j2⟩;unfold aY at j1⊢;exact jT _ j1
   | true =>
     rw[hcb] at hc;obtain rfl:=cB hcb;obtain rfl:=au hc;refine⟨?_,rfl,fun bQ k hl=>?_⟩
     ·unfold bn;exact⟨blk,q.2,cur,t',fr,Ij,k1,k2,k3,Dt h1 hN.2 hM hm'⟩
     ·rw[Ij] at hl;obtain⟨rfl,rfl⟩:=bM (au hl);exact⟨by simp[aY],⟨_,k1⟩,hfree⟩
 | pair p q l8 lG =>
   intro u cs bs ls N M h hN hM hm c bx hc;obtain⟨c1,c2,b1,b2,l1,l2,rfl,rfl,rfl,h1,h2⟩:=h;obtain⟨n1,n2⟩:=hN.split h1.len.1;obtain⟨m1,m2⟩:=hM.split h1.len.2;have hin:∀{blk},(blk∈aY b1 l1∨blk∈aY b2 l2)→blk∈aY (b1++b2) (l1++l2):=by
    intro blk;unfold aY;simp only[Jr,zS];rintro((a|a)|(a|a))
    ·exact .inl (.inl a)
    ·exact .inr (.inl a)
    ·exact .inl (.inr a)
    ·exact .inr (.inr a)
   unfold dN at hc;split at hc
   ·rename_i x hx;obtain rfl:=au hc;obtain⟨g1,g2,g3⟩:=l8 h1 n1 m1 hm.1 hx;exact⟨g1,g2,fun blk k hl=>⟨hin (.inl (g3 blk k hl).1),(g3 blk k hl).2⟩⟩
   ·obtain⟨g1,g2,g3⟩:=lG h2 n2 m2 hm.2 hc;exact⟨g1,g2,fun blk k hl=>⟨hin (.inr (g3 blk k hl).1),(g3 blk k hl).2⟩⟩
 | unit=>intro u cs bs ls N M _ _ _ _ c bx h;cases h
def Handed(mem:Nat→Option aI)(p:Nat×Nat):Prop:=∃bx,mem p.1=some bx∧bx.ag=p.2∧bx.lk=false∧bx.ro=false
theorem yO{mem:Nat→Option aI}(hm:aG B γ mem w){b blk k:Nat}{bx:aI}(hb:mem b=some bx)(hro:bx.ro=false)(hl:γ.loc b=some (blk,k))(o:Nat):¬γ.I blk o:=fun hi=>by
 have:=(hm.sep b bx blk k o hb hl hi).1;rw[hro] at this;cases this
theorem xU{mem:Nat→Option aI}(hm:aG B γ mem w):∀{o:OT} {v:av} {cs:List Value} {u:o.den} {N M:List (Nat×Nat)},aV γ mem w v .cells cs→bJ mem o v=some (u,N,M) →
  ∃bs,dP γ N bs∧kg w γ.I o u cs bs (M.map fun p=>γ.loc p.1)∧∀p∈N++M,Handed mem p:=by
 intro o;induction o with
 | dat t =>
   intro v cs u N M hv h;unfold bJ at h;split at h
   ·rename_i x hx;obtain⟨rfl,q⟩:=bM (au h);obtain⟨rfl,rfl⟩:=bM q;rw[As hx] at hv;exact⟨[],rfl,⟨hv,rfl,rfl⟩,fun p hp=>by cases hp⟩
   ·cases h
 | buf e bN =>
   intro v cs u N M hv h;unfold bJ at h;split at h
   case h_2=>cases h
   rename_i b ag;split at h
   case h_2=>cases h
   rename_i bx hb;cases hcd:(Nat.beq bx.ag ag&&bx.buf&&!bx.lk&&!bx.ro&&Nat.beq bx.tid bN&&Nat.blt 0 e.size) with
   | false=>rw[hcd] at h;cases h
   | true =>
     rw[hcd] at h;simp only[bY,oh] at hcd;obtain⟨⟨⟨⟨⟨aC,aJ⟩,hlk⟩,hro⟩,cQ⟩,hsz⟩:=hcd;have aC:=cB aC;have cQ:=cB cQ;have hsz:0<e.size:=by simpa using hsz
     simp only[bZ] at h;split at h
     case h_2=>cases h
     rename_i t l0 hval;split at h
     case h_2=>cases h
     rename_i l hl;obtain⟨rfl,q⟩:=bM (au h);obtain⟨rfl,rfl⟩:=bM q;obtain⟨rfl,rfl⟩:=eK hl;obtain⟨v,rfl⟩:∃v,cs=[v]:=by obtain⟨⟨v,e,_⟩,_⟩:=hv;exact⟨v,e⟩
     obtain⟨e',n,k1,k2,k3⟩:=aD hb aC hv.2;rw[aI.bD aJ hval] at k2;obtain⟨rfl,rfl⟩:=bM (au k2);have ew:=hm.boxes b bx hb;unfold bn at ew;rw[aJ] at ew;obtain⟨t2,l2,a1,a2,a3⟩:=ew;rw[hval] at a1;injection a1 with a1 a4
     injection a1 with a1
     subst a1;obtain rfl:=eq_of_heq a4;refine⟨[],rfl,⟨γ.loc b,v,rfl,rfl,rfl,hsz,?_⟩,fun p hp=>?_⟩
     ·rcases k3 with ⟨k3,k4⟩|⟨blk,cap,k3,k4⟩
      ·rcases a3 with ⟨a3,a5⟩|⟨blk,cap,cur,tid,fr,a3,_⟩
       ·exact .inl ⟨a3,a5,sD k4⟩
       ·rw[k3] at a3;cases a3
      ·rcases a3 with ⟨a3,a5⟩|⟨bQ,cap',cur,tid,fr,a3,a5,a6,a7,a8,a9,Oh,Oi⟩
       ·rw[k3] at a3;cases a3
       ·rw[k3] at a3;obtain⟨rfl,rfl⟩:=bM (au a3);exact .inr ⟨blk,cap,cur,tid,fr,k3,sD k4,a5,a6,by rw[←cQ];exact a7,a8,a9,Oh,fun o=>yO hm hb hro k3 o,Oi⟩
     ·simp only[zR,List.mem_singleton] at hp;subst hp;exact⟨bx,hb,aC,hlk,hro⟩
 | ref tid o ih =>
   intro v cs u N M hv h;unfold bJ at h;split at h
   case h_2=>cases h
   rename_i b ag;split at h
   case h_2=>cases h
   rename_i bx hb;cases hcd:(Nat.beq bx.ag ag&&!bx.buf&&!bx.lk&&!bx.ro&&Nat.beq bx.tid tid) with
   | false=>rw[hcd] at h;cases h
   | true =>
     rw[hcd] at h;simp only[bY,oh] at hcd;obtain⟨⟨⟨⟨aC,aJ⟩,hlk⟩,hro⟩,cQ⟩:=hcd;have aC:=cB aC;have cQ:=cB cQ;simp only[bZ] at h;split at h
     case h_2=>cases h
     rename_i u1 N1 M1 hr;obtain⟨rfl,q⟩:=bM (au h);obtain⟨rfl,rfl⟩:=bM q;obtain⟨blk,k,j1,j2⟩:=aD hb aC hv.2;simp only[bt] at j2;have ew:=hm.boxes b bx hb;unfold bn at ew;rw[aJ] at ew;obtain⟨bQ,cap,cur,t',fr,a1,a2,a3,a4,a5⟩:=ew;rw[j1] at a1;obtain⟨rfl,rfl⟩:=bM (au a1);obtain⟨bs,g1,g2,g3⟩:=ih a5 hr;refine⟨blk::bs,?_,⟨blk,bs,j2,rfl,fun o=>yO hm hb hro j1 o,cur,t',fr,a2,a3,by rw[←cQ];exact a4,g2⟩,fun p hp=>?_⟩
     ·unfold dP at g1⊢;simp only[jH,g1,j1];rfl
     ·rcases List.mem_cons.1 (by simpa using hp:p∈(b,ag)::(N1++M1)) with rfl|hp
      ·exact⟨bx,hb,aC,hlk,hro⟩
      ·exact g3 p hp
 | pair p q l8 lG =>
   intro v cs u N M hv h;unfold bJ at h;split at h
   case h_2=>cases h
   rename_i a b;split at h
   case h_2=>cases h
   rename_i x N1 M1 y N2 M2 h1 h2;obtain⟨rfl,z⟩:=bM (au h);obtain⟨rfl,rfl⟩:=bM z;obtain⟨c1,c2,rfl,v1,v2⟩:=hv;obtain⟨b1,g1,g2,g3⟩:=l8 v1 h1;obtain⟨b2,k1,k2,k3⟩:=lG v2 h2;refine⟨b1++b2,?_,⟨c1,c2,b1,b2,M1.map fun p=>γ.loc p.1,M2.map fun p=>γ.loc p.1,rfl,rfl,by rw[qg],g2,k2⟩,fun r hr=>?_⟩
   ·unfold dP at g1 k1⊢;rw[qg,qg,g1,k1]
   ·simp only[zS] at hr;rcases hr with (hr|hr)|(hr|hr)
    ·exact g3 r (rB _ hr)
    ·exact k3 r (rB _ hr)
    ·exact g3 r (qc _ hr)
    ·exact k3 r (qc _ hr)
 | unit =>
   intro v cs u N M hv h;unfold bJ at h;split at h
   case h_2=>cases h
   obtain⟨rfl,z⟩:=bM (au h);obtain⟨rfl,rfl⟩:=bM z;exact⟨[],rfl,⟨hv,rfl,rfl⟩,fun p hp=>by cases hp⟩
theorem rY{mem:Nat→Option aI}:∀{o:OT} {v:av} {u:o.den} {N M:List (Nat×Nat)},bJ mem o v=some (u,N,M)→N.length=o.nr∧M.length=o.nb:=by
 intro o;induction o with
 | dat t =>
   intro v u N M h;unfold bJ at h;split at h
   ·obtain⟨_,q⟩:=bM (au h);obtain⟨rfl,rfl⟩:=bM q;exact⟨rfl,rfl⟩
   ·cases h
 | buf e bN =>
   intro v u N M h;unfold bJ at h;split at h
   case h_2=>cases h
   split at h
   case h_2=>cases h
   rename_i bx hb;cases hcd:(Nat.beq bx.ag _&&bx.buf&&!bx.lk&&!bx.ro&&Nat.beq bx.tid bN&&Nat.blt 0 e.size) with
   | false=>rw[hcd] at h;cases h
   | true =>
     rw[hcd] at h;simp only[bZ] at h;split at h
     case h_2=>cases h
     split at h
     case h_2=>cases h
     obtain⟨_,q⟩:=bM (au h);obtain⟨rfl,rfl⟩:=bM q;exact⟨rfl,rfl⟩
 | ref tid o ih =>
   intro v u N M h;unfold bJ at h;split at h
   case h_2=>cases h
   split at h
   case h_2=>cases h
   rename_i bx hb;cases hcd:(Nat.beq bx.ag _&&!bx.buf&&!bx.lk&&!bx.ro&&Nat.beq bx.tid tid) with
   | false=>rw[hcd] at h;cases h
   | true =>
     rw[hcd] at h;simp only[bZ] at h;split at h
     case h_2=>cases h
     rename_i u1 N1 M1 hr;obtain⟨_,q⟩:=bM (au h);obtain⟨rfl,rfl⟩:=bM q;have:=ih hr;exact⟨by simp[OT.nr,this.1],this.2⟩
 | pair p q l8 lG =>
   intro v u N M h;unfold bJ at h;split at h
   case h_2=>cases h
   split at h
   case h_2=>cases h
   rename_i x N1 M1 y N2 M2 h1 h2;obtain⟨_,z⟩:=bM (au h);obtain⟨rfl,rfl⟩:=bM z;have a:=l8 h1;have b:=lG h2;simp[OT.nr,OT.nb,a.1,a.2,b.1,b.2]
 | unit =>
   intro v u N M h;unfold bJ at h;split at h
   case h_2=>cases h
   obtain⟨_,z⟩:=bM (au h);obtain⟨rfl,rfl⟩:=bM z;exact⟨rfl,rfl⟩
def av.J7:av→Option (Ty×Nat)
 | .data (.arr n e) _=>some (e,n)
 | _=>none
theorem Gb{bx:aI}(h:bx.buf=false):bx.row=bx.val.J7:=by
 unfold aI.row;rw[h];cases hv:bx.val with
 | data t x=>cases t<;>rfl
 | _=>rfl
theorem B3{mem:Nat→Option aI}{o:OT}{v:av}{u y:o.den}{N M N' M':List (Nat×Nat)}(h:bJ mem o v=some (u,N,M)):(uF o y N' M').J7=v.J7:=by
 unfold bJ at h;cases o with
 | dat t =>
   dsimp only at h;split at h
   ·rename_i x hx;rw[As hx];cases t<;>rfl
   ·cases h
 | buf e bN =>
   dsimp only at h;split at h
   case h_2=>cases h
   cases M'<;>rfl
 | ref tid o =>
   dsimp only at h;split at h
   case h_2=>cases h
   cases N'<;>rfl
 | pair p q =>
   dsimp only at h;split at h
   case h_2=>cases h
   rfl
 | unit =>
   dsimp only at h;split at h
   case h_2=>cases h
   rfl
theorem xV{mem:Nat→Option aI}:∀{o:OT} {v:av} {u y:o.den} {N M:List (Nat×Nat)} {c:Nat} {bx:aI},bJ mem o v=some (u,N,M)→dN o y N (M.map fun p=>(p.1,p.2+1)) c=some bx →
  (∃cx,(c,cx.ag)∈N∧mem c=some cx∧bx.ag=cx.ag∧bx.buf=cx.buf∧bx.row=cx.row)∨∃cx,(c,cx.ag)∈M∧mem c=some cx∧bx.ag=cx.ag+1:=by
 intro o;induction o with
 | dat t=>intro v u y N M c bx _ h;cases h
 | buf e bN =>
   intro v u y N M c bx h hc;unfold bJ at h;split at h
   case h_2=>cases h
   rename_i b ag;split at h
   case h_2=>cases h
   rename_i b0 hb;cases hcd:(Nat.beq b0.ag ag&&b0.buf&&!b0.lk&&!b0.ro&&Nat.beq b0.tid bN&&Nat.blt 0 e.size) with
   | false=>rw[hcd] at h;cases h
   | true =>
     rw[hcd] at h;simp only[bY] at hcd;have aC:=cB hcd.1.1.1.1.1;simp only[bZ] at h;split at h
     case h_2=>cases h
     split at h
     case h_2=>cases h
     obtain⟨_,q⟩:=bM (au h);obtain⟨rfl,rfl⟩:=bM q;unfold dN at hc;simp only[jH,List.map_nil] at hc;cases hq:Nat.beq c b with
     | false=>rw[hq] at hc;cases hc
     | true =>
       rw[hq] at hc;obtain rfl:=cB hq;obtain rfl:=au hc;exact .inr ⟨b0,by rw[aC];simp,hb,by rw[aC]⟩
 | ref tid o ih =>
   intro v u y N M c bx h hc;unfold bJ at h;split at h
   case h_2=>cases h
   rename_i b ag;split at h
   case h_2=>cases h
   rename_i b0 hb;cases hcd:(Nat.beq b0.ag ag&&!b0.buf&&!b0.lk&&!b0.ro&&Nat.beq b0.tid tid) with
   | false=>rw[hcd] at h;cases h
   | true =>
     rw[hcd] at h;simp only[bY,oh] at hcd;have aC:=cB hcd.1.1.1.1;simp only[bZ] at h;split at h
     case h_2=>cases h
     rename_i u1 N1 M1 hr;obtain⟨_,q⟩:=bM (au h);obtain⟨rfl,rfl⟩:=bM q;unfold dN at hc;dsimp only at hc;cases hq:Nat.beq c b with
     | false =>
       rw[hq] at hc;rcases ih hr hc with ⟨cx,g1,g2⟩|g
       ·exact .inl ⟨cx,jT _ g1,g2⟩
       ·exact .inr g
     | true =>
       rw[hq] at hc;obtain rfl:=cB hq;obtain rfl:=au hc;refine .inl ⟨b0,by rw[aC];simp,hb,aC.symm,hcd.1.1.1.2.symm,?_⟩;rw[Gb hcd.1.1.1.2,Gb rfl];exact B3 hr
 | pair p q l8 lG =>
   intro v u y N M c bx h hc;unfold bJ at h;split at h
   case h_2=>cases h
   split at h
   case h_2=>cases h
   rename_i x N1 M1 y1 N2 M2 h1 h2;obtain⟨_,z⟩:=bM (au h);obtain⟨rfl,rfl⟩:=bM z;have a:=rY h1;unfold dN at hc;rw[qg,Fk a.1,DR a.1,Fk (by simp[a.2]),DR (by simp[a.2])] at hc;split at hc
   ·rename_i x hx;obtain rfl:=au hc;rcases l8 h1 hx with ⟨cx,g1,g2⟩|⟨cx,g1,g2⟩
    ·exact .inl ⟨cx,rB _ g1,g2⟩
    ·exact .inr ⟨cx,rB _ g1,g2⟩
   ·rcases lG h2 hc with ⟨cx,g1,g2⟩|⟨cx,g1,g2⟩
    ·exact .inl ⟨cx,qc _ g1,g2⟩
    ·exact .inr ⟨cx,qc _ g1,g2⟩
 | unit=>intro v u y N M c bx _ h;cases h
theorem rZ:∀{o:OT} {u:o.den} {N M:List (Nat×Nat)} {c:Nat},N.length=o.nr→M.length=o.nb→c∈aF N M→∃bx,dN o u N M c=some bx:=by
 intro o;induction o with
 | dat t =>
   intro u N M c hN hM hc;rw[List.length_eq_zero_iff.1 hN,List.length_eq_zero_iff.1 hM] at hc;cases hc
 | buf e bN =>
   intro u N M c hN hM hc;rw[List.length_eq_zero_iff.1 hN] at hc
   match M,hM,hc with
   | [p],_,hc =>
     have:c=p.1:=by simpa [aF] using hc
     subst this;exact⟨_,by unfold dN;dsimp only;rw[yl];rfl⟩
 | ref tid o ih =>
   intro u N M c hN hM hc;cases N with
   | nil=>cases hN
   | cons p r =>
     unfold dN;dsimp only;cases hq:Nat.beq c p.1 with
     | true=>exact⟨_,rfl⟩
     | false =>
       refine ih (by simpa [OT.nr] using hN) hM ?_;unfold aF at hc⊢;simp only[jH,zP,zU] at hc;rcases hc with rfl|hc
       ·rw[yl] at hq;cases hq
       ·exact hc
 | pair p q l8 lG =>
   intro u N M c hN hM hc;simp only[OT.nr,OT.nb] at hN hM;have e1:N.take p.nr++N.drop p.nr=N:=wE ..;have e2:M.take p.nb++M.drop p.nb=M:=wE ..;unfold dN;cases hq:dN p u.1 (N.take p.nr) (M.take p.nb) c with
   | some x=>exact⟨x,rfl⟩
   | none =>
     refine lG (by rw[kL];omega) (by rw[kL];omega) ?_;have hno:c∉aF (N.take p.nr) (M.take p.nb):=fun hin=>by
      obtain⟨bx,hb⟩:=l8 (u:=u.1) (by rw[gb];omega) (by rw[gb];omega) hin;rw[hq] at hb;cases hb
     unfold aF at hc hno⊢;rw[←e1,←e2,qg,qg] at hc;simp only[zS] at hc hno⊢;rcases hc with (hc|hc)|(hc|hc)
     ·exact absurd (.inl hc) hno
     ·exact .inl hc
     ·exact absurd (.inr hc) hno
     ·exact .inr hc
 | unit =>
   intro u N M c hN hM hc;rw[List.length_eq_zero_iff.1 hN,List.length_eq_zero_iff.1 hM] at hc;cases hc
def dH:List (Nat×Nat)→List (Option (Nat×Nat))→(Nat→Option (Nat×Nat))→Nat→Option (Nat×Nat)
 | (b,_)::M,L::ls,loc,c=>if c=b then L else dH M ls loc c
 | _,_,loc,c=>loc c
theorem pU{loc:Nat→Option (Nat×Nat)}:∀{M:List (Nat×Nat)} {ls:List (Option (Nat×Nat))} {c:Nat},c∉M.map (·.1)→dH M ls loc c=loc c:=by
 intro M;induction M with
 | nil=>intro ls c _;cases ls<;>rfl
 | cons p r ih =>
   intro ls c h;cases ls with
   | nil=>rfl
   | cons L ls =>
     simp only[jH,zU,not_or] at h;unfold dH;rw[cY h.1];exact ih h.2
theorem mS{loc:Nat→Option (Nat×Nat)}:∀{M:List (Nat×Nat)} {ls:List (Option (Nat×Nat))},(M.map (·.1)).Nodup→M.length=ls.length→M.map (fun p=>dH M ls loc p.1)=ls:=by
 intro M;induction M with
 | nil=>intro ls _ h;cases ls with|nil=>rfl|cons _ _=>cases h
 | cons p r ih =>
   intro ls hd h;cases ls with
   | nil=>cases h
   | cons L ls =>
     simp only[jH,DS] at hd;have:r.map (fun q=>dH (p::r) (L::ls) loc q.1)=ls:=by
      refine Eq.trans (BB fun q hq=>?_) (ih hd.2 (by simpa using h));have hne:q.1≠p.1:=fun e=>hd.1 (by rw[←e];exact List.mem_map.2 ⟨q,hq,rfl⟩);show(if q.1=p.1 then L else dH r ls loc q.1)=_
      rw[cY hne]
     rw[jH,this];show(if p.1=p.1 then L else _)::ls=L::ls
     rw[gd rfl]
theorem r5{loc:Nat→Option (Nat×Nat)}{M:List (Nat×Nat)}{ls:List (Option (Nat×Nat))}(hd:(M.map (·.1)).Nodup)(hl:M.length=ls.length){c:Nat}(hc:c∈M.map (·.1)):∃i v:Nat,M[i]?=some (c,v)∧ls[i]?=some (dH M ls loc c):=by
 obtain⟨p,hp,rfl⟩:=List.mem_map.1 hc;obtain⟨i,hi,JG⟩:=HO hp;refine⟨i,p.2,by rw[sC hi,JG],?_⟩;have:=mS (loc:=loc) hd hl
 conv=>lhs;rw[←this]
 rw[wH,sC hi,JG];rfl
theorem dA{U:OT}{y:U.den}{N M:List (Nat×Nat)}{σ:St}{c:Nat}:(fc U y N M σ).mem c=match dN U y N (M.map fun p=>(p.1,p.2+1)) c with|some bx=>some bx|none=>σ.mem c:=rfl
theorem kj{N M:List (Nat×Nat)}:aF N (M.map fun p=>(p.1,p.2+1))=aF N M:=by
 unfold aF;rw[zW];rfl
theorem Gc{blk k k':Nat}:∀{l:List (Option (Nat×Nat))} {i j:Nat},(l.filterMap fun L=>L.map (·.1)).Nodup→l[i]?=some (some (blk,k))→l[j]?=some (some (blk,k'))→i=j:=by
 intro l;induction l with
 | nil=>intro i j _ h;simp at h
 | cons L r ih =>
   intro i j hn hi hj;have hmem:∀(q kq:Nat),r[q]?=some (some (blk,kq))→blk∈r.filterMap fun L=>L.map (·.1):=fun q kq hq=>List.mem_filterMap.2 ⟨_,BA hq,rfl⟩;cases i with
   | zero =>
     cases j with
     | zero=>rfl
     | succ j =>
       obtain rfl:=au (show some L=_ from hi);rw[HN (f:=fun L:Option (Nat×Nat)=>L.map (·.1)) (a:=some (blk,k)) (b:=blk) rfl] at hn;exact absurd (hmem j k' (by simpa using hj)) (List.nodup_cons.1 hn).1
   | succ i =>
     cases j with
     | zero =>
       obtain rfl:=au (show some L=_ from hj);rw[HN (f:=fun L:Option (Nat×Nat)=>L.map (·.1)) (a:=some (blk,k')) (b:=blk) rfl] at hn;exact absurd (hmem i k (by simpa using hi)) (List.nodup_cons.1 hn).1
     | succ j =>
       have hn':(r.filterMap fun L=>L.map (·.1)).Nodup:=by
        cases hL:L.map (·.1) with
        | none=>rw[Jm hL] at hn;exact hn
        | some q=>rw[HN hL] at hn;exact(List.nodup_cons.1 hn).2
       have:=ih hn' (by simpa using hi) (by simpa using hj);omega
theorem aG.refs(h:aG B γ σ.mem w){U:OT}{V:av}{u y:U.den}{N M:List (Nat×Nat)}{cO:List Value}{bs:List Nat}{ls':List (Option (Nat×Nat))}(hr:bJ σ.mem U V=some (u,N,M))(hd:(aF N M).Nodup)(hN:dP γ N bs)
  (hH:∀p∈N++M,Handed σ.mem p) {G:eN} (hw:jR ⟨w.heap.size,(·∈aY bs (M.map fun p=>γ.loc p.1)),G⟩ w w') {I':Nat→Nat→Prop} (hI:∀b o,γ.I b o→I' b o) (J6:∀b o,I' b o→b<w'.heap.size)
  (hnew:∀b o,I' b o→¬γ.I b o→w.heap.size≤b∨b∈aY bs (M.map fun p=>γ.loc p.1)) (ha:kg w' I' U y cO bs ls') (hnd:(aY bs ls').Nodup) (hfr:∀blk∈aY [] ls',blk∈aY bs (M.map fun p=>γ.loc p.1)∨w.heap.size≤blk) :
  aG B ⟨I',dH M ls' γ.loc⟩ (fc U y N M σ).mem w'∧Ext B γ σ.mem w ⟨I',dH M ls' γ.loc⟩ (fc U y N M σ).mem w':=by
 have hlen:=rY hr;have Mu:=ha.len;have LZ:M.length=ls'.length:=by rw[hlen.2,Mu.2]
 have L0:(M.map (·.1)).Nodup:=by unfold aF at hd;exact(List.nodup_append.1 hd).2.1
 have Mv:∀c,c∈N.map (·.1)→c∉M.map (·.1):=fun c h1 h2=>by unfold aF at hd;exact(List.nodup_append.1 hd).2.2 c h1 c h2 rfl
 have hold:∀blk,blk∈aY bs (M.map fun p=>γ.loc p.1)→∃b bx k,b∈aF N M∧σ.mem b=some bx∧bx.ro=false∧γ.loc b=some (blk,k)∧(b∈N.map (·.1)→blk∈bs):=by
  intro blk hb;unfold aY at hb;rcases List.mem_append.1 hb with hb|hb
  ·have:some blk∈N.map fun p=>(γ.loc p.1).map (·.1):=by rw[hN];exact List.mem_map.2 ⟨blk,hb,rfl⟩
   obtain⟨p,hp,he⟩:=List.mem_map.1 this;obtain⟨q,hq,he⟩:=Option.map_eq_some_iff.1 he;obtain⟨bx,j1,j2,j3,j4⟩:=hH p (rB _ hp);exact⟨p.1,bx,q.2,rB _ (List.mem_map.2 ⟨p,hp,rfl⟩),j1,j4,by rw[hq,←he],fun _=>hb⟩
  ·obtain⟨L,hL,he⟩:=List.mem_filterMap.1 hb;obtain⟨p,hp,rfl⟩:=List.mem_map.1 hL;obtain⟨q,hq,he⟩:=Option.map_eq_some_iff.1 he;obtain⟨bx,j1,j2,j3,j4⟩:=hH p (qc _ hp);exact⟨p.1,bx,q.2,qc _ (List.mem_map.2 ⟨p,hp,rfl⟩),j1,j4,by rw[hq,←he],fun F1=>absurd (List.mem_map.2 ⟨p,hp,rfl⟩) (Mv _ F1)⟩
 have hown:∀blk∈aY bs (M.map fun p=>γ.loc p.1),B.has blk∧blk<w.heap.size:=fun blk hb=>by
  obtain⟨b,bx,k,_,g2,_,g4,_⟩:=hold blk hb;exact h.fresh b blk k (by rw[g2];simp) g4
 have hfree:∀blk∈aY bs (M.map fun p=>γ.loc p.1),∀o,¬γ.I blk o:=fun blk hb o=>by
  obtain⟨b,bx,k,_,g2,g3,g4,_⟩:=hold blk hb;exact yO h g2 g3 g4 o
 have hsame:∀k,k<w.heap.size→k∉aY bs (M.map fun p=>γ.loc p.1)→w'.heap[k]?=w.heap[k]?:=fun k hk hb=>hw.block k fun q=>by
  rcases q with q|q
  ·have:w.heap.size≤k:=q;omega
  ·exact hb q
 have J8:∀k,¬B.has k→k<w.heap.size:=fun k hk=>Dc fun q=>hk (.inl (gK h.base q));have Oj:dP ⟨I',dH M ls' γ.loc⟩ N bs:=by
  unfold dP at hN⊢;rw[←hN];refine BB fun p hp=>?_;show(dH M ls' γ.loc p.1).map _=_
  rw[pU (Mv p.1 (List.mem_map.2 ⟨p,hp,rfl⟩))]
 have hL':ig ⟨I',dH M ls' γ.loc⟩ (M.map fun p=>(p.1,p.2+1)) ls':=by
  unfold ig;rw[zW];exact mS L0 LZ
 have hin:sP (fc U y N M σ).mem U y N (M.map fun p=>(p.1,p.2+1)) :=
  At hlen.1 (by rw[DT];exact hlen.2) (by rw[kj];exact hd) fun c bx hc=>by rw[dA,hc]
 have B4:∀{c bx},dN U y N (M.map fun p=>(p.1,p.2+1)) c=some bx→_:=fun {c bx} hc=>xT (γ:=⟨I',dH M ls' γ.loc⟩) ha Oj hL' hin hc;have hout:∀{c},dN U y N (M.map fun p=>(p.1,p.2+1)) c=none→c∉aF N M:=fun {c} hc hq=>by
  obtain⟨bx,hb⟩:=rZ (u:=y) (M:=M.map fun p=>(p.1,p.2+1)) hlen.1 (by rw[DT];exact hlen.2) (by rw[kj];exact hq);rw[hc] at hb;cases hb
 have oR:∀{c},c∉M.map (·.1)→dH M ls' γ.loc c=γ.loc c:=fun hc=>pU hc;have hne:∀c,(fc U y N M σ).mem c≠none→σ.mem c≠none:=by
  intro c hc hq;apply hc;rw[dA];cases hv:dN U y N (M.map fun p=>(p.1,p.2+1)) c with
  | none=>exact hq
  | some bx =>
    rcases xV hr hv with ⟨cx,_,g,_⟩|⟨cx,_,g,_⟩
    ·rw[hq] at g;cases g
    ·rw[hq] at g;cases g
 have hx:Ext B γ σ.mem w ⟨I',dH M ls' γ.loc⟩ (fc U y N M σ).mem w' :=
  { below:=⟨hw.os,hw.tape,hw.output,hw.size,fun k hk=>hsame k (J8 k hk) fun hb=>hk (hown k hb).1⟩
    I:=hI
    kP:=fun b o x=>by
     by_cases hi:γ.I b o
     ·exact .inl hi
     ·rcases hnew b o x hi with q|q
      ·exact .inr (.inl (gK h.base q))
      ·exact .inr (hown b q).1
    cells:=fun b o hi=>cJ (hsame b (h.kO b o hi) fun hb=>hfree b hb o hi)
    boxes:=fun c cx hc=>by
     rw[dA];cases hv:dN U y N (M.map fun p=>(p.1,p.2+1)) c with
     | none=>exact⟨cx,hc,dB _,fun _=>⟨oR fun q=>hout hv (qc _ q),rfl,rfl⟩⟩
     | some bx =>
       rcases xV hr hv with ⟨Ns,g1,g2,g3,g4,g5⟩|⟨Ns,g1,g2,g3⟩
       ·rw[hc] at g2;obtain rfl:=au g2;exact⟨bx,rfl,ym g3.symm,fun _=>⟨oR (Mv c (List.mem_map.2 ⟨_,g1,rfl⟩)),g4,g5⟩⟩
       ·rw[hc] at g2;obtain rfl:=au g2;exact⟨bx,rfl,by omega,fun e=>by omega⟩ }
 have hls:∀{c blk k},c∈M.map (·.1)→dH M ls' γ.loc c=some (blk,k)→blk∈aY [] ls':=fun {c blk k} hc he=>by
  obtain⟨i,v,h1,h2⟩:=r5 (loc:=γ.loc) L0 LZ hc;rw[he] at h2;unfold aY;exact qc _ (List.mem_filterMap.2 ⟨_,BA h2,rfl⟩)
 have JH:∀{c d blk k k'},c∈M.map (·.1)→σ.mem d≠none→dH M ls' γ.loc c=some (blk,k)→dH M ls' γ.loc d=some (blk,k')→c=d:=by
  intro c d blk k k' hc Mw e1 e2;have hb:=hls hc e1;by_cases Eg:d∈M.map (·.1)
  ·obtain⟨i,v,i1,i2⟩:=r5 (loc:=γ.loc) L0 LZ hc;obtain⟨j,v',j1,j2⟩:=r5 (loc:=γ.loc) L0 LZ Eg;rw[e1] at i2;rw[e2] at j2;have KI:(ls'.filterMap fun L=>L.map (·.1)).Nodup:=by unfold aY at hnd;exact(List.nodup_append.1 hnd).2.1
   have hij:i=j:=by
    exact Gc KI i2 j2
   subst hij;rw[i1] at j1;exact(bM (au j1)).1
  ·rw[oR Eg] at e2;have hlt:=(h.fresh d blk k' Mw e2).2;rcases hfr blk hb with hq|hq
   ·obtain⟨n,bx,kn,n1,n2,n3,n4,n5⟩:=hold blk hq;have Mx:=h.inj n d blk kn k' (by rw[n2];simp) Mw n4 e2;subst Mx;unfold aF at n1;rcases List.mem_append.1 n1 with n1|n1
    ·have h1:=n5 n1;unfold aY at hnd hb;rw[zR] at hb;exact absurd rfl ((List.nodup_append.1 hnd).2.2 blk h1 blk hb)
    ·exact absurd n1 Eg
   ·omega
 refine⟨?_,hx⟩;exact
  { bX:=h.qu hx
    base:=gK h.base hw.size
    boxes:=fun c cx hc=>by
     rw[dA] at hc;cases hv:dN U y N (M.map fun p=>(p.1,p.2+1)) c with
     | none =>
       rw[hv] at hc;replace hc:σ.mem c=some cx:=hc;have Nt:=hout hv;refine(h.boxes c cx hc).keep hx (oR fun q=>Nt (qc _ q)) fun blk k hl=>?_;refine hsame blk (h.fresh c blk k (by rw[hc];simp) hl).2 fun hb=>?_;obtain⟨b,bx,k',g1,g2,g3,g4,_⟩:=hold blk hb;have:=h.inj c b blk k k' (by rw[hc];simp) (by rw[g2];simp) hl g4;subst this;exact Nt g1
     | some bx =>
       rw[hv] at hc;obtain rfl:=au hc;exact(B4 hv).1
    inj:=fun c d blk k k' hc hd' e1 e2=>by
     by_cases KJ:c∈M.map (·.1)
     ·exact JH KJ (hne d hd') e1 e2
     ·by_cases Eg:d∈M.map (·.1)
      ·exact(JH Eg (hne c hc) e2 e1).symm
      ·exact h.inj c d blk k k' (hne c hc) (hne d hd') ((oR KJ).symm.trans e1) ((oR Eg).symm.trans e2)
    fresh:=fun c blk k hc hl=>by
     by_cases KJ:c∈M.map (·.1)
     ·have hb:=hls KJ hl;obtain⟨bx,gW⟩:=rZ (u:=y) (M:=M.map fun p=>(p.1,p.2+1)) hlen.1 (by rw[DT];exact hlen.2) (by rw[kj];exact qc _ KJ);obtain⟨_,_,g⟩:=B4 gW;obtain⟨_,⟨x,hx1⟩,_⟩:=g blk k hl;refine⟨?_,(Array.getElem?_eq_some_iff.1 hx1).1⟩;rcases hfr blk hb with q|q
      ·exact(hown blk q).1
      ·exact .inl (gK h.base q)
     ·have:=h.fresh c blk k (hne c hc) ((oR KJ).symm.trans hl);exact⟨this.1,qe this.2 hw.size⟩
    kO:=J6
    sep:=fun c cx blk k off hc hl hi=>by
     rw[dA] at hc;cases hv:dN U y N (M.map fun p=>(p.1,p.2+1)) c with
     | some bx =>
       obtain⟨_,_,g⟩:=B4 hv;exact absurd hi ((g blk k hl).2.2 off)
     | none =>
       rw[hv] at hc;replace hc:σ.mem c=some cx:=hc;have E3:γ.loc c=some (blk,k):=(oR fun q=>hout hv (qc _ q)).symm.trans hl;by_cases HH:γ.I blk off
       ·exact h.sep c cx blk k off hc E3 HH
       ·have h2:=(h.fresh c blk k (by rw[hc];simp) E3).2;rcases hnew blk off hi HH with h1|h1
        ·omega
        ·obtain⟨b,bx,k',g1,g2,g3,g4,_⟩:=hold blk h1;have:=h.inj c b blk k k' (by rw[hc];simp) (by rw[g2];simp) E3 g4;subst this;exact absurd g1 (hout hv) }
theorem r8{mem:Nat→Option aI}{p q:OT}{a b:av}{x:p.den}{y:q.den}{N M N' M':List (Nat×Nat)}(h1:bJ mem p a=some (x,N,M))(h2:bJ mem q b=some (y,N',M')):bJ mem (.pair p q) (.mix a b)=some ((x,y),N++N',M++M'):=by
 simp only[bJ,h1,h2];rfl
theorem wU:∀{ps:List Bool} {A:Ty} {U:OT} {vs:List av} {xs:List Value} {x:A.den} {u:U.den} {N M:List (Nat×Nat)},gm γ σ.mem w vs xs→cS σ ps A U vs=some (x,u,N,M) →
  ∃V cO,xS w γ.I ps A U x xs cO∧aV γ σ.mem w V .cells cO∧bJ σ.mem U V=some (u,N,M):=by
 intro ps;induction ps with
 | nil =>
   intro A U vs xs x u N M hv h;cases A<;>first|(cases h;done)|skip
   cases U<;>first|(cases h;done)|skip
   cases vs with
   | cons v r=>cases h
   | nil =>
     cases h;have hx:xs=[]:=by have:=hv.1;simpa using this
     exact⟨.data .unit (),[],⟨rfl,rfl,hx,rfl⟩,rfl,rfl⟩
 | cons p ps ih =>
   intro A U vs xs x u N M hv h;cases p with
   | false =>
     cases A<;>first|(cases h;done)|skip
     rename_i t A;cases vs with
     | nil=>cases h
     | cons v r =>
       simp only[cS] at h;split at h
       ·rename_i x1 y1 u1 q1 h1 h2;obtain⟨rfl,q⟩:=bM (au h);obtain⟨rfl,rfl⟩:=bM q;obtain⟨val,rest,rfl,g1,g2⟩:=hv.cons;obtain⟨V,cO,k1,k2,k3⟩:=ih g2 h2;obtain⟨cs,c1,c2⟩:=Ef g1 h1;exact⟨V,cO,⟨cs,rest,by rw[c2],c1,k1⟩,k2,k3⟩
       ·cases h
   | true =>
     cases U<;>first|(cases h;done)|skip
     rename_i o U;cases o<;>first|(cases h;done)|skip
     rename_i tid o;cases vs with
     | nil=>cases h
     | cons v r =>
       simp only[cS] at h;split at h
       ·rename_i x1 N1 M1 y1 u1 N2 M2 h1 h2;cases h;obtain⟨val,rest,rfl,g1,g2⟩:=hv.cons;obtain⟨V,cO,k1,k2,k3⟩:=ih g2 h2;have hp:∃b ag,v=.ptr b ag []:=by
         have h1':=h1;unfold bJ at h1';split at h1'
         ·exact⟨_,_,rfl⟩
         ·cases h1'
        obtain⟨b,ag,rfl⟩:=hp;exact⟨.mix (.ptr b ag []) V,val::cO,⟨val,rest,cO,rfl,rfl,k1⟩,⟨[val],cO,rfl,g1,k2⟩,by
         exact r8 h1 k3⟩
       ·cases h
theorem xW{mem:Nat→Option aI}{N M:List (Nat×Nat)}{bs:List Nat}(hN:dP γ N bs)(hH:∀p∈N++M,Handed mem p){blk:Nat}(hb:blk∈aY bs (M.map fun p=>γ.loc p.1)):∃b k,(∃bx,mem b=some bx)∧γ.loc b=some (blk,k):=by
 unfold aY at hb;rcases List.mem_append.1 hb with hb|hb
 ·have:some blk∈N.map fun p=>(γ.loc p.1).map (·.1):=by rw[hN];exact List.mem_map.2 ⟨blk,hb,rfl⟩
  obtain⟨p,hp,he⟩:=List.mem_map.1 this;obtain⟨q,hq,he⟩:=Option.map_eq_some_iff.1 he;obtain⟨bx,j1,_⟩:=hH p (rB _ hp);exact⟨p.1,q.2,⟨bx,j1⟩,by rw[hq,←he]⟩
 ·obtain⟨L,hL,he⟩:=List.mem_filterMap.1 hb;obtain⟨p,hp,rfl⟩:=List.mem_map.1 hL;obtain⟨q,hq,he⟩:=Option.map_eq_some_iff.1 he;obtain⟨bx,j1,_⟩:=hH p (qc _ hp);exact⟨p.1,q.2,⟨bx,j1⟩,by rw[hq,←he]⟩
theorem B5{mem:Nat→Option aI}(hm:aG B γ mem w):∀{l:List (Nat×Nat)},(l.map (·.1)).Nodup→(∀p∈l,Handed mem p)→(l.filterMap fun p=>(γ.loc p.1).map (·.1)).Nodup:=by
 intro l;induction l with
 | nil=>intro _ _;exact List.nodup_nil
 | cons p r ih =>
   intro hd hH;simp only[jH,DS] at hd;have hr:=ih hd.2 fun q hq=>hH q (jT _ hq);cases hL:(γ.loc p.1).map (·.1) with
   | none=>rw[Jm (f:=fun p:Nat×Nat=>(γ.loc p.1).map (·.1)) hL];exact hr
   | some blk =>
     rw[HN (f:=fun p:Nat×Nat=>(γ.loc p.1).map (·.1)) hL,DS];refine⟨fun hq=>?_,hr⟩;obtain⟨q,hq,he⟩:=List.mem_filterMap.1 hq;obtain⟨x,hx,hx2⟩:=Option.map_eq_some_iff.1 hL;obtain⟨z,hz,Ok⟩:=Option.map_eq_some_iff.1 he;obtain⟨bp,p1,_⟩:=hH p (jU ..);obtain⟨bq,q1,_⟩:=hH q (jT _ hq);have:=hm.inj p.1 q.1 blk x.2 z.2 (by rw[p1];simp) (by rw[q1];simp) (by rw[hx,←hx2]) (by rw[hz,←Ok]);exact hd.1 (by rw[this];exact List.mem_map.2 ⟨q,hq,rfl⟩)
theorem sQ{mem:Nat→Option aI}(hm:aG B γ mem w){N M:List (Nat×Nat)}{bs:List Nat}(hN:dP γ N bs)(hH:∀p∈N++M,Handed mem p)(hd:(aF N M).Nodup):(aY bs (M.map fun p=>γ.loc p.1)).Nodup:=by
 have h:=B5 hm (l:=N++M) (by rw[qg];exact hd) hH;have e:((N++M).filterMap fun p=>(γ.loc p.1).map (·.1))=aY bs (M.map fun p=>γ.loc p.1):=by
  unfold aY;rw[Jr,Fy]
  congr 1
  have h2:(N.filterMap fun p=>(γ.loc p.1).map (·.1))=(N.map fun p=>(γ.loc p.1).map (·.1)).filterMap id:=by rw[Fy];rfl
  rw[h2,hN,Fy];exact List.filterMap_some
 rw[←e];exact h
end
end Go.Ge
