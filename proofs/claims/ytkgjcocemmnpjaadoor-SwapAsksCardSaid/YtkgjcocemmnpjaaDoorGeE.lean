/- A ghost interpreter of the model's code, and that it tells the truth: part 5. It says of a function of plain data what a call of it comes to. -/
import Derived.Test.YtkgjcocemmnpjaaDoorGeD
set_option linter.unusedVariables false
set_option linter.unusedSimpArgs false
set_option linter.unusedSectionVars false
namespace Go.Ge
open RowKit
def dV(w:World)(I:Nat→Nat→Prop):(A:Ty)→A.den→List Value→Prop
 | .pair t r,x,vs=>∃cs rest,vs=bA t cs::rest∧aX w I t x.1 cs∧dV w I r x.2 rest
 | .unit,_,vs=>vs=[]
 | _,_,_=>False
def fN(w:World)(I:Nat→Nat→Prop)(R:Ty)(y:R.den)(v:Value):Prop:=br ⟨I,fun _=>none⟩ (fun _=>none) w (jB R y) .val [v]
structure Holds (P:Program) (G:eM) (f:Nat) (c:oR):Prop where
 body:∃fn code,P.funcs[f]?=some fn∧(fn.name == "runtime.NumGoroutine")=false∧fn.body=some code
 calls:∀(I:Nat→Nat→Prop) (w:World) (args:Array Value) (x:c.A.den) (y:c.R.den),(∀b o,I b o→b<w.heap.size)→kK G w→dV w I c.A x args.toList→c.spec x=some y →
  Calls P f args w fun e w'=>∃v I',e=.returned v∧Below w.heap.size w w'∧(∀b o,I b o→I' b o)∧(∀b o,I' b o→b<w'.heap.size)∧(∀b o,I' b o→¬I b o→w.heap.size≤b)∧fN w' I' c.R y v
def tL(P:Program)(G:eM)(name:String)(c:oR):Prop :=
 ∀(I:Nat→Nat→Prop) (w:World) (v:Value) (xs:List Value) (x:c.A.den) (y:c.R.den),(∀b o,I b o→b<w.heap.size)→kK G w→dV w I c.A x (v::xs)→c.spec x=some y →
  ∃f u,(callMethod v name xs.toArray).run P w=(callFunc f (u::xs).toArray).run P w∧(∃fn code,P.funcs[f]?=some fn∧(fn.name == "runtime.NumGoroutine")=false∧fn.body=some code) ∧
  Calls P f (u::xs).toArray w fun e w'=>∃v I',e=.returned v∧Below w.heap.size w w'∧(∀b o,I b o→I' b o)∧(∀b o,I' b o→b<w'.heap.size)∧(∀b o,I' b o→¬I b o→w.heap.size≤b)∧fN w' I' c.R y v
theorem aN.I9{B:iy}{γ:Gh}{mem:Nat→Option aR}{w w':World}(h:aN B γ mem w)(hw:Below w.heap.size w w'){I':Nat→Nat→Prop}(hI:∀b o,γ.I b o→I' b o)(G2:∀b o,I' b o→b<w'.heap.size)
  (hnew:∀b o,I' b o→¬γ.I b o→w.heap.size≤b):aN B ⟨I',γ.loc⟩ mem w'∧Ext B γ mem w ⟨I',γ.loc⟩ mem w':=by
 have hx:Ext B γ mem w ⟨I',γ.loc⟩ mem w' :=
  { below:=.of ⟨hw.os,hw.tape,hw.output,hw.size,fun k hk=>hw.block k (qh hk h.base)⟩
    I:=hI
    jK:=fun b o x=>by
     by_cases hi:γ.I b o
     ·exact .inl hi
     ·exact .inr (.inl (gj h.base (hnew b o x hi)))
    cells:=fun b o hi=>dD (hw.block b (h.jJ b o hi))
    boxes:=fun b bx hb=>⟨bx,hb,en _,fun _=>⟨rfl,rfl,rfl⟩⟩ }
 refine⟨?_,hx⟩;exact
  { b6:=h.pe hx
    base:=gj h.base hw.size
    boxes:=fun b bx hb=>(h.boxes b bx hb).keep hx rfl fun blk k hl=>hw.block blk (h.fresh b blk k (by rw[hb];simp) hl).2
    inj:=h.inj
    fresh:=fun b blk k hb hl=>by have:=h.fresh b blk k hb hl;exact⟨this.1,qh this.2 hw.size⟩
    jJ:=G2
    sep:=fun b bx blk k off hb hl hi=>by
     by_cases hi0:γ.I blk off
     ·exact h.sep b bx blk k off hb hl hi0
     ·have h1:=hnew blk off hi hi0;have h2:=(h.fresh b blk k (by rw[hb];simp) hl).2;omega }
theorem B8{w:World}{γ γ':Gh}{mem mem':Nat→Option aR}(hI:∀b o,γ.I b o→γ'.I b o):∀{R:Ty} {y:R.den} {vs:List Value},br γ mem w (mG R y) .many vs→br γ' mem' w (mG R y) .many vs:=by
 intro R;induction R with
 | pair t r zS ihr =>
   intro y vs h;obtain⟨v,rest,h0,⟨cs,h1,h2⟩,h3⟩:=h;exact⟨v,rest,h0,⟨cs,aX.mono hI (fun _ _ _=>rfl) h1,h2⟩,ihr h3⟩
 | _=>intro y vs h;exact h
theorem pL(R:Ty)(y:R.den):(∃t,∃q:R=.pair t .unit,jB R y=.data t (show(Ty.pair t .unit).den from q▸y).1)∨jB R y=.jT (mG R y):=by
 cases R with
 | pair t r =>
   cases r with
   | unit=>exact .inl ⟨t,rfl,rfl⟩
   | _=>exact .inr rfl
 | _=>exact .inr rfl
theorem fN.rep{w:World}{I:Nat→Nat→Prop}{R:Ty}{y:R.den}{v:Value}(h:fN w I R y v){γ:Gh}{mem:Nat→Option aR}(hI:∀b o,I b o→γ.I b o):br γ mem w (jB R y) .val [v]:=by
 unfold fN at h;rcases pL R y with ⟨t,q,hq⟩|hq
 ·rw[hq] at h⊢;obtain⟨cs,h1,h2⟩:=h;exact⟨cs,aX.mono hI (fun _ _ _=>rfl) h1,h2⟩
 ·rw[hq] at h⊢;obtain⟨arr,h1,h2⟩:=h;exact⟨arr,h1,B8 hI h2⟩
theorem tM{w w':World}{γ γ':Gh}{mem mem':Nat→Option aR}:∀{R:Ty} {y:R.den} {vs:List Value},R.flat=true→br γ mem w (mG R y) .many vs→br γ' mem' w' (mG R y) .many vs:=by
 intro R;induction R with
 | pair t r zS ihr =>
   intro y vs hf h;simp only[Ty.flat,cA] at hf;obtain⟨v,rest,h0,⟨cs,h1,h2⟩,h3⟩:=h;exact⟨v,rest,h0,⟨cs,aX.flat hf.1 h1,h2⟩,ihr hf.2 h3⟩
 | _=>intro y vs hf h;exact h
theorem fN.flat{w w':World}{I:Nat→Nat→Prop}{R:Ty}{y:R.den}{v:Value}(h:fN w I R y v){γ:Gh}{mem:Nat→Option aR}(hf:R.flat=true):br γ mem w' (jB R y) .val [v]:=by
 unfold fN at h;rcases pL R y with ⟨t,q,hq⟩|hq
 ·rw[hq] at h⊢;subst q;simp only[Ty.flat,cA] at hf;obtain⟨cs,h1,h2⟩:=h;exact⟨cs,aX.flat hf.1 h1,h2⟩
 ·rw[hq] at h⊢;obtain⟨arr,h1,h2⟩:=h;exact⟨arr,h1,tM hf h2⟩
section
variable {P:Program} {B:iy} {N:Nat} {γ:Gh} {σ σ':St} {a:Act} {w w':World} {d:Option Nat} {cx:Ctx}
theorem mP.JC{I I':Nat→Nat→Prop}{e:Ty}{l:List e.den}{v:Value}(h:mP w I e l v)(hI:∀b o,I b o→I' b o)(hc:∀blk off cap,v=.slice (some ⟨blk,off,none⟩) l.length cap→l≠[]→∀o,I' blk o) :
  aX w I' (.slice e) l [v]:=by
 rcases h with ⟨rfl,base,cap,r1,r2,r3⟩|⟨blk,off,cap,r1,r2,r3,r4⟩
 ·rcases r3 with rfl|⟨blk,off,rfl⟩
  ·exact .inl ⟨⟨base,by rw[r1]⟩,rfl⟩
  ·exact .inr ⟨blk,off,cap,by rw[r1];rfl,kD _,r2,fun i x hx=>by cases hx⟩
 ·refine .inr ⟨blk,off,cap,by rw[r1],r2,r3,fun i x hx=>?_⟩;obtain⟨es,g1,g2,g3⟩:=r4 i x hx;exact⟨es,g1,fun j c hj=>⟨g2 j c hj,hc blk off cap r1 (fun e=>by rw[e] at hx;cases hx) _⟩,aX.mono hI (fun _ _ _=>rfl) g3⟩
theorem w6(hm:aN B γ σ.mem w){e:Ty}{v:au}{l:List e.den}{blk off n cap:Nat}(hv:br γ σ.mem w v .val [.slice (some ⟨blk,off,none⟩) n cap])(hl:dw e σ v=some l)(hne:l≠[]) :
  (∃q,v=.data (.slice e) q)∨(B.has blk∧blk<w.heap.size):=by
 rcases fL hl with rfl|⟨rfl,rfl⟩|⟨b,ag,bx,rfl,hb,aE,aQ,fT⟩|⟨b,ag,lo,n',bx,rfl,hb,aE,zH⟩
 ·exact .inl ⟨_,rfl⟩
 ·exact absurd rfl hne
 ·obtain⟨e',k,g1,g2,g3⟩:=aF hb aE hv.2;rcases g3 with ⟨g3,g4⟩|⟨b7,cap',g3,g4⟩
  ·exfalso;have eH:=hm.boxes b bx hb;rw[bB,aQ] at eH;obtain⟨e3,l3,q1,q2,q3⟩:=eH;rw[fT] at q1;cases q1;rcases q3 with ⟨_,q3⟩|⟨_,_,_,_,_,q3,_⟩
   ·exact hne q3
   ·rw[g3] at q3;cases q3
  ·have q1:blk=b7:=by
    have:=sP g4;injection this with q1 _ _
    injection q1 with q1
    injection q1
   subst q1;exact .inr (hm.fresh b blk cap' (by rw[hb];simp) g3)
 ·obtain⟨e',k,g2,g3,g4,g5,base,cap',g6,g7,g8,gF,g9⟩:=aF hb aE hv.2;have K3:=sP g6;rcases g9 with g9|⟨b7,c,g9,g10⟩
  ·exfalso;apply hne;rcases zH with ⟨_,l0,_,rfl⟩|⟨_,k0,l0,_,rfl⟩<;>simp[sub,g9]
  ·injection K3 with q1 _ _
   rw[g10] at q1;injection q1 with q1
   injection q1 with q1 _
   subst q1;exact .inr (hm.fresh b blk c (by rw[hb];simp) g9)
theorem oG(hm:aN B γ σ.mem w){I':Nat→Nat→Prop}(hI:∀b o,γ.I b o→I' b o)(CO:∀b o,B.has b→b<w.heap.size→I' b o):∀{v:au} {t:Ty} {x:t.den} {cs:List Value},
  br γ σ.mem w v .cells cs→hY σ t v=some x→aX w I' t x cs:=by
 have sl:∀{v:au} {e:Ty} {l:List e.den} {cs:List Value},bL v=1→(∀c,br γ σ.mem w v .cells [c]→br γ σ.mem w v .val [c])→(∀t x,v≠.data t x)→br γ σ.mem w v .cells cs→dw e σ v=some l→aX w I' (.slice e) l cs:=by
  intro v e l cs h1 hval hnd hc hl;obtain⟨c,rfl⟩:=qZ hc h1;have hv:=hval c hc;refine(iA hm hv hl).JC hI fun blk off cap e0 hne o=>?_;subst e0;rcases w6 hm hv hl hne with ⟨q,hq⟩|⟨h2,h3⟩
  ·exact absurd hq (hnd _ _)
  ·exact CO blk o h2 h3
 intro v;induction v with
 | data u y =>
   intro t x cs hc hl;have key:(∃q:u=t,x=q▸y):=by
    cases t with
    | slice e =>
      rcases fL (show dw e σ (.data u y)=some x from hl) with g|⟨g,_⟩|⟨_,_,_,g,_⟩|⟨_,_,_,_,_,g,_⟩
      ·injection g with g1 g2;subst g1;exact⟨rfl,(eq_of_heq g2).symm⟩
      ·cases g
      ·cases g
      ·cases g
    | _=>exact Ty.eW hl
   obtain⟨q,hq⟩:=key;subst q;subst hq;exact aX.mono hI (fun _ _ _=>rfl) hc
 | mix p q lq kO =>
   intro t x cs hc hl;cases t with
   | pair s r =>
     obtain⟨c1,c2,rfl,h1,h2⟩:=hc;obtain⟨y,z,hp,hq,rfl⟩:=pH hl;exact⟨c1,c2,rfl,lq h1 hp,kO h2 hq⟩
   | slice e=>exact absurd hl (by intro k;cases k)
   | _=>cases hl
 | gk =>
   intro t x cs hc hl;cases t with
   | slice e=>exact sl (v:=.gk) rfl (fun c k=>k) (fun _ _=>by simp) hc hl
   | _=>cases hl
 | whole b ag =>
   intro t x cs hc hl;cases t with
   | slice e=>exact sl (v:=.whole b ag) rfl (fun c k=>k) (fun _ _=>by simp) hc hl
   | _=>cases hl
 | part b ag lo n =>
   intro t x cs hc hl;cases t with
   | slice e=>exact sl (v:=.part b ag lo n) rfl (fun c k=>k) (fun _ _=>by simp) hc hl
   | _=>cases hl
 | iQ =>
   intro t x cs hc hl;obtain rfl:cs=[.nilIface]:=hc;exact(gH hl).1 _ _
 | _ =>
   intro t x cs hc hl;cases t with
   | slice e=>exact absurd hl (by intro k;cases k)
   | _=>cases hl
theorem tN(hm:aN B γ σ.mem w){I':Nat→Nat→Prop}(hI:∀b o,γ.I b o→I' b o)(CO:∀b o,B.has b→b<w.heap.size→I' b o){v:au}{t:Ty}{x:t.den}{val:Value}
  (hv:br γ σ.mem w v .val [val]) (hl:hY σ t v=some x):∃cs,aX w I' t x cs∧val=bA t cs:=by
 have one:∀{v:au},br γ σ.mem w v .cells [val]→(∃e,t=.slice e)→hY σ t v=some x→∃cs,aX w I' t x cs∧val=bA t cs:=by
  intro v hc he hl;obtain⟨e,rfl⟩:=he;exact⟨[val],oG hm hI CO hc hl,rfl⟩
 cases v with
 | data u y =>
   obtain⟨cs,h1,h2⟩:=cq.1 hv;have hc:=oG hm hI CO (v:=.data u y) (cs:=cs) h1 hl;refine⟨cs,hc,?_⟩;rw[h2];have:u.isAgg=t.isAgg:=by
    cases t with
    | slice e =>
      rcases fL (show dw e σ (.data u y)=some x from hl) with g|⟨g,_⟩|⟨_,_,_,g,_⟩|⟨_,_,_,_,_,g,_⟩
      ·injection g with g1 g2;rw[g1]
      ·cases g
      ·cases g
      ·cases g
    | _=>obtain⟨q,_⟩:=Ty.eW hl;rw[q]
   unfold bA;rw[this]
 | mix p q =>
   obtain⟨c1,c2,e1,h1,h2⟩:=hv;obtain rfl:val=_:=by simpa using e1
   have hc:=oG hm hI CO (v:=.mix p q) (cs:=c1++c2) ⟨c1,c2,rfl,h1,h2⟩ hl;refine⟨_,hc,?_⟩;cases t with
   | pair s r=>rfl
   | slice e=>exact absurd hl (by intro k;cases k)
   | _=>cases hl
 | gk=>cases t with
   | slice e=>exact one hv ⟨e,rfl⟩ hl
   | _=>cases hl
 | whole b ag=>cases t with
   | slice e=>exact one hv ⟨e,rfl⟩ hl
   | _=>cases hl
 | part b ag lo n=>cases t with
   | slice e=>exact one hv ⟨e,rfl⟩ hl
   | _=>cases hl
 | iQ =>
   have hv:[val]=[Value.nilIface]:=hv;obtain rfl:val=.nilIface:=by simpa using hv
   exact⟨[.nilIface],(gH hl).1 _ _,(gH hl).2.2.1.symm⟩
 | _=>cases t with
   | slice e=>exact absurd hl (by intro k;cases k)
   | _=>cases hl
def fO(γ:Gh)(mem:Nat→Option aR)(w:World)(vs:List au)(xs:List Value):Prop:=xs.length=vs.length∧∀(i:Nat) v x,vs[i]?=some v→xs[i]?=some x→br γ mem w v .val [x]
theorem fO.cons{mem:Nat→Option aR}{v:au}{vs:List au}{xs:List Value}(h:fO γ mem w (v::vs) xs):∃x r,xs=x::r∧br γ mem w v .val [x]∧fO γ mem w vs r:=by
 cases xs with
 | nil=>cases h.1
 | cons x r=>exact⟨x,r,rfl,h.2 0 v x rfl rfl,by simpa using h.1,fun i v' x' h1 h2=>h.2 (i+1) v' x' h1 h2⟩
theorem fO.ext{mem mem':Nat→Option aR}{γ':Gh}{vs:List au}{xs:List Value}(h:fO γ mem w vs xs)(hx:Ext B γ mem w γ' mem' w'):fO γ' mem' w' vs xs:=⟨h.1,fun i v x h1 h2=>(h.2 i v x h1 h2).ext hx⟩
theorem vi(hm:aN B γ σ.mem w){I':Nat→Nat→Prop}(hI:∀b o,γ.I b o→I' b o)(CO:∀b o,B.has b→b<w.heap.size→I' b o):∀{A:Ty} {x:A.den} {vs:List au} {xs:List Value},
  fO γ σ.mem w vs xs→dR σ A vs=some x→dV w I' A x xs:=by
 intro A;induction A with
 | pair t r zS ihr =>
   intro x vs xs h hl;cases vs with
   | nil=>cases hl
   | cons v vs =>
     obtain⟨y,rest,rfl,h1,h2⟩:=h.cons;simp only[dR] at hl;split at hl
     ·rename_i p q hp hq;obtain rfl:=aq hl;obtain⟨cs,c1,c2⟩:=tN hm hI CO h1 hp;exact⟨cs,rest,by rw[c2],c1,ihr h2 hq⟩
     ·cases hl
 | unit =>
   intro x vs xs h hl;cases vs with
   | nil=>exact List.length_eq_zero_iff.1 h.1
   | cons v vs=>cases hl
 | _=>intro x vs xs h hl;cases vs<;>cases hl
theorem dV.mono{I I':Nat→Nat→Prop}(hI:∀b o,I b o→I' b o)(hw:∀b o,I b o→w'.cell? ⟨b,o,none⟩=w.cell? ⟨b,o,none⟩):∀{A:Ty} {x:A.den} {xs:List Value},dV w I A x xs→dV w' I' A x xs:=by
 intro A;induction A with
 | pair t r zS ihr=>intro x xs h;obtain⟨cs,rest,h0,h1,h2⟩:=h;exact⟨cs,rest,h0,aX.mono hI hw h1,ihr h2⟩
 | _=>intro x xs h;exact h
theorem iK:∀{A:Ty} {x:A.den} {vs:List au} {xs:List Value} {σ σ':St} {γ:Gh},bP B N γ σ a w→fO γ σ.mem w vs xs→eX σ A vs=some (x,σ') →
  ∃γ',bP B N γ' σ' a w∧Ext B γ σ.mem w γ' σ'.mem w∧dV w γ'.I A x xs:=by
 intro A;induction A with
 | pair t r zS ihr =>
   intro x vs xs σ σ' γ h hv hl;cases vs with
   | nil=>cases hl
   | cons v vs =>
     obtain⟨y,rest,rfl,h1,h2⟩:=hv.cons;simp only[eX] at hl;split at hl
     ·rename_i p σ1 hp;split at hl
      ·rename_i q σ2 hq;obtain⟨rfl,rfl⟩:=bY (aq hl);obtain⟨dX,s1,s2,cs,c1,c2⟩:=fM h h1 hp;obtain c2:y=_:=by simpa using c2
       obtain⟨nY,t1,t2,t3⟩:=ihr s1 (h2.ext s2) hq;exact⟨nY,t1,s2.trans t2,cs,rest,by rw[c2],aX.mono t2.I t2.cells c1,t3⟩
      ·cases hl
     ·cases hl
 | unit =>
   intro x vs xs σ σ' γ h hv hl;cases vs with
   | nil=>obtain⟨rfl,rfl⟩:=bY (aq hl);exact⟨γ,h,Ext.refl _ _ _ _,List.length_eq_zero_iff.1 hv.1⟩
   | cons v vs=>cases hl
 | _=>intro x vs xs σ σ' γ h hv hl;cases vs<;>cases hl
def Dz(w:World)(I:Nat→Nat→Prop)(e:Ty)(bX:Nat)(l:List e.den)(L:Option (Nat×Nat))(v:Value):Prop :=
 0<e.size∧((L=none∧l=[]∧v=.slice none 0 0)∨∃blk cap cur tid fr,L=some (blk,cap)∧v=.slice (some ⟨blk,0,none⟩) l.length cap∧w.heap[blk]?=some (.cells cur tid fr)∧EF e cur fr∧(bX=0∨tid=bX) ∧
  l.length≤cap∧cap≤maxLen∧cur.size=cap*e.size∧(∀o,¬I blk o)∧∀(i:Nat) (x:e.den),l[i]?=some x→aX w I e x ((cur.toList.drop (i*e.size)).take e.size))
def mS(w:World)(I:Nat→Nat→Prop):(o:OT)→o.den→List Value→List Nat→List (Option (Nat×Nat))→Prop
 | .dat t,x,cs,bs,ls=>aX w I t x cs∧bs=[]∧ls=[]
 | .buf e bX,l,cs,bs,ls=>∃L v,cs=[v]∧bs=[]∧ls=[L]∧Dz w I e bX l L v
 | .ref tid o,u,cs,bs,ls=>∃blk r,cs=[.pointer (some ⟨blk,0,none⟩)]∧bs=blk::r∧(∀off,¬I blk off)∧∃cur t' fr,w.heap[blk]?=some (.cells cur t' fr)∧iw cur fr∧(tid=0∨t'=tid)∧mS w I o u cur.toList r ls
 | .pair p q,u,cs,bs,ls=>∃c1 c2 b1 b2 l1 l2,cs=c1++c2∧bs=b1++b2∧ls=l1++l2∧mS w I p u.1 c1 b1 l1∧mS w I q u.2 c2 b2 l2
 | .unit,_,cs,bs,ls=>cs=[]∧bs=[]∧ls=[]
def bI(bs:List Nat)(ls:List (Option (Nat×Nat))):List Nat:=bs++ls.filterMap fun L=>L.map (·.1)
def yz(w:World)(I:Nat→Nat→Prop):List Bool→(A:Ty)→(U:OT)→A.den→List Value→List Value→Prop
 | [],A,U,_,vs,eo=>A=.unit∧U=.unit∧vs=[]∧eo=[]
 | false::ps,A,U,x,vs,eo=>match A,x with
   | .pair t A,x=>∃cs rest,vs=bA t cs::rest∧aX w I t x.1 cs∧yz w I ps A U x.2 rest eo
   | _,_=>False
 | true::ps,A,U,x,vs,eo=>match U with
   | .pair (.ref _ _) U=>∃v rest r,vs=v::rest∧eo=v::r∧yz w I ps A U x rest r
   | _=>False
structure cg (P:Program) (G:eM) (f:Nat) (c:gd):Prop where
 body:∃fn code,P.funcs[f]?=some fn∧(fn.name == "runtime.NumGoroutine")=false∧fn.body=some code
 calls:∀(I:Nat→Nat→Prop) (w:World) (args:Array Value) (eo:List Value) (bs:List Nat) (ls:List (Option (Nat×Nat))) (x:c.A.den) (u:c.U.den) (y:c.R.den×c.U.den),(∀b o,I b o→b<w.heap.size)→kK G w→(∀b Q,G b Q→b∉bI bs ls) →
  yz w I c.ps c.A c.U x args.toList eo→mS w I c.U u eo bs ls→(bI bs ls).Nodup→c.spec (x,u)=some y →
  Calls P f args w fun e w'=>∃v I' ls',e=.returned v∧jI ⟨w.heap.size,(·∈bI bs ls),G⟩ w w'∧(∀b o,I b o→I' b o)∧(∀b o,I' b o→b<w'.heap.size)∧(∀b o,I' b o→¬I b o→w.heap.size≤b∨b∈bI bs ls)∧fN w' I' c.R y.1 v ∧
   mS w' I' c.U y.2 eo bs ls'∧(bI bs ls').Nodup∧∀blk∈bI [] ls',blk∈bI bs ls∨w.heap.size≤blk
structure sg (og:Option Nat) (w w':World):Prop where
 os:w'.os=w.os
 tape:w'.tape=w.tape
 output:w'.output=w.output
 size:w.heap.size≤w'.heap.size
 block:∀k,k<w.heap.size→og≠some k→w'.heap[k]?=w.heap[k]?
 cell:∀k o,k<w.heap.size→w'.cell? ⟨k,o,none⟩=w.cell? ⟨k,o,none⟩
def n6(w:World)(I:Nat→Nat→Prop)(e:Ty)(l:List e.den)(L:Option (Nat×Nat))(v:Value):Prop :=
 (L=none∧l=[]∧v=.slice none 0 0)∨∃blk cap cur tid fr,L=some (blk,cap)∧v=.slice (some ⟨blk,0,none⟩) l.length cap∧w.heap[blk]?=some (.cells cur tid fr)∧EF e cur fr ∧
  l.length≤cap∧cap≤maxLen∧cur.size=cap*e.size∧(∀o,¬I blk o)∧∀(i:Nat) (x:e.den),l[i]?=some x→aX w I e x ((cur.toList.drop (i*e.size)).take e.size)
structure Ai (w:World) (I:Nat→Nat→Prop) (X:Nat→Prop) (w':World) (I':Nat→Nat→Prop):Prop where
 below:jI ⟨w.heap.size,X,E1⟩ w w'
 held:∀b o,I b o→I' b o
 jJ:∀b o,I' b o→b<w'.heap.size
 jK:∀b o,I' b o→¬I b o→w.heap.size≤b
def tO(P:Program)(f:Nat):EE→Prop
 | .EW T=>(∃fn code,P.funcs[f]?=some fn∧(fn.name == "runtime.NumGoroutine")=false∧fn.body=some code) ∧
  ∀(w:World) (b:Nat) (p v:Value) (fr:Nat×Nat),w.heap[b]?=some (.cells #[p,v] T fr)→¬(fr.1≤0∧0<fr.2)→(p=.pointer none∨p=.pointer (some ⟨b,0,none⟩)) →
   Calls P f #[.pointer (some ⟨b,0,none⟩)] w fun e w'=>e=.returned (.tuple #[])∧(w'=w∨w'=w.setRow b #[.pointer (some ⟨b,0,none⟩),v])
 | .str T E=>(∃fn code,P.funcs[f]?=some fn∧(fn.name == "runtime.NumGoroutine")=false∧fn.body=some code) ∧
  ∀(w:World) (b:Nat) (p v:Value) (fr:Nat×Nat) (l:List UInt8) (og:Option Nat),w.heap[b]?=some (.cells #[p,v] T fr) →
   ((og=none∧v=.slice none 0 0∧l=[])∨∃(g cap:Nat) (cur:Array Value) (fr':Nat×Nat),og=some g∧v=.slice (some ⟨g,0,none⟩) l.length cap∧w.heap[g]?=some (.cells cur E fr')∧l.length≤cap∧cap≤maxLen∧cur.size=cap∧∀(j:Nat) (x:UInt8),l[j]?=some x→cur[j]?=some (Value.int .u8 x.toNat)) →
   Calls P f #[.pointer (some ⟨b,0,none⟩)] w fun e w'=>e=.returned (.string ⟨l.toArray⟩)∧sg og w w'
 | .clone e=>(∃fn code,P.funcs[f]?=some fn∧(fn.name == "runtime.NumGoroutine")=false∧fn.body=some code) ∧
  ∀(I:Nat→Nat→Prop) (w:World) (args:Array Value) (l:List e.den),(∀b o,I b o→b<w.heap.size)→dV w I (.pair (.slice e) .unit) (l,()) args.toList→fits (len l)=true →
   Calls P f args w fun q w'=>∃v I' L,q=.returned v∧Ai w I (fun _=>False) w' I'∧n6 w' I' e l L v∧∀blk c,L=some (blk,c)→w.heap.size≤blk
 | .own e A res spec=>(∃fn code,P.funcs[f]?=some fn∧(fn.name == "runtime.NumGoroutine")=false∧fn.body=some code) ∧
  ∀(I:Nat→Nat→Prop) (w:World) (args:Array Value) (v:Value) (rest:List Value) (l l':List e.den) (L:Option (Nat×Nat)) (x:A.den),(∀b o,I b o→b<w.heap.size)→args.toList=v::rest→n6 w I e l L v→dV w I A x rest→spec l x=some l' →
   Calls P f args w fun q w'=>∃I',Ai w I (fun k=>∃c,L=some (k,c)) w' I' ∧
    match res with
    | true=>∃v' L',q=.returned v'∧n6 w' I' e l' L' v'∧∀blk c,L'=some (blk,c)→(∃c,L=some (blk,c))∨w.heap.size≤blk
    | false=>q=.returned (.tuple #[])∧l'.length=l.length∧n6 w' I' e l' L v
structure ia (P:Program) (G:eM) (cx:Ctx):Prop where
 gE:∀f c,find cx.gE f=some c→Holds P G f c
 cO:∀f c,find cx.cO f=some c→cg P G f c
 x6:∀f s,find cx.x6 f=some s→tO P f s
 inv:∀name c,x7 cx.inv name=some c→tL P G name c
theorem pM{l:List Nat}{t:Nat}:bN l t=true↔t∈l:=by
 induction l with
 | nil=>simp[bN]
 | cons i r ih =>
   simp only[bN,sR,wG,ih];constructor
   ·rintro(h|h)
    ·exact .inl (cK h)
    ·exact .inr h
   ·rintro(h|h)
    ·subst h;exact .inl (by simp)
    ·exact .inr h
theorem qD{l:List Nat}:sZ l=true↔l.Nodup:=by
 induction l with
 | nil=>simp[sZ]
 | cons b r ih =>
   simp only[sZ,cA,ny,BL,ih];constructor
   ·rintro⟨h,k⟩;exact⟨fun q=>(by rw[pM.2 q] at h;cases h),k⟩
   ·rintro⟨h,k⟩;refine⟨?_,k⟩;cases hq:bN r b with
    | false=>rfl
    | true=>exact absurd (pM.1 hq) h
theorem mS.len{w:World}{I:Nat→Nat→Prop}:∀{o:OT} {u:o.den} {cs:List Value} {bs:List Nat} {ls:List (Option (Nat×Nat))},mS w I o u cs bs ls→bs.length=o.nr∧ls.length=o.nb:=by
 intro o;induction o with
 | dat t=>intro u cs bs ls h;rw[h.2.1,h.2.2];exact⟨rfl,rfl⟩
 | buf e bX=>intro u cs bs ls h;obtain⟨L,v,_,rfl,rfl,_⟩:=h;exact⟨rfl,rfl⟩
 | ref tid o ih =>
   intro u cs bs ls h;obtain⟨blk,r,_,rfl,_,cur,t',fr,_,_,_,h1⟩:=h;have:=ih h1;exact⟨by simp[OT.nr,this.1],this.2⟩
 | pair p q lq kO =>
   intro u cs bs ls h;obtain⟨c1,c2,b1,b2,l1,l2,_,rfl,rfl,h1,h2⟩:=h;have:=lq h1;have:=kO h2;simp_all[OT.nr,OT.nb]
 | unit=>intro u cs bs ls h;rw[h.2.1,h.2.2];exact⟨rfl,rfl⟩
def ru(mem:Nat→Option aR):(o:OT)→o.den→List (Nat×Nat)→List (Nat×Nat)→Prop
 | .dat _,_,_,_=>True
 | .buf e bX,l,_,M=>∃b v r,M=(b,v)::r∧mem b=some { val:=.data (.slice e) l,tid:=bX,buf:=true,ro:=false,lk:=false,ag:=v }
 | .ref tid o,u,N,M=>∃b v r,N=(b,v)::r∧mem b=some { val:=sY o u r M,tid,buf:=false,ro:=false,lk:=false,ag:=v }∧ru mem o u r M
 | .pair p q,u,N,M=>ru mem p u.1 (N.take p.nr) (M.take p.nb)∧ru mem q u.2 (N.drop p.nr) (M.drop p.nb)
 | .unit,_,_,_=>True
theorem gB:∀{o:OT} {u:o.den} {N M:List (Nat×Nat)} {c:Nat} {bx:aR},dZ o u N M c=some bx→c∈aK N M:=by
 intro o;induction o with
 | dat t=>intro u N M c bx h;cases h
 | buf e bX =>
   intro u N M c bx h;cases M with
   | nil=>cases h
   | cons p r =>
     unfold dZ at h;cases hb:Nat.beq c p.1 with
     | true=>rw[cK hb];simp[aK]
     | false=>dsimp only at h;rw[hb] at h;cases h
 | ref tid o ih =>
   intro u N M c bx h;cases N with
   | nil=>cases h
   | cons p r =>
     unfold dZ at h;cases hb:Nat.beq c p.1 with
     | true=>rw[cK hb];simp[aK]
     | false =>
       dsimp only at h;rw[hb] at h;have:=ih h;unfold aK at this⊢;simp only[jj,zO,wG];exact .inr this
 | pair p q lq kO =>
   intro u N M c bx h;unfold dZ at h;have hs:∀{n m:Nat},(c∈aK (N.take n) (M.take m)→c∈aK N M)∧(c∈aK (N.drop n) (M.drop m)→c∈aK N M):=by
    intro n m;unfold aK;simp only[xY,List.mem_map];constructor
    ·rintro(⟨a,ha,rfl⟩|⟨a,ha,rfl⟩)
     ·exact .inl ⟨a,List.mem_of_mem_take ha,rfl⟩
     ·exact .inr ⟨a,List.mem_of_mem_take ha,rfl⟩
    ·rintro(⟨a,ha,rfl⟩|⟨a,ha,rfl⟩)
     ·exact .inl ⟨a,List.mem_of_mem_drop ha,rfl⟩
     ·exact .inr ⟨a,List.mem_of_mem_drop ha,rfl⟩
   split at h
   ·rename_i x hx;exact hs.1 (lq hx)
   ·exact hs.2 (kO h)
 | unit=>intro u N M c bx h;cases h
theorem B9{mem:Nat→Option aR}{t:Ty}{v:au}{x:t.den}{val:Value}(hv:br γ mem w v .val [val])(h:BS t v=some x):∃cs,aX w γ.I t x cs∧val=bA t cs:=by
 unfold BS at h;split at h
 ·rename_i u y;obtain⟨q,hq⟩:=Ty.eW h;subst q;subst hq;exact cq.1 hv
 ·split at h
  ·rename_i e;obtain rfl:=aq h;obtain rfl:val=_:=by simpa [br] using hv
   exact⟨[.slice none 0 0],.inl ⟨⟨none,rfl⟩,rfl⟩,rfl⟩
  ·cases h
 ·cases h
theorem yA{t:Ty}{v:au}{x:t.den}(h:toS t v=some x):v=.data t x:=by
 unfold toS at h;split at h
 ·obtain⟨q,hq⟩:=Ty.eW h;subst q;subst hq;rfl
 ·cases h
theorem yB{mem:Nat→Option aR}:∀{o:OT} {u:o.den} {N M:List (Nat×Nat)},N.length=o.nr→M.length=o.nb→(aK N M).Nodup→(∀c bx,dZ o u N M c=some bx→mem c=some bx)→ru mem o u N M:=by
 intro o;induction o with
 | dat t=>intro u N M _ _ _ _;trivial
 | buf e bX =>
   intro u N M _ hM _ h;cases M with
   | nil=>cases hM
   | cons p r=>exact⟨p.1,p.2,r,rfl,h p.1 _ (by unfold dZ;dsimp only;rw[wH];rfl)⟩
 | ref tid o ih =>
   intro u N M hN hM hd h;cases N with
   | nil=>cases hN
   | cons p r =>
     refine⟨p.1,p.2,r,rfl,h p.1 _ (by unfold dZ;dsimp only;rw[wH];rfl),ih (by simpa [OT.nr] using hN) hM ?_ fun c bx hc=>?_⟩
     ·unfold aK at hd⊢;simp only[jj,zO,BL] at hd;exact hd.2
     ·refine h c bx ?_;have hne:Nat.beq c p.1=false:=by
       cases hq:Nat.beq c p.1 with
       | false=>rfl
       | true =>
         have hm:=gB hc;rw[cK hq] at hm;unfold aK at hd hm;simp only[jj,zO,BL] at hd;exact absurd hm hd.1
      unfold dZ;dsimp only;rw[hne];exact hc
 | pair p q lq kO =>
   intro u N M hN hM hd h;have e1:N.take p.nr++N.drop p.nr=N:=wC ..;have e2:M.take p.nb++M.drop p.nb=M:=wC ..;simp only[OT.nr,OT.nb] at hN hM;have hd':((N.take p.nr).map (·.1)++(N.drop p.nr).map (·.1)++((M.take p.nb).map (·.1)++(M.drop p.nb).map (·.1))).Nodup:=by
    rw[←nN,←nN,e1,e2];exact hd
   have d1:(aK (N.take p.nr) (M.take p.nb)).Nodup:=by
    unfold aK;refine hd'.sublist ?_;exact List.Sublist.append (F6 _ _) (F6 _ _)
   have d2:(aK (N.drop p.nr) (M.drop p.nb)).Nodup:=by
    unfold aK;refine hd'.sublist ?_;exact List.Sublist.append (F5 _ _) (F5 _ _)
   have JD:∀c,c∈aK (N.take p.nr) (M.take p.nb)→c∉aK (N.drop p.nr) (M.drop p.nb):=by
    intro c h1 h2;unfold aK at h1 h2;rw[List.nodup_append] at hd';obtain⟨x1,x2,x3⟩:=hd';rw[List.nodup_append] at x1 x2;rcases List.mem_append.1 h1 with a|a<;>rcases List.mem_append.1 h2 with b|b
    ·exact x1.2.2 c a c b rfl
    ·exact x3 c (oQ _ a) c (nU _ b) rfl
    ·exact x3 c (nU _ b) c (oQ _ a) rfl
    ·exact x2.2.2 c a c b rfl
   refine⟨lq (by rw[ig];omega) (by rw[ig];omega) d1 fun c bx hc=>h c bx ?_,kO (by rw[wD];omega) (by rw[wD];omega) d2 fun c bx hc=>h c bx ?_⟩
   ·show(match dZ p u.1 (N.take p.nr) (M.take p.nb) c with|some x=>some x|none=>_)=some bx
    rw[hc]
   ·show(match dZ p u.1 (N.take p.nr) (M.take p.nb) c with|some x=>some x|none=>dZ q u.2 (N.drop p.nr) (M.drop p.nb) c)=some bx
    cases hq:dZ p u.1 (N.take p.nr) (M.take p.nb) c with
    | none=>exact hc
    | some x=>exact absurd (gB hc) (JD c (gB hq))
 | unit=>intro u N M _ _ _ _;trivial
def ef(γ:Gh)(N:List (Nat×Nat))(bs:List Nat):Prop:=N.map (fun p=>(γ.loc p.1).map (·.1))=bs.map some
def gW(γ:Gh)(M:List (Nat×Nat))(ls:List (Option (Nat×Nat))):Prop:=M.map (fun p=>γ.loc p.1)=ls
theorem ef.split{N:List (Nat×Nat)}{b1 b2:List Nat}{n:Nat}(h:ef γ N (b1++b2))(hn:b1.length=n):ef γ (N.take n) b1∧ef γ (N.drop n) b2:=by
 unfold ef at h⊢;rw[List.map_take,List.map_drop,h,nN,ET (by simp[hn]),CX (by simp[hn])];exact⟨rfl,rfl⟩
theorem gW.split{M:List (Nat×Nat)}{l1 l2:List (Option (Nat×Nat))}{n:Nat}(h:gW γ M (l1++l2))(hn:l1.length=n):gW γ (M.take n) l1∧gW γ (M.drop n) l2:=by
 unfold gW at h⊢;rw[List.map_take,List.map_drop,h,ET hn,CX hn];exact⟨rfl,rfl⟩
theorem Dz.rep{mem:Nat→Option aR}{e:Ty}{bX:Nat}{l:List e.den}{L:Option (Nat×Nat)}{v:Value}{b ag:Nat}{bx:aR}(h:Dz w γ.I e bX l L v)
  (nT:γ.loc b=L) (hb:mem b=some bx) (aE:bx.ag=ag) (aQ:bx.buf=true) (hval:bx.val=.data (.slice e) l):br γ mem w (.whole b ag) .cells [v]:=by
 rcases h.2 with ⟨q1,q2,q3⟩|⟨b7,cap,cur,tid,fr,q1,q2,q3,q4,q5,q6,q7,q8,q9⟩
 ·exact⟨⟨v,rfl,by rw[q3];rfl⟩,cJ hb aE ⟨e,l.length,aQ,aR.bQ aQ hval,.inl ⟨by rw[←q1];exact nT,by rw[q3]⟩⟩⟩
 ·exact⟨⟨v,rfl,by rw[q2];rfl⟩,cJ hb aE ⟨e,l.length,aQ,aR.bQ aQ hval,.inr ⟨b7,cap,by rw[←q1];exact nT,by rw[q2]⟩⟩⟩
theorem Bq{mem:Nat→Option aR}:∀{o:OT} {u:o.den} {cs:List Value} {bs:List Nat} {ls:List (Option (Nat×Nat))} {N M:List (Nat×Nat)},mS w γ.I o u cs bs ls→ef γ N bs→gW γ M ls→ru mem o u N M →
  br γ mem w (sY o u N M) .cells cs:=by
 intro o;induction o with
 | dat t=>intro u cs bs ls N M h _ _ _;exact h.1
 | buf e bX =>
   intro u cs bs ls N M h hN hM hm;obtain⟨L,v,rfl,rfl,rfl,h1⟩:=h;obtain⟨b,vr,r,rfl,hb⟩:=hm;unfold gW at hM;simp only[jj,BK] at hM;exact h1.rep hM.1 hb rfl rfl rfl
 | ref tid o ih =>
   intro u cs bs ls N M h hN hM hm;obtain⟨blk,r,rfl,rfl,_,cur,t',fr,_,_,_,h1⟩:=h;obtain⟨b,vr,r',rfl,hb,_⟩:=hm;unfold ef at hN;simp only[jj,BK] at hN;obtain⟨q,hq,he⟩:=Option.map_eq_some_iff.1 hN.1;refine⟨⟨_,rfl,rfl⟩,cJ hb rfl ⟨blk,q.2,?_,rfl⟩⟩;rw[hq,←he]
 | pair p q lq kO =>
   intro u cs bs ls N M h hN hM hm;obtain⟨c1,c2,b1,b2,l1,l2,rfl,rfl,rfl,h1,h2⟩:=h;obtain⟨n1,n2⟩:=hN.split h1.len.1;obtain⟨m1,m2⟩:=hM.split h1.len.2;exact⟨c1,c2,rfl,lq h1 n1 m1 hm.1,kO h2 n2 m2 hm.2⟩
 | unit=>intro u cs bs ls N M h _ _ _;rw[h.1];exact rfl
theorem vS{mem:Nat→Option aR}:∀{o:OT} {u:o.den} {cs:List Value} {bs:List Nat} {ls:List (Option (Nat×Nat))} {N M:List (Nat×Nat)},mS w γ.I o u cs bs ls→ef γ N bs→gW γ M ls→ru mem o u N M →
  ∀{c:Nat} {bx:aR},dZ o u N M c=some bx→bB γ mem w c bx∧bx.ro=false∧∀blk k,γ.loc c=some (blk,k)→blk∈bI bs ls∧(∃x,w.heap[blk]?=some x)∧∀o,¬γ.I blk o:=by
 intro o;induction o with
 | dat t=>intro u cs bs ls N M _ _ _ _ c bx h;cases h
 | buf e bX =>
   intro u cs bs ls N M h hN hM hm c bx hc;obtain⟨L,v,rfl,rfl,rfl,h1⟩:=h;obtain⟨b,vr,r,rfl,hb⟩:=hm;unfold gW at hM;simp only[jj,BK] at hM;unfold dZ at hc;dsimp only at hc;cases hq:Nat.beq c b with
   | false=>rw[hq] at hc;cases hc
   | true =>
     rw[hq] at hc;obtain rfl:=cK hq;obtain rfl:=aq hc;refine⟨?_,rfl,fun blk k hl=>?_⟩
     ·unfold bB;refine⟨e,u,rfl,h1.1,?_⟩;rcases h1.2 with ⟨q1,q2,q3⟩|⟨b7,cap,cur,tid,fr,q1,q2,q3,q4,q5,q6,q7,q8,q9,Gs⟩
      ·exact .inl ⟨by rw[hM.1];exact q1,q2⟩
      ·exact .inr ⟨b7,cap,cur,tid,fr,by rw[hM.1];exact q1,q3,q4,q5,q6,q7,q8,Gs⟩
     ·rcases h1.2 with ⟨q1,q2,q3⟩|⟨b7,cap,cur,tid,fr,q1,q2,q3,q4,q5,q6,q7,q8,q9,Gs⟩
      ·rw[hM.1,q1] at hl;cases hl
      ·rw[hM.1,q1] at hl;obtain⟨rfl,rfl⟩:=bY (aq hl);exact⟨by simp[bI,q1],⟨_,q3⟩,q9⟩
 | ref tid o ih =>
   intro u cs bs ls N M h hN hM hm c bx hc;obtain⟨blk,r,rfl,rfl,hfree,cur,t',fr,k1,k2,k3,h1⟩:=h;obtain⟨b,vr,r',rfl,hb,hm'⟩:=hm;unfold ef at hN;simp only[jj,BK] at hN;obtain⟨q,hq,he⟩:=Option.map_eq_some_iff.1 hN.1;have Fi:γ.loc b=some (blk,q.2):=by rw[hq,←he]
   unfold dZ at hc;dsimp only at hc;cases hcb:Nat.beq c b with
   | false =>
     rw[hcb] at hc;obtain⟨g1,g2,g3⟩:=ih h1 hN.2 hM hm' hc;refine⟨g1,g2,fun b7 k hl=>?_⟩;obtain⟨j1,j2⟩:=g3 b7 k hl;refine⟨?_,j2⟩;unfold bI at j1⊢;exact jx _ j1
   | true =>
     rw[hcb] at hc;obtain rfl:=cK hcb;obtain rfl:=aq hc;refine⟨?_,rfl,fun b7 k hl=>?_⟩
     ·unfold bB;exact⟨blk,q.2,cur,t',fr,Fi,k1,k2,k3,Bq h1 hN.2 hM hm'⟩
     ·rw[Fi] at hl;obtain⟨rfl,rfl⟩:=bY (aq hl);exact⟨by simp[bI],⟨_,k1⟩,hfree⟩
 | pair p q lq kO =>
   intro u cs bs ls N M h hN hM hm c bx hc;obtain⟨c1,c2,b1,b2,l1,l2,rfl,rfl,rfl,h1,h2⟩:=h;obtain⟨n1,n2⟩:=hN.split h1.len.1;obtain⟨m1,m2⟩:=hM.split h1.len.2;have hin:∀{blk},(blk∈bI b1 l1∨blk∈bI b2 l2)→blk∈bI (b1++b2) (l1++l2):=by
    intro blk;unfold bI;simp only[Gd,xY];rintro((a|a)|(a|a))
    ·exact .inl (.inl a)
    ·exact .inr (.inl a)
    ·exact .inl (.inr a)
    ·exact .inr (.inr a)
   unfold dZ at hc;split at hc
   ·rename_i x hx;obtain rfl:=aq hc;obtain⟨g1,g2,g3⟩:=lq h1 n1 m1 hm.1 hx;exact⟨g1,g2,fun blk k hl=>⟨hin (.inl (g3 blk k hl).1),(g3 blk k hl).2⟩⟩
   ·obtain⟨g1,g2,g3⟩:=kO h2 n2 m2 hm.2 hc;exact⟨g1,g2,fun blk k hl=>⟨hin (.inr (g3 blk k hl).1),(g3 blk k hl).2⟩⟩
 | unit=>intro u cs bs ls N M _ _ _ _ c bx h;cases h
def Handed(mem:Nat→Option aR)(p:Nat×Nat):Prop:=∃bx,mem p.1=some bx∧bx.ag=p.2∧bx.lk=false∧bx.ro=false
theorem w7{mem:Nat→Option aR}(hm:aN B γ mem w){b blk k:Nat}{bx:aR}(hb:mem b=some bx)(hro:bx.ro=false)(hl:γ.loc b=some (blk,k))(o:Nat):¬γ.I blk o:=fun hi=>by
 have:=(hm.sep b bx blk k o hb hl hi).1;rw[hro] at this;cases this
theorem vT{mem:Nat→Option aR}(hm:aN B γ mem w):∀{o:OT} {v:au} {cs:List Value} {u:o.den} {N M:List (Nat×Nat)},br γ mem w v .cells cs→bV mem o v=some (u,N,M) →
  ∃bs,ef γ N bs∧mS w γ.I o u cs bs (M.map fun p=>γ.loc p.1)∧∀p∈N++M,Handed mem p:=by
 intro o;induction o with
 | dat t =>
   intro v cs u N M hv h;unfold bV at h;split at h
   ·rename_i x hx;obtain⟨rfl,q⟩:=bY (aq h);obtain⟨rfl,rfl⟩:=bY q;rw[yA hx] at hv;exact⟨[],rfl,⟨hv,rfl,rfl⟩,fun p hp=>by cases hp⟩
   ·cases h
 | buf e bX =>
   intro v cs u N M hv h;unfold bV at h;split at h
   case h_2=>cases h
   rename_i b ag;split at h
   case h_2=>cases h
   rename_i bx hb;cases hcd:(Nat.beq bx.ag ag&&bx.buf&&!bx.lk&&!bx.ro&&Nat.beq bx.tid bX&&Nat.blt 0 e.size) with
   | false=>rw[hcd] at h;cases h
   | true =>
     rw[hcd] at h;simp only[cA,ny] at hcd;obtain⟨⟨⟨⟨⟨aE,aQ⟩,hlk⟩,hro⟩,de⟩,hsz⟩:=hcd;have aE:=cK aE;have de:=cK de;have hsz:0<e.size:=by simpa using hsz
     simp only[gD] at h;split at h
     case h_2=>cases h
     rename_i t l0 hval;split at h
     case h_2=>cases h
     rename_i l hl;obtain⟨rfl,q⟩:=bY (aq h);obtain⟨rfl,rfl⟩:=bY q;obtain⟨rfl,rfl⟩:=eO hl;obtain⟨v,rfl⟩:∃v,cs=[v]:=by obtain⟨⟨v,e,_⟩,_⟩:=hv;exact⟨v,e⟩
     obtain⟨e',n,k1,k2,k3⟩:=aF hb aE hv.2;rw[aR.bQ aQ hval] at k2;obtain⟨rfl,rfl⟩:=bY (aq k2);have eH:=hm.boxes b bx hb;unfold bB at eH;rw[aQ] at eH;obtain⟨t2,l2,a1,a2,a3⟩:=eH;rw[hval] at a1;injection a1 with a1 a4
     injection a1 with a1
     subst a1;obtain rfl:=eq_of_heq a4;refine⟨[],rfl,⟨γ.loc b,v,rfl,rfl,rfl,hsz,?_⟩,fun p hp=>?_⟩
     ·rcases k3 with ⟨k3,k4⟩|⟨blk,cap,k3,k4⟩
      ·rcases a3 with ⟨a3,a5⟩|⟨blk,cap,cur,tid,fr,a3,_⟩
       ·exact .inl ⟨a3,a5,sP k4⟩
       ·rw[k3] at a3;cases a3
      ·rcases a3 with ⟨a3,a5⟩|⟨b7,cap',cur,tid,fr,a3,a5,a6,a7,a8,a9,K4,K5⟩
       ·rw[k3] at a3;cases a3
       ·rw[k3] at a3;obtain⟨rfl,rfl⟩:=bY (aq a3);exact .inr ⟨blk,cap,cur,tid,fr,k3,sP k4,a5,a6,by rw[←de];exact a7,a8,a9,K4,fun o=>w7 hm hb hro k3 o,K5⟩
     ·simp only[zP,List.mem_singleton] at hp;subst hp;exact⟨bx,hb,aE,hlk,hro⟩
 | ref tid o ih =>
   intro v cs u N M hv h;unfold bV at h;split at h
   case h_2=>cases h
   rename_i b ag;split at h
   case h_2=>cases h
   rename_i bx hb;cases hcd:(Nat.beq bx.ag ag&&!bx.buf&&!bx.lk&&!bx.ro&&Nat.beq bx.tid tid) with
   | false=>rw[hcd] at h;cases h
   | true =>
     rw[hcd] at h;simp only[cA,ny] at hcd;obtain⟨⟨⟨⟨aE,aQ⟩,hlk⟩,hro⟩,de⟩:=hcd;have aE:=cK aE;have de:=cK de;simp only[gD] at h;split at h
     case h_2=>cases h
     rename_i u1 N1 M1 hr;obtain⟨rfl,q⟩:=bY (aq h);obtain⟨rfl,rfl⟩:=bY q;obtain⟨blk,k,j1,j2⟩:=aF hb aE hv.2;simp only[bC] at j2;have eH:=hm.boxes b bx hb;unfold bB at eH;rw[aQ] at eH;obtain⟨b7,cap,cur,t',fr,a1,a2,a3,a4,a5⟩:=eH;rw[j1] at a1;obtain⟨rfl,rfl⟩:=bY (aq a1);obtain⟨bs,g1,g2,g3⟩:=ih a5 hr;refine⟨blk::bs,?_,⟨blk,bs,j2,rfl,fun o=>w7 hm hb hro j1 o,cur,t',fr,a2,a3,by rw[←de];exact a4,g2⟩,fun p hp=>?_⟩
     ·unfold ef at g1⊢;simp only[jj,g1,j1];rfl
     ·rcases List.mem_cons.1 (by simpa using hp:p∈(b,ag)::(N1++M1)) with rfl|hp
      ·exact⟨bx,hb,aE,hlk,hro⟩
      ·exact g3 p hp
 | pair p q lq kO =>
   intro v cs u N M hv h;unfold bV at h;split at h
   case h_2=>cases h
   rename_i a b;split at h
   case h_2=>cases h
   rename_i x N1 M1 y N2 M2 h1 h2;obtain⟨rfl,z⟩:=bY (aq h);obtain⟨rfl,rfl⟩:=bY z;obtain⟨c1,c2,rfl,v1,v2⟩:=hv;obtain⟨b1,g1,g2,g3⟩:=lq v1 h1;obtain⟨b2,k1,k2,k3⟩:=kO v2 h2;refine⟨b1++b2,?_,⟨c1,c2,b1,b2,M1.map fun p=>γ.loc p.1,M2.map fun p=>γ.loc p.1,rfl,rfl,by rw[nN],g2,k2⟩,fun r hr=>?_⟩
   ·unfold ef at g1 k1⊢;rw[nN,nN,g1,k1]
   ·simp only[xY] at hr;rcases hr with (hr|hr)|(hr|hr)
    ·exact g3 r (oQ _ hr)
    ·exact k3 r (oQ _ hr)
    ·exact g3 r (nU _ hr)
    ·exact k3 r (nU _ hr)
 | unit =>
   intro v cs u N M hv h;unfold bV at h;split at h
   case h_2=>cases h
   obtain⟨rfl,z⟩:=bY (aq h);obtain⟨rfl,rfl⟩:=bY z;exact⟨[],rfl,⟨hv,rfl,rfl⟩,fun p hp=>by cases hp⟩
theorem qE{mem:Nat→Option aR}:∀{o:OT} {v:au} {u:o.den} {N M:List (Nat×Nat)},bV mem o v=some (u,N,M)→N.length=o.nr∧M.length=o.nb:=by
 intro o;induction o with
 | dat t =>
   intro v u N M h;unfold bV at h;split at h
   ·obtain⟨_,q⟩:=bY (aq h);obtain⟨rfl,rfl⟩:=bY q;exact⟨rfl,rfl⟩
   ·cases h
 | buf e bX =>
   intro v u N M h;unfold bV at h;split at h
   case h_2=>cases h
   split at h
   case h_2=>cases h
   rename_i bx hb;cases hcd:(Nat.beq bx.ag _&&bx.buf&&!bx.lk&&!bx.ro&&Nat.beq bx.tid bX&&Nat.blt 0 e.size) with
   | false=>rw[hcd] at h;cases h
   | true =>
     rw[hcd] at h;simp only[gD] at h;split at h
     case h_2=>cases h
     split at h
     case h_2=>cases h
     obtain⟨_,q⟩:=bY (aq h);obtain⟨rfl,rfl⟩:=bY q;exact⟨rfl,rfl⟩
 | ref tid o ih =>
   intro v u N M h;unfold bV at h;split at h
   case h_2=>cases h
   split at h
   case h_2=>cases h
   rename_i bx hb;cases hcd:(Nat.beq bx.ag _&&!bx.buf&&!bx.lk&&!bx.ro&&Nat.beq bx.tid tid) with
   | false=>rw[hcd] at h;cases h
   | true =>
     rw[hcd] at h;simp only[gD] at h;split at h
     case h_2=>cases h
     rename_i u1 N1 M1 hr;obtain⟨_,q⟩:=bY (aq h);obtain⟨rfl,rfl⟩:=bY q;have:=ih hr;exact⟨by simp[OT.nr,this.1],this.2⟩
 | pair p q lq kO =>
   intro v u N M h;unfold bV at h;split at h
   case h_2=>cases h
   split at h
   case h_2=>cases h
   rename_i x N1 M1 y N2 M2 h1 h2;obtain⟨_,z⟩:=bY (aq h);obtain⟨rfl,rfl⟩:=bY z;have a:=lq h1;have b:=kO h2;simp[OT.nr,OT.nb,a.1,a.2,b.1,b.2]
 | unit =>
   intro v u N M h;unfold bV at h;split at h
   case h_2=>cases h
   obtain⟨_,z⟩:=bY (aq h);obtain⟨rfl,rfl⟩:=bY z;exact⟨rfl,rfl⟩
def au.G3:au→Option (Ty×Nat)
 | .data (.arr n e) _=>some (e,n)
 | _=>none
theorem DA{bx:aR}(h:bx.buf=false):bx.row=bx.val.G3:=by
 unfold aR.row;rw[h];cases hv:bx.val with
 | data t x=>cases t<;>rfl
 | _=>rfl
theorem Aj{mem:Nat→Option aR}{o:OT}{v:au}{u y:o.den}{N M N' M':List (Nat×Nat)}(h:bV mem o v=some (u,N,M)):(sY o y N' M').G3=v.G3:=by
 unfold bV at h;cases o with
 | dat t =>
   dsimp only at h;split at h
   ·rename_i x hx;rw[yA hx];cases t<;>rfl
   ·cases h
 | buf e bX =>
   dsimp only at h;split at h
   case h_2=>cases h
   cases M'<;>rfl
 | ref tid o =>
   dsimp only at h;split at h
   case h_2=>cases h
   cases N'<;>rfl
 | pair p q =>
   dsimp only at h;split at h
   case h_2=>cases h
   rfl
 | unit =>
   dsimp only at h;split at h
   case h_2=>cases h
   rfl
theorem vU{mem:Nat→Option aR}:∀{o:OT} {v:au} {u y:o.den} {N M:List (Nat×Nat)} {c:Nat} {bx:aR},bV mem o v=some (u,N,M)→dZ o y N (M.map fun p=>(p.1,p.2+1)) c=some bx →
  (∃cx,(c,cx.ag)∈N∧mem c=some cx∧bx.ag=cx.ag∧bx.buf=cx.buf∧bx.row=cx.row)∨∃cx,(c,cx.ag)∈M∧mem c=some cx∧bx.ag=cx.ag+1:=by
 intro o;induction o with
 | dat t=>intro v u y N M c bx _ h;cases h
 | buf e bX =>
   intro v u y N M c bx h hc;unfold bV at h;split at h
   case h_2=>cases h
   rename_i b ag;split at h
   case h_2=>cases h
   rename_i b0 hb;cases hcd:(Nat.beq b0.ag ag&&b0.buf&&!b0.lk&&!b0.ro&&Nat.beq b0.tid bX&&Nat.blt 0 e.size) with
   | false=>rw[hcd] at h;cases h
   | true =>
     rw[hcd] at h;simp only[cA] at hcd;have aE:=cK hcd.1.1.1.1.1;simp only[gD] at h;split at h
     case h_2=>cases h
     split at h
     case h_2=>cases h
     obtain⟨_,q⟩:=bY (aq h);obtain⟨rfl,rfl⟩:=bY q;unfold dZ at hc;simp only[jj,List.map_nil] at hc;cases hq:Nat.beq c b with
     | false=>rw[hq] at hc;cases hc
     | true =>
       rw[hq] at hc;obtain rfl:=cK hq;obtain rfl:=aq hc;exact .inr ⟨b0,by rw[aE];simp,hb,by rw[aE]⟩
 | ref tid o ih =>
   intro v u y N M c bx h hc;unfold bV at h;split at h
   case h_2=>cases h
   rename_i b ag;split at h
   case h_2=>cases h
   rename_i b0 hb;cases hcd:(Nat.beq b0.ag ag&&!b0.buf&&!b0.lk&&!b0.ro&&Nat.beq b0.tid tid) with
   | false=>rw[hcd] at h;cases h
   | true =>
     rw[hcd] at h;simp only[cA,ny] at hcd;have aE:=cK hcd.1.1.1.1;simp only[gD] at h;split at h
     case h_2=>cases h
     rename_i u1 N1 M1 hr;obtain⟨_,q⟩:=bY (aq h);obtain⟨rfl,rfl⟩:=bY q;unfold dZ at hc;dsimp only at hc;cases hq:Nat.beq c b with
     | false =>
       rw[hq] at hc;rcases ih hr hc with ⟨cx,g1,g2⟩|g
       ·exact .inl ⟨cx,jx _ g1,g2⟩
       ·exact .inr g
     | true =>
       rw[hq] at hc;obtain rfl:=cK hq;obtain rfl:=aq hc;refine .inl ⟨b0,by rw[aE];simp,hb,aE.symm,hcd.1.1.1.2.symm,?_⟩;rw[DA hcd.1.1.1.2,DA rfl];exact Aj hr
 | pair p q lq kO =>
   intro v u y N M c bx h hc;unfold bV at h;split at h
   case h_2=>cases h
   split at h
   case h_2=>cases h
   rename_i x N1 M1 y1 N2 M2 h1 h2;obtain⟨_,z⟩:=bY (aq h);obtain⟨rfl,rfl⟩:=bY z;have a:=qE h1;unfold dZ at hc;rw[nN,ET a.1,CX a.1,ET (by simp[a.2]),CX (by simp[a.2])] at hc;split at hc
   ·rename_i x hx;obtain rfl:=aq hc;rcases lq h1 hx with ⟨cx,g1,g2⟩|⟨cx,g1,g2⟩
    ·exact .inl ⟨cx,oQ _ g1,g2⟩
    ·exact .inr ⟨cx,oQ _ g1,g2⟩
   ·rcases kO h2 hc with ⟨cx,g1,g2⟩|⟨cx,g1,g2⟩
    ·exact .inl ⟨cx,nU _ g1,g2⟩
    ·exact .inr ⟨cx,nU _ g1,g2⟩
 | unit=>intro v u y N M c bx _ h;cases h
theorem qF:∀{o:OT} {u:o.den} {N M:List (Nat×Nat)} {c:Nat},N.length=o.nr→M.length=o.nb→c∈aK N M→∃bx,dZ o u N M c=some bx:=by
 intro o;induction o with
 | dat t =>
   intro u N M c hN hM hc;rw[List.length_eq_zero_iff.1 hN,List.length_eq_zero_iff.1 hM] at hc;cases hc
 | buf e bX =>
   intro u N M c hN hM hc;rw[List.length_eq_zero_iff.1 hN] at hc
   match M,hM,hc with
   | [p],_,hc =>
     have:c=p.1:=by simpa [aK] using hc
     subst this;exact⟨_,by unfold dZ;dsimp only;rw[wH];rfl⟩
 | ref tid o ih =>
   intro u N M c hN hM hc;cases N with
   | nil=>cases hN
   | cons p r =>
     unfold dZ;dsimp only;cases hq:Nat.beq c p.1 with
     | true=>exact⟨_,rfl⟩
     | false =>
       refine ih (by simpa [OT.nr] using hN) hM ?_;unfold aK at hc⊢;simp only[jj,zO,wG] at hc;rcases hc with rfl|hc
       ·rw[wH] at hq;cases hq
       ·exact hc
 | pair p q lq kO =>
   intro u N M c hN hM hc;simp only[OT.nr,OT.nb] at hN hM;have e1:N.take p.nr++N.drop p.nr=N:=wC ..;have e2:M.take p.nb++M.drop p.nb=M:=wC ..;unfold dZ;cases hq:dZ p u.1 (N.take p.nr) (M.take p.nb) c with
   | some x=>exact⟨x,rfl⟩
   | none =>
     refine kO (by rw[wD];omega) (by rw[wD];omega) ?_;have hno:c∉aK (N.take p.nr) (M.take p.nb):=fun hin=>by
      obtain⟨bx,hb⟩:=lq (u:=u.1) (by rw[ig];omega) (by rw[ig];omega) hin;rw[hq] at hb;cases hb
     unfold aK at hc hno⊢;rw[←e1,←e2,nN,nN] at hc;simp only[xY] at hc hno⊢;rcases hc with (hc|hc)|(hc|hc)
     ·exact absurd (.inl hc) hno
     ·exact .inl hc
     ·exact absurd (.inr hc) hno
     ·exact .inr hc
 | unit =>
   intro u N M c hN hM hc;rw[List.length_eq_zero_iff.1 hN,List.length_eq_zero_iff.1 hM] at hc;cases hc
def dN:List (Nat×Nat)→List (Option (Nat×Nat))→(Nat→Option (Nat×Nat))→Nat→Option (Nat×Nat)
 | (b,_)::M,L::ls,loc,c=>if c=b then L else dN M ls loc c
 | _,_,loc,c=>loc c
theorem oH{loc:Nat→Option (Nat×Nat)}:∀{M:List (Nat×Nat)} {ls:List (Option (Nat×Nat))} {c:Nat},c∉M.map (·.1)→dN M ls loc c=loc c:=by
 intro M;induction M with
 | nil=>intro ls c _;cases ls<;>rfl
 | cons p r ih =>
   intro ls c h;cases ls with
   | nil=>rfl
   | cons L ls =>
     simp only[jj,wG,not_or] at h;unfold dN;rw[dW h.1];exact ih h.2
theorem lW{loc:Nat→Option (Nat×Nat)}:∀{M:List (Nat×Nat)} {ls:List (Option (Nat×Nat))},(M.map (·.1)).Nodup→M.length=ls.length→M.map (fun p=>dN M ls loc p.1)=ls:=by
 intro M;induction M with
 | nil=>intro ls _ h;cases ls with|nil=>rfl|cons _ _=>cases h
 | cons p r ih =>
   intro ls hd h;cases ls with
   | nil=>cases h
   | cons L ls =>
     simp only[jj,BL] at hd;have:r.map (fun q=>dN (p::r) (L::ls) loc q.1)=ls:=by
      refine Eq.trans (BI fun q hq=>?_) (ih hd.2 (by simpa using h));have hne:q.1≠p.1:=fun e=>hd.1 (by rw[←e];exact List.mem_map.2 ⟨q,hq,rfl⟩);show(if q.1=p.1 then L else dN r ls loc q.1)=_
      rw[dW hne]
     rw[jj,this];show(if p.1=p.1 then L else _)::ls=L::ls
     rw[fF rfl]
theorem qG{loc:Nat→Option (Nat×Nat)}{M:List (Nat×Nat)}{ls:List (Option (Nat×Nat))}(hd:(M.map (·.1)).Nodup)(hl:M.length=ls.length){c:Nat}(hc:c∈M.map (·.1)):∃i v:Nat,M[i]?=some (c,v)∧ls[i]?=some (dN M ls loc c):=by
 obtain⟨p,hp,rfl⟩:=List.mem_map.1 hc;obtain⟨i,hi,Gt⟩:=CT hp;refine⟨i,p.2,by rw[qg hi,Gt],?_⟩;have:=lW (loc:=loc) hd hl
 conv=>lhs;rw[←this]
 rw[sQ,qg hi,Gt];rfl
theorem dJ{U:OT}{y:U.den}{N M:List (Nat×Nat)}{σ:St}{c:Nat}:(eY U y N M σ).mem c=match dZ U y N (M.map fun p=>(p.1,p.2+1)) c with|some bx=>some bx|none=>σ.mem c:=rfl
theorem jN{N M:List (Nat×Nat)}:aK N (M.map fun p=>(p.1,p.2+1))=aK N M:=by
 unfold aK;rw[Bj];rfl
theorem DB{blk k k':Nat}:∀{l:List (Option (Nat×Nat))} {i j:Nat},(l.filterMap fun L=>L.map (·.1)).Nodup→l[i]?=some (some (blk,k))→l[j]?=some (some (blk,k'))→i=j:=by
 intro l;induction l with
 | nil=>intro i j _ h;simp at h
 | cons L r ih =>
   intro i j hn hi hj;have hmem:∀(q kq:Nat),r[q]?=some (some (blk,kq))→blk∈r.filterMap fun L=>L.map (·.1):=fun q kq hq=>List.mem_filterMap.2 ⟨_,zL hq,rfl⟩;cases i with
   | zero =>
     cases j with
     | zero=>rfl
     | succ j =>
       obtain rfl:=aq (show some L=_ from hi);rw[EM (f:=fun L:Option (Nat×Nat)=>L.map (·.1)) (a:=some (blk,k)) (b:=blk) rfl] at hn;exact absurd (hmem j k' (by simpa using hj)) (List.nodup_cons.1 hn).1
   | succ i =>
     cases j with
     | zero =>
       obtain rfl:=aq (show some L=_ from hj);rw[EM (f:=fun L:Option (Nat×Nat)=>L.map (·.1)) (a:=some (blk,k')) (b:=blk) rfl] at hn;exact absurd (hmem i k (by simpa using hi)) (List.nodup_cons.1 hn).1
     | succ j =>
       have hn':(r.filterMap fun L=>L.map (·.1)).Nodup:=by
        cases hL:L.map (·.1) with
        | none=>rw[F7 hL] at hn;exact hn
        | some q=>rw[EM hL] at hn;exact(List.nodup_cons.1 hn).2
       have:=ih hn' (by simpa using hi) (by simpa using hj);omega
theorem aN.refs(h:aN B γ σ.mem w){U:OT}{V:au}{u y:U.den}{N M:List (Nat×Nat)}{eo:List Value}{bs:List Nat}{ls':List (Option (Nat×Nat))}(hr:bV σ.mem U V=some (u,N,M))(hd:(aK N M).Nodup)(hN:ef γ N bs)
  (hH:∀p∈N++M,Handed σ.mem p) {G:eM} (hw:jI ⟨w.heap.size,(·∈bI bs (M.map fun p=>γ.loc p.1)),G⟩ w w') {I':Nat→Nat→Prop} (hI:∀b o,γ.I b o→I' b o) (G2:∀b o,I' b o→b<w'.heap.size)
  (hnew:∀b o,I' b o→¬γ.I b o→w.heap.size≤b∨b∈bI bs (M.map fun p=>γ.loc p.1)) (ha:mS w' I' U y eo bs ls') (hnd:(bI bs ls').Nodup) (hfr:∀blk∈bI [] ls',blk∈bI bs (M.map fun p=>γ.loc p.1)∨w.heap.size≤blk) :
  aN B ⟨I',dN M ls' γ.loc⟩ (eY U y N M σ).mem w'∧Ext B γ σ.mem w ⟨I',dN M ls' γ.loc⟩ (eY U y N M σ).mem w':=by
 have hlen:=qE hr;have hal:=ha.len;have Ja:M.length=ls'.length:=by rw[hlen.2,hal.2]
 have Jb:(M.map (·.1)).Nodup:=by unfold aK at hd;exact(List.nodup_append.1 hd).2.1
 have hNM:∀c,c∈N.map (·.1)→c∉M.map (·.1):=fun c h1 h2=>by unfold aK at hd;exact(List.nodup_append.1 hd).2.2 c h1 c h2 rfl
 have hold:∀blk,blk∈bI bs (M.map fun p=>γ.loc p.1)→∃b bx k,b∈aK N M∧σ.mem b=some bx∧bx.ro=false∧γ.loc b=some (blk,k)∧(b∈N.map (·.1)→blk∈bs):=by
  intro blk hb;unfold bI at hb;rcases List.mem_append.1 hb with hb|hb
  ·have:some blk∈N.map fun p=>(γ.loc p.1).map (·.1):=by rw[hN];exact List.mem_map.2 ⟨blk,hb,rfl⟩
   obtain⟨p,hp,he⟩:=List.mem_map.1 this;obtain⟨q,hq,he⟩:=Option.map_eq_some_iff.1 he;obtain⟨bx,j1,j2,j3,j4⟩:=hH p (oQ _ hp);exact⟨p.1,bx,q.2,oQ _ (List.mem_map.2 ⟨p,hp,rfl⟩),j1,j4,by rw[hq,←he],fun _=>hb⟩
  ·obtain⟨L,hL,he⟩:=List.mem_filterMap.1 hb;obtain⟨p,hp,rfl⟩:=List.mem_map.1 hL;obtain⟨q,hq,he⟩:=Option.map_eq_some_iff.1 he;obtain⟨bx,j1,j2,j3,j4⟩:=hH p (nU _ hp);exact⟨p.1,bx,q.2,nU _ (List.mem_map.2 ⟨p,hp,rfl⟩),j1,j4,by rw[hq,←he],fun Dr=>absurd (List.mem_map.2 ⟨p,hp,rfl⟩) (hNM _ Dr)⟩
 have hown:∀blk∈bI bs (M.map fun p=>γ.loc p.1),B.has blk∧blk<w.heap.size:=fun blk hb=>by
  obtain⟨b,bx,k,_,g2,_,g4,_⟩:=hold blk hb;exact h.fresh b blk k (by rw[g2];simp) g4
 have hfree:∀blk∈bI bs (M.map fun p=>γ.loc p.1),∀o,¬γ.I blk o:=fun blk hb o=>by
  obtain⟨b,bx,k,_,g2,g3,g4,_⟩:=hold blk hb;exact w7 h g2 g3 g4 o
 have hsame:∀k,k<w.heap.size→k∉bI bs (M.map fun p=>γ.loc p.1)→w'.heap[k]?=w.heap[k]?:=fun k hk hb=>hw.block k fun q=>by
  rcases q with q|q
  ·have:w.heap.size≤k:=q;omega
  ·exact hb q
 have G4:∀k,¬B.has k→k<w.heap.size:=fun k hk=>C6 fun q=>hk (.inl (gj h.base q));have K6:ef ⟨I',dN M ls' γ.loc⟩ N bs:=by
  unfold ef at hN⊢;rw[←hN];refine BI fun p hp=>?_;show(dN M ls' γ.loc p.1).map _=_
  rw[oH (hNM p.1 (List.mem_map.2 ⟨p,hp,rfl⟩))]
 have hL':gW ⟨I',dN M ls' γ.loc⟩ (M.map fun p=>(p.1,p.2+1)) ls':=by
  unfold gW;rw[Bj];exact lW Jb Ja
 have hin:ru (eY U y N M σ).mem U y N (M.map fun p=>(p.1,p.2+1)) :=
  yB hlen.1 (by rw[wF];exact hlen.2) (by rw[jN];exact hd) fun c bx hc=>by rw[dJ,hc]
 have Ak:∀{c bx},dZ U y N (M.map fun p=>(p.1,p.2+1)) c=some bx→_:=fun {c bx} hc=>vS (γ:=⟨I',dN M ls' γ.loc⟩) ha K6 hL' hin hc;have hout:∀{c},dZ U y N (M.map fun p=>(p.1,p.2+1)) c=none→c∉aK N M:=fun {c} hc hq=>by
  obtain⟨bx,hb⟩:=qF (u:=y) (M:=M.map fun p=>(p.1,p.2+1)) hlen.1 (by rw[wF];exact hlen.2) (by rw[jN];exact hq);rw[hc] at hb;cases hb
 have nT:∀{c},c∉M.map (·.1)→dN M ls' γ.loc c=γ.loc c:=fun hc=>oH hc;have hne:∀c,(eY U y N M σ).mem c≠none→σ.mem c≠none:=by
  intro c hc hq;apply hc;rw[dJ];cases hv:dZ U y N (M.map fun p=>(p.1,p.2+1)) c with
  | none=>exact hq
  | some bx =>
    rcases vU hr hv with ⟨cx,_,g,_⟩|⟨cx,_,g,_⟩
    ·rw[hq] at g;cases g
    ·rw[hq] at g;cases g
 have hx:Ext B γ σ.mem w ⟨I',dN M ls' γ.loc⟩ (eY U y N M σ).mem w' :=
  { below:=⟨hw.os,hw.tape,hw.output,hw.size,fun k hk=>hsame k (G4 k hk) fun hb=>hk (hown k hb).1⟩
    I:=hI
    jK:=fun b o x=>by
     by_cases hi:γ.I b o
     ·exact .inl hi
     ·rcases hnew b o x hi with q|q
      ·exact .inr (.inl (gj h.base q))
      ·exact .inr (hown b q).1
    cells:=fun b o hi=>dD (hsame b (h.jJ b o hi) fun hb=>hfree b hb o hi)
    boxes:=fun c cx hc=>by
     rw[dJ];cases hv:dZ U y N (M.map fun p=>(p.1,p.2+1)) c with
     | none=>exact⟨cx,hc,en _,fun _=>⟨nT fun q=>hout hv (nU _ q),rfl,rfl⟩⟩
     | some bx =>
       rcases vU hr hv with ⟨Kh,g1,g2,g3,g4,g5⟩|⟨Kh,g1,g2,g3⟩
       ·rw[hc] at g2;obtain rfl:=aq g2;exact⟨bx,rfl,wI g3.symm,fun _=>⟨nT (hNM c (List.mem_map.2 ⟨_,g1,rfl⟩)),g4,g5⟩⟩
       ·rw[hc] at g2;obtain rfl:=aq g2;exact⟨bx,rfl,by omega,fun e=>by omega⟩ }
 have hls:∀{c blk k},c∈M.map (·.1)→dN M ls' γ.loc c=some (blk,k)→blk∈bI [] ls':=fun {c blk k} hc he=>by
  obtain⟨i,v,h1,h2⟩:=qG (loc:=γ.loc) Jb Ja hc;rw[he] at h2;unfold bI;exact nU _ (List.mem_filterMap.2 ⟨_,zL h2,rfl⟩)
 have Gu:∀{c d blk k k'},c∈M.map (·.1)→σ.mem d≠none→dN M ls' γ.loc c=some (blk,k)→dN M ls' γ.loc d=some (blk,k')→c=d:=by
  intro c d blk k k' hc Ki e1 e2;have hb:=hls hc e1;by_cases Ca:d∈M.map (·.1)
  ·obtain⟨i,v,i1,i2⟩:=qG (loc:=γ.loc) Jb Ja hc;obtain⟨j,v',j1,j2⟩:=qG (loc:=γ.loc) Jb Ja Ca;rw[e1] at i2;rw[e2] at j2;have HQ:(ls'.filterMap fun L=>L.map (·.1)).Nodup:=by unfold bI at hnd;exact(List.nodup_append.1 hnd).2.1
   have hij:i=j:=by
    exact DB HQ i2 j2
   subst hij;rw[i1] at j1;exact(bY (aq j1)).1
  ·rw[nT Ca] at e2;have hlt:=(h.fresh d blk k' Ki e2).2;rcases hfr blk hb with hq|hq
   ·obtain⟨n,bx,kn,n1,n2,n3,n4,n5⟩:=hold blk hq;have JE:=h.inj n d blk kn k' (by rw[n2];simp) Ki n4 e2;subst JE;unfold aK at n1;rcases List.mem_append.1 n1 with n1|n1
    ·have h1:=n5 n1;unfold bI at hnd hb;rw[zP] at hb;exact absurd rfl ((List.nodup_append.1 hnd).2.2 blk h1 blk hb)
    ·exact absurd n1 Ca
   ·omega
 refine⟨?_,hx⟩;exact
  { b6:=h.pe hx
    base:=gj h.base hw.size
    boxes:=fun c cx hc=>by
     rw[dJ] at hc;cases hv:dZ U y N (M.map fun p=>(p.1,p.2+1)) c with
     | none =>
       rw[hv] at hc;replace hc:σ.mem c=some cx:=hc;have Kj:=hout hv;refine(h.boxes c cx hc).keep hx (nT fun q=>Kj (nU _ q)) fun blk k hl=>?_;refine hsame blk (h.fresh c blk k (by rw[hc];simp) hl).2 fun hb=>?_;obtain⟨b,bx,k',g1,g2,g3,g4,_⟩:=hold blk hb;have:=h.inj c b blk k k' (by rw[hc];simp) (by rw[g2];simp) hl g4;subst this;exact Kj g1
     | some bx =>
       rw[hv] at hc;obtain rfl:=aq hc;exact(Ak hv).1
    inj:=fun c d blk k k' hc hd' e1 e2=>by
     by_cases HR:c∈M.map (·.1)
     ·exact Gu HR (hne d hd') e1 e2
     ·by_cases Ca:d∈M.map (·.1)
      ·exact(Gu Ca (hne c hc) e2 e1).symm
      ·exact h.inj c d blk k k' (hne c hc) (hne d hd') ((nT HR).symm.trans e1) ((nT Ca).symm.trans e2)
    fresh:=fun c blk k hc hl=>by
     by_cases HR:c∈M.map (·.1)
     ·have hb:=hls HR hl;obtain⟨bx,gN⟩:=qF (u:=y) (M:=M.map fun p=>(p.1,p.2+1)) hlen.1 (by rw[wF];exact hlen.2) (by rw[jN];exact nU _ HR);obtain⟨_,_,g⟩:=Ak gN;obtain⟨_,⟨x,hx1⟩,_⟩:=g blk k hl;refine⟨?_,(Array.getElem?_eq_some_iff.1 hx1).1⟩;rcases hfr blk hb with q|q
      ·exact(hown blk q).1
      ·exact .inl (gj h.base q)
     ·have:=h.fresh c blk k (hne c hc) ((nT HR).symm.trans hl);exact⟨this.1,qh this.2 hw.size⟩
    jJ:=G2
    sep:=fun c cx blk k off hc hl hi=>by
     rw[dJ] at hc;cases hv:dZ U y N (M.map fun p=>(p.1,p.2+1)) c with
     | some bx =>
       obtain⟨_,_,g⟩:=Ak hv;exact absurd hi ((g blk k hl).2.2 off)
     | none =>
       rw[hv] at hc;replace hc:σ.mem c=some cx:=hc;have CL:γ.loc c=some (blk,k):=(nT fun q=>hout hv (nU _ q)).symm.trans hl;by_cases hi0:γ.I blk off
       ·exact h.sep c cx blk k off hc CL hi0
       ·have h2:=(h.fresh c blk k (by rw[hc];simp) CL).2;rcases hnew blk off hi hi0 with h1|h1
        ·omega
        ·obtain⟨b,bx,k',g1,g2,g3,g4,_⟩:=hold blk h1;have:=h.inj c b blk k k' (by rw[hc];simp) (by rw[g2];simp) CL g4;subst this;exact absurd g1 (hout hv) }
theorem qH{mem:Nat→Option aR}{p q:OT}{a b:au}{x:p.den}{y:q.den}{N M N' M':List (Nat×Nat)}(h1:bV mem p a=some (x,N,M))(h2:bV mem q b=some (y,N',M')):bV mem (.pair p q) (.mix a b)=some ((x,y),N++N',M++M'):=by
 simp only[bV,h1,h2];rfl
theorem vj:∀{ps:List Bool} {A:Ty} {U:OT} {vs:List au} {xs:List Value} {x:A.den} {u:U.den} {N M:List (Nat×Nat)},fO γ σ.mem w vs xs→dm σ ps A U vs=some (x,u,N,M) →
  ∃V eo,yz w γ.I ps A U x xs eo∧br γ σ.mem w V .cells eo∧bV σ.mem U V=some (u,N,M):=by
 intro ps;induction ps with
 | nil =>
   intro A U vs xs x u N M hv h;cases A<;>first|(cases h;done)|skip
   cases U<;>first|(cases h;done)|skip
   cases vs with
   | cons v r=>cases h
   | nil =>
     cases h;have hx:xs=[]:=by have:=hv.1;simpa using this
     exact⟨.data .unit (),[],⟨rfl,rfl,hx,rfl⟩,rfl,rfl⟩
 | cons p ps ih =>
   intro A U vs xs x u N M hv h;cases p with
   | false =>
     cases A<;>first|(cases h;done)|skip
     rename_i t A;cases vs with
     | nil=>cases h
     | cons v r =>
       simp only[dm] at h;split at h
       ·rename_i x1 y1 u1 q1 h1 h2;obtain⟨rfl,q⟩:=bY (aq h);obtain⟨rfl,rfl⟩:=bY q;obtain⟨val,rest,rfl,g1,g2⟩:=hv.cons;obtain⟨V,eo,k1,k2,k3⟩:=ih g2 h2;obtain⟨cs,c1,c2⟩:=B9 g1 h1;exact⟨V,eo,⟨cs,rest,by rw[c2],c1,k1⟩,k2,k3⟩
       ·cases h
   | true =>
     cases U<;>first|(cases h;done)|skip
     rename_i o U;cases o<;>first|(cases h;done)|skip
     rename_i tid o;cases vs with
     | nil=>cases h
     | cons v r =>
       simp only[dm] at h;split at h
       ·rename_i x1 N1 M1 y1 u1 N2 M2 h1 h2;cases h;obtain⟨val,rest,rfl,g1,g2⟩:=hv.cons;obtain⟨V,eo,k1,k2,k3⟩:=ih g2 h2;have hp:∃b ag,v=.ptr b ag []:=by
         have h1':=h1;unfold bV at h1';split at h1'
         ·exact⟨_,_,rfl⟩
         ·cases h1'
        obtain⟨b,ag,rfl⟩:=hp;exact⟨.mix (.ptr b ag []) V,val::eo,⟨val,rest,eo,rfl,rfl,k1⟩,⟨[val],eo,rfl,g1,k2⟩,by
         exact qH h1 k3⟩
       ·cases h
theorem vV{mem:Nat→Option aR}{N M:List (Nat×Nat)}{bs:List Nat}(hN:ef γ N bs)(hH:∀p∈N++M,Handed mem p){blk:Nat}(hb:blk∈bI bs (M.map fun p=>γ.loc p.1)):∃b k,(∃bx,mem b=some bx)∧γ.loc b=some (blk,k):=by
 unfold bI at hb;rcases List.mem_append.1 hb with hb|hb
 ·have:some blk∈N.map fun p=>(γ.loc p.1).map (·.1):=by rw[hN];exact List.mem_map.2 ⟨blk,hb,rfl⟩
  obtain⟨p,hp,he⟩:=List.mem_map.1 this;obtain⟨q,hq,he⟩:=Option.map_eq_some_iff.1 he;obtain⟨bx,j1,_⟩:=hH p (oQ _ hp);exact⟨p.1,q.2,⟨bx,j1⟩,by rw[hq,←he]⟩
 ·obtain⟨L,hL,he⟩:=List.mem_filterMap.1 hb;obtain⟨p,hp,rfl⟩:=List.mem_map.1 hL;obtain⟨q,hq,he⟩:=Option.map_eq_some_iff.1 he;obtain⟨bx,j1,_⟩:=hH p (nU _ hp);exact⟨p.1,q.2,⟨bx,j1⟩,by rw[hq,←he]⟩
theorem Al{mem:Nat→Option aR}(hm:aN B γ mem w):∀{l:List (Nat×Nat)},(l.map (·.1)).Nodup→(∀p∈l,Handed mem p)→(l.filterMap fun p=>(γ.loc p.1).map (·.1)).Nodup:=by
 intro l;induction l with
 | nil=>intro _ _;exact List.nodup_nil
 | cons p r ih =>
   intro hd hH;simp only[jj,BL] at hd;have hr:=ih hd.2 fun q hq=>hH q (jx _ hq);cases hL:(γ.loc p.1).map (·.1) with
   | none=>rw[F7 (f:=fun p:Nat×Nat=>(γ.loc p.1).map (·.1)) hL];exact hr
   | some blk =>
     rw[EM (f:=fun p:Nat×Nat=>(γ.loc p.1).map (·.1)) hL,BL];refine⟨fun hq=>?_,hr⟩;obtain⟨q,hq,he⟩:=List.mem_filterMap.1 hq;obtain⟨x,hx,hx2⟩:=Option.map_eq_some_iff.1 hL;obtain⟨z,hz,K7⟩:=Option.map_eq_some_iff.1 he;obtain⟨bp,p1,_⟩:=hH p (jy ..);obtain⟨bq,q1,_⟩:=hH q (jx _ hq);have:=hm.inj p.1 q.1 blk x.2 z.2 (by rw[p1];simp) (by rw[q1];simp) (by rw[hx,←hx2]) (by rw[hz,←K7]);exact hd.1 (by rw[this];exact List.mem_map.2 ⟨q,hq,rfl⟩)
theorem ry{mem:Nat→Option aR}(hm:aN B γ mem w){N M:List (Nat×Nat)}{bs:List Nat}(hN:ef γ N bs)(hH:∀p∈N++M,Handed mem p)(hd:(aK N M).Nodup):(bI bs (M.map fun p=>γ.loc p.1)).Nodup:=by
 have h:=Al hm (l:=N++M) (by rw[nN];exact hd) hH;have e:((N++M).filterMap fun p=>(γ.loc p.1).map (·.1))=bI bs (M.map fun p=>γ.loc p.1):=by
  unfold bI;rw[Gd,C3]
  congr 1
  have h2:(N.filterMap fun p=>(γ.loc p.1).map (·.1))=(N.map fun p=>(γ.loc p.1).map (·.1)).filterMap id:=by rw[C3];rfl
  rw[h2,hN,C3];exact List.filterMap_some
 rw[←e];exact h
end
end Go.Ge
