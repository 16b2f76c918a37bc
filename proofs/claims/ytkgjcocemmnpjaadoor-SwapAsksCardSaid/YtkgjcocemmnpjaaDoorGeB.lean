/- A ghost interpreter of the model's code, and that it tells the truth: part 2. It says of a function of plain data what a call of it comes to. -/
import Derived.Test.YtkgjcocemmnpjaaDoorGeA
import Derived.Laws.StructEq
import Derived.ChangeKeysEq
set_option linter.unusedVariables false
set_option linter.unusedSimpArgs false
set_option linter.unusedSectionVars false
namespace Go.Ge
structure Gh where
 I:Nat→Nat→Prop
 loc:Nat→Option (Nat×Nat)
def bA(t:Ty)(cs:List Value):Value:=bif t.isAgg then .agg cs.toArray else cs.headD undef
def aX(w:World)(I:Nat→Nat→Prop):(t:Ty)→t.den→List Value→Prop
 | .int k,n,cs=>cs=[.int k n]∧k.min≤(show Int from n)∧(show Int from n)≤k.max
 | .bool,b,cs=>cs=[.bool b]
 | .str,s,cs=>cs=[.string ⟨List.toArray (α:=UInt8) s⟩]∧List.length (α:=UInt8) s≤maxLen
 | .slice e,l,cs=>((∃base,cs=[.slice base 0 0])∧l=([]:List e.den)) ∨
  ∃blk off cap,cs=[.slice (some ⟨blk,off,none⟩) (List.length (α:=e.den) l) cap]∧List.length (α:=e.den) l≤cap∧cap≤maxLen ∧
   ∀(i:Nat) (x:e.den),(show List e.den from l)[i]?=some x→∃es:List Value,es.length=e.size ∧
    (∀(j:Nat) v,es[j]?=some v→w.cell? ⟨blk,off+i*e.size+j,none⟩=some v∧I blk (off+i*e.size+j))∧aX w I e x es
 | .arr n e,l,cs=>List.length (α:=e.den) l=n∧cs.length=n*e.size ∧
  ∀(i:Nat) (x:e.den),(show List e.den from l)[i]?=some x→aX w I e x ((cs.drop (i*e.size)).take e.size)
 | .pair a b,x,cs=>∃c1 c2,cs=c1++c2∧aX w I a x.1 c1∧aX w I b x.2 c2
 | .unit,_,cs=>cs=[]
 | .alt u a r,x,cs=>match(show a.den⊕r.den from x) with
   | .inl y=>r.size=1∧∃c,cs=[.iface u (bA a c)]∧aX w I a y c
   | .inr z=>aX w I r z cs
 | .nO,_,cs=>cs=[.nilIface]
theorem aX.length{w:World}{I:Nat→Nat→Prop}:∀{t:Ty} {x:t.den} {cs:List Value},aX w I t x cs→cs.length=t.size:=by
 intro t;induction t with
 | int k=>intro x cs h;rw[h.1];rfl
 | bool=>intro x cs h;rw[h];rfl
 | str=>intro x cs h;rw[h.1];rfl
 | slice e ih=>intro x cs h;rcases h with ⟨⟨_,h⟩,_⟩|⟨_,_,_,h,_⟩<;>rw[h]<;>rfl
 | arr n e ih=>intro x cs h;exact h.2.1
 | pair a b eN fE=>intro x cs h;obtain⟨c1,c2,rfl,h1,h2⟩:=h;rw[ji,eN h1,fE h2];rfl
 | unit=>intro x cs h;rw[h];rfl
 | alt u a r eN ihr =>
   intro x cs h;rcases x with y|z
   ·obtain⟨h1,c,rfl,_⟩:=h;exact h1.symm
   ·exact ihr (show aX w I r z cs from h)
 | nO=>intro x cs h;rw[show cs=_ from h];rfl
theorem aX.mono{w w':World}{I I':Nat→Nat→Prop}(hI:∀b o,I b o→I' b o)(hw:∀b o,I b o→w'.cell? ⟨b,o,none⟩=w.cell? ⟨b,o,none⟩) :
  ∀{t:Ty} {x:t.den} {cs:List Value},aX w I t x cs→aX w' I' t x cs:=by
 intro t;induction t with
 | int k=>intro x cs h;exact h
 | bool=>intro x cs h;exact h
 | str=>intro x cs h;exact h
 | slice e ih =>
   intro x cs h;rcases h with h|⟨blk,off,cap,h1,h2,h3,h4⟩
   ·exact .inl h
   ·refine .inr ⟨blk,off,cap,h1,h2,h3,fun i y hy=>?_⟩;obtain⟨es,he,hc,hr⟩:=h4 i y hy;exact⟨es,he,fun j v hv=>by obtain⟨a,b⟩:=hc j v hv;exact⟨by rw[hw _ _ b];exact a,hI _ _ b⟩,ih hr⟩
 | arr n e ih=>intro x cs h;exact⟨h.1,h.2.1,fun i y hy=>ih (h.2.2 i y hy)⟩
 | pair a b eN fE=>intro x cs h;obtain⟨c1,c2,h0,h1,h2⟩:=h;exact⟨c1,c2,h0,eN h1,fE h2⟩
 | unit=>intro x cs h;exact h
 | alt u a r eN ihr =>
   intro x cs h;rcases x with y|z
   ·obtain⟨h1,c,h2,h3⟩:=h;exact⟨h1,c,h2,eN h3⟩
   ·exact ihr (show aX w I r z cs from h)
 | nO=>intro x cs h;exact h
theorem aX.one{w:World}{I:Nat→Nat→Prop}:∀{t:Ty} {x:t.den} {cs:List Value},aX w I t x cs→∀v∈cs,v.oneCell'=true:=by
 intro t;induction t with
 | int k=>intro x cs h v hv;rw[h.1] at hv;simp at hv;subst hv;rfl
 | bool=>intro x cs h v hv;rw[h] at hv;simp at hv;subst hv;rfl
 | str=>intro x cs h v hv;rw[h.1] at hv;simp at hv;subst hv;rfl
 | slice e ih=>intro x cs h v hv;rcases h with ⟨⟨_,h⟩,_⟩|⟨_,_,_,h,_⟩<;>rw[h] at hv<;>simp at hv<;>subst hv<;>rfl
 | arr n e ih =>
   intro x cs h v hv;obtain⟨h1,h2,h3⟩:=h;obtain⟨k,hk,hkv⟩:=CT hv;have he:0<e.size:=by
    rcases ER e.size with h0|h0
    ·rw[h0,Nat.mul_zero] at h2;omega
    ·exact h0
   have hdiv:k / e.size<n:=by rw[Gc he];omega
   have hx:∃y,(show List e.den from x)[k / e.size]?=some y:=⟨_,qg (by rw[h1];exact hdiv)⟩;obtain⟨y,hy⟩:=hx;refine ih (h3 _ y hy) v ?_;have hm:=Nat.mod_lt k he;have hkk:k / e.size*e.size+k % e.size=k:=by rw[Nat.mul_comm];exact Nat.div_add_mod k e.size
   have:((cs.drop (k / e.size*e.size)).take e.size)[k % e.size]?=some v:=by
    rw[iO,fF hm,mz,hkk,qg hk,hkv]
   exact zL this
 | pair a b eN fE =>
   intro x cs h v hv;obtain⟨c1,c2,rfl,h1,h2⟩:=h;rcases List.mem_append.1 hv with hv|hv
   ·exact eN h1 v hv
   ·exact fE h2 v hv
 | unit=>intro x cs h v hv;rw[h] at hv;cases hv
 | alt u a r eN ihr =>
   intro x cs h v hv;rcases x with y|z
   ·obtain⟨h1,c,rfl,h3⟩:=h;simp at hv;subst hv;rfl
   ·exact ihr (show aX w I r z cs from h) v hv
 | nO=>intro x cs h v hv;rw[show cs=_ from h] at hv;simp at hv;subst hv;rfl
theorem iI{w:World}{I:Nat→Nat→Prop}:∀{t:Ty} {x:t.den} {cs:List Value},aX w I t x cs→(bA t cs).cells.toList=cs:=by
 intro t;induction t with
 | int k=>intro x cs h;unfold bA;rw[h.1];rfl
 | bool=>intro x cs h;unfold bA;rw[h];rfl
 | str=>intro x cs h;unfold bA;rw[h.1];rfl
 | slice e=>intro x cs h;unfold bA;rcases h with ⟨⟨_,h⟩,_⟩|⟨_,_,_,h,_⟩<;>rw[h]<;>rfl
 | arr n e=>intro x cs h;rfl
 | pair a b=>intro x cs h;rfl
 | unit=>intro x cs h;rfl
 | alt u a r eN ihr =>
   intro x cs h;rcases x with y|z
   ·obtain⟨h1,c,rfl,h3⟩:=h;unfold bA Ty.isAgg;cases r.isAgg<;>rfl
   ·exact ihr (show aX w I r z cs from h)
 | nO=>intro x cs h;unfold bA;rw[show cs=_ from h];rfl
inductive Mode where
 | cells|val|many
def jG(base:Option Addr)(cap:Nat):Prop:=cap=0∨∃blk off,base=some ⟨blk,off,none⟩
def bC:List oz→Nat
 | []=>0
 | .wK _ off::p=>off+bC p
 | .idx i size::p=>i.toNat*size+bC p
theorem mL(p q:List oz):bC (p++q)=bC p+bC q:=by
 induction p with
 | nil=>simp[bC]
 | cons s p ih=>cases s<;>simp[bC,ih]<;>omega
section
variable (γ:Gh) (mem:Nat→Option aR) (w:World)
def o8(bx:aR)(b:Nat)(lo:Int)(base:Option Addr)(cap:Nat):Prop:=lo=0→bx.buf=true→(γ.loc b=none∧base=none∧cap=0)∨∃blk,γ.loc b=some (blk,cap)∧base=some ⟨blk,0,none⟩
def o9(I:Nat→Nat→Prop)(blk off:Nat)(cs:List Value):Prop:=∀(j:Nat) v,cs[j]?=some v→w.cell? ⟨blk,off+j,none⟩=some v∧I blk (off+j)
def fI(b ag:Nat)(K:aR→Prop):Prop:=∃bx,mem b=some bx∧ag≤bx.ag∧(bx.ag=ag→K bx)
def br:au→Mode→List Value→Prop
 | .undef,.val,vs=>∃v,vs=[v]
 | .undef,.cells,vs=>∃v,vs=[v]∧v.oneCell'=true
 | .undef,.many,_=>False
 | .data t x,.cells,vs=>aX w γ.I t x vs
 | .data t x,.val,vs=>∃cs,aX w γ.I t x cs∧vs=[bA t cs]
 | .data _ _,.many,_=>False
 | .mix a b,.cells,vs=>∃c1 c2,vs=c1++c2∧br a .cells c1∧br b .cells c2
 | .mix a b,.val,vs=>∃c1 c2,vs=[.agg (c1++c2).toArray]∧br a .cells c1∧br b .cells c2
 | .mix a b,.many,vs=>∃v r,vs=v::r∧br a .val [v]∧br b .many r
 | .nl,.many,vs=>vs=[]
 | .nl,_,_=>False
 | .jT u,.val,vs=>∃arr:Array Value,vs=[.tuple arr]∧br u .many arr.toList
 | .jT _,_,_=>False
 | .ij,.many,_=>False
 | .ij,_,vs=>vs=[.pointer none]
 | .iQ,.many,_=>False
 | .iQ,_,vs=>vs=[.nilIface]
 | .jV _ _,.many,_=>False
 | .jV b ag,_,vs=>(∃v,vs=[v]∧v.oneCell'=true)∧fI mem b ag fun _=>∃blk cap,γ.loc b=some (blk,cap)∧(vs=[.pointer none]∨vs=[.pointer (some ⟨blk,0,none⟩)])
 | .gk,.many,_=>False
 | .gk,_,vs=>vs=[.slice none 0 0]
 | .cell _ _,.many,_=>False
 | .cell t x,_,vs=>∃blk off cs,vs=[.pointer (some ⟨blk,off,none⟩)]∧aX w γ.I t x cs∧o9 w γ.I blk off cs
 | .ptr _ _ _,.many,_=>False
 | .ptr b ag p,_,vs=>(∃v,vs=[v]∧v.oneCell'=true)∧fI mem b ag fun _=>∃blk cap,γ.loc b=some (blk,cap)∧vs=[.pointer (some ⟨blk,bC p,none⟩)]
 | .whole _ _,.many,_=>False
 | .whole b ag,_,vs=>(∃v,vs=[v]∧v.oneCell'=true)∧fI mem b ag fun bx=>∃e n,bx.buf=true∧bx.row=some (e,n) ∧
  ((γ.loc b=none∧vs=[.slice none 0 0])∨∃blk cap,γ.loc b=some (blk,cap)∧vs=[.slice (some ⟨blk,0,none⟩) n cap])
 | .part _ _ _ _,.many,_=>False
 | .part b ag lo n,_,vs=>(∃v,vs=[v]∧v.oneCell'=true)∧fI mem b ag fun bx=>∃e k,bx.row=some (e,k)∧0≤lo∧0≤n∧lo+n≤k ∧
  ∃base cap,vs=[.slice base n.toNat cap]∧n.toNat≤cap∧cap≤maxLen∧(jG base cap∧o8 γ bx b lo base cap)∧(n=0∨∃blk c,γ.loc b=some (blk,c)∧base=some ⟨blk,lo.toNat*e.size,none⟩)
 | .win _ _ _ _ _ _ _,.many,_=>False
 | .win b ag q e k lo n,_,vs=>(∃v,vs=[v]∧v.oneCell'=true)∧fI mem b ag fun _=>q≠[]∧∃blk c,γ.loc b=some (blk,c)∧0≤lo∧0≤n∧lo+n≤k ∧
  ∃base cap,vs=[.slice base n.toNat cap]∧n.toNat≤cap∧(n=0∨base=some ⟨blk,bC q+lo.toNat*e.size,none⟩)
 | .fn _ _,.many,_=>False
 | .fn f caps,_,vs=>∃arr:Array Value,vs=[.func (.func f) #[] arr]∧arr.size=caps.length ∧
  ∀(i:Nat) b ag,caps[i]?=some (b,ag)→fI mem b ag fun _=>∃blk cap,γ.loc b=some (blk,cap)∧arr[i]?=some (.pointer (some ⟨blk,0,none⟩))
def iw(cur:Array Value)(fr:Nat×Nat):Prop:=∀off,off<cur.size→¬(fr.1≤off∧off<fr.2)
def Ty.isInt:Ty→Bool
 | .int _=>true
 | _=>false
structure EF (e:Ty) (cur:Array Value) (fr:Nat×Nat):Prop where
 th:iw cur fr
 um:e.isInt=false→¬(fr.1≤cur.size∧cur.size<fr.2)
def bB(b:Nat)(bx:aR):Prop :=
 match bx.buf with
 | true=>∃(e:Ty) (l:List e.den),bx.val=.data (.slice e) l∧0<e.size ∧
  ((γ.loc b=none∧l=[])∨∃blk cap cur tid fr,γ.loc b=some (blk,cap)∧w.heap[blk]?=some (.cells cur tid fr)∧EF e cur fr∧(bx.tid=0∨tid=bx.tid)∧l.length≤cap∧cap≤maxLen ∧
   cur.size=cap*e.size∧∀(i:Nat) (x:e.den),l[i]?=some x→aX w γ.I e x ((cur.toList.drop (i*e.size)).take e.size))
 | false=>∃blk cap cur tid fr,γ.loc b=some (blk,cap)∧w.heap[blk]?=some (.cells cur tid fr)∧iw cur fr∧(bx.tid=0∨tid=bx.tid)∧br γ mem w bx.val .cells cur.toList
end
def zZ(bx:aR):Nat→Prop:=fun off=>bx.ro=true∧(bx.buf=true→∀e n,bx.row=some (e,n)→off<n*e.size)
abbrev eM:=Nat→(Obj→Prop)→Prop
def E1:eM:=fun _ _=>False
def kK(G:eM)(w:World):Prop:=∀b Q,G b Q→∃o,w.heap[b]?=some o∧Q o
structure iy where
 lo:Nat
 X:Nat→Prop
 G:eM
def iy.has(B:iy)(k:Nat):Prop:=B.lo≤k∨B.X k
def jl(G:eM)(n:Nat):iy:=⟨n,fun _=>False,G⟩
theorem jH{G:eM}{n k:Nat}:(jl G n).has k↔n≤k:=⟨fun h=>h.elim id False.elim,.inl⟩
structure jI (B:iy) (w w':World):Prop where
 os:w'.os=w.os
 tape:w'.tape=w.tape
 output:w'.output=w.output
 size:w.heap.size≤w'.heap.size
 block:∀k,¬B.has k→w'.heap[k]?=w.heap[k]?
theorem jI.refl(B:iy)(w:World):jI B w w:=⟨rfl,rfl,rfl,en _,fun _ _=>rfl⟩
theorem jI.trans{B:iy}{a b c:World}(h:jI B a b)(k:jI B b c):jI B a c :=
 ⟨k.os.trans h.os,k.tape.trans h.tape,k.output.trans h.output,gj h.size k.size,fun i hi=>(k.block i hi).trans (h.block i hi)⟩
theorem jI.of{B:iy}{w w':World}(h:RowKit.Below B.lo w w'):jI B w w':=⟨h.os,h.tape,h.output,h.size,fun k hk=>h.block k (C6 fun q=>hk (.inl q))⟩
theorem jI.below{G:eM}{n:Nat}{w w':World}(h:jI (jl G n) w w'):RowKit.Below n w w':=⟨h.os,h.tape,h.output,h.size,fun k hk=>h.block k fun q=>by have:=jH.1 q;omega⟩
theorem jI.drew{B:iy}{a w:World}(h:jI B a w):jI B a w.drew:=⟨h.os,h.tape,h.output,h.size,h.block⟩
theorem jI.alloc{B:iy}{a w:World}(h:jI B a w)(hB:B.lo≤w.heap.size)(o:Obj):jI B a (w.alloc o):=h.trans (.of ((RowKit.Below.refl _ _).alloc hB o))
structure aN (B:iy) (γ:Gh) (mem:Nat→Option aR) (w:World):Prop where
 base:B.lo≤w.heap.size
 boxes:∀b bx,mem b=some bx→bB γ mem w b bx
 inj:∀b c blk k k',mem b≠none→mem c≠none→γ.loc b=some (blk,k)→γ.loc c=some (blk,k')→b=c
 fresh:∀b blk k,mem b≠none→γ.loc b=some (blk,k)→B.has blk∧blk<w.heap.size
 jJ:∀blk off,γ.I blk off→blk<w.heap.size
 sep:∀b bx blk k off,mem b=some bx→γ.loc b=some (blk,k)→γ.I blk off→zZ bx off
 b6:∀b Q,B.G b Q→¬B.has b∧∃o,w.heap[b]?=some o∧Q o
structure bP (B:iy) (N:Nat) (γ:Gh) (σ:St) (a:Act) (w:World):Prop where
 slots:∀t,br γ σ.mem w (σ.slots t) .val [a.tmps.getD t undef]
 size:a.tmps.size=N
 defers:a.defers=[]
 ok:aN B γ σ.mem w
structure Ext (B:iy) (γ:Gh) (mem:Nat→Option aR) (w:World) (γ':Gh) (mem':Nat→Option aR) (w':World):Prop where
 below:jI B w w'
 I:∀b o,γ.I b o→γ'.I b o
 jK:∀b o,γ'.I b o→γ.I b o∨B.has b
 cells:∀b o,γ.I b o→w'.cell? ⟨b,o,none⟩=w.cell? ⟨b,o,none⟩
 boxes:∀b bx,mem b=some bx→∃eg,mem' b=some eg∧bx.ag≤eg.ag∧(eg.ag=bx.ag→γ'.loc b=γ.loc b∧eg.buf=bx.buf∧eg.row=bx.row)
theorem aN.pe{B:iy}{γ γ':Gh}{mem mem':Nat→Option aR}{w w':World}(h:aN B γ mem w)(x:Ext B γ mem w γ' mem' w'):∀b Q,B.G b Q→¬B.has b∧∃o,w'.heap[b]?=some o∧Q o:=fun b Q g=>by
 obtain⟨i,o,c,q⟩:=h.b6 b Q g;exact⟨i,o,(x.below.block b i).trans c,q⟩
theorem aN.wQ{B:iy}{γ:Gh}{mem:Nat→Option aR}{w:World}(h:aN B γ mem w):kK B.G w:=fun b Q g=>(h.b6 b Q g).2
theorem Ext.refl(B:iy)(γ:Gh)(mem:Nat→Option aR)(w:World):Ext B γ mem w γ mem w :=
 ⟨jI.refl _ _,fun _ _ h=>h,fun _ _ h=>.inl h,fun _ _ _=>rfl,fun b bx h=>⟨bx,h,en _,fun _=>⟨rfl,rfl,rfl⟩⟩⟩
theorem Ext.trans{B:iy}{γ γ' E2:Gh}{mem mem' Gl:Nat→Option aR}{w w' w'':World}(h:Ext B γ mem w γ' mem' w')(k:Ext B γ' mem' w' E2 Gl w'') :
  Ext B γ mem w E2 Gl w'' where
 below:=h.below.trans k.below
 I:=fun b o x=>k.I _ _ (h.I _ _ x)
 jK:=fun b o x=>by
  rcases k.jK b o x with y|y
  ·exact h.jK b o y
  ·exact .inr y
 cells:=fun b o x=>(k.cells _ _ (h.I _ _ x)).trans (h.cells _ _ x)
 boxes:=fun b bx x=>by
  obtain⟨eg,h1,h2,h3⟩:=h.boxes b bx x;obtain⟨Ii,k1,k2,k3⟩:=k.boxes b eg h1;refine⟨Ii,k1,gj h2 k2,fun e=>?_⟩;have e1:eg.ag=bx.ag:=by omega
  have e2:Ii.ag=eg.ag:=by omega
  obtain⟨a1,a2,a3⟩:=h3 e1;obtain⟨b1,b2,b3⟩:=k3 e2;exact⟨b1.trans a1,b2.trans a2,b3.trans a3⟩
theorem fI.ext{B:iy}{γ γ':Gh}{mem mem':Nat→Option aR}{w w':World}(h:Ext B γ mem w γ' mem' w'){b ag:Nat}{K K':aR→Prop}(ho:fI mem b ag K)
  (hk:∀bx eg,mem b=some bx→mem' b=some eg→γ'.loc b=γ.loc b→eg.buf=bx.buf→eg.row=bx.row→K bx→K' eg):fI mem' b ag K':=by
 obtain⟨bx,h1,h2,h3⟩:=ho;obtain⟨eg,k1,k2,k3⟩:=h.boxes b bx h1;refine⟨eg,k1,gj h2 k2,fun e=>?_⟩;have e1:bx.ag=ag:=by omega
 obtain⟨a1,a2,a3⟩:=k3 (by omega);exact hk bx eg h1 k1 a1 a2 a3 (h3 e1)
theorem o9.ext{w w':World}{I I':Nat→Nat→Prop}(hI:∀b o,I b o→I' b o)(hw:∀b o,I b o→w'.cell? ⟨b,o,none⟩=w.cell? ⟨b,o,none⟩){blk off:Nat}{cs:List Value}
  (h:o9 w I blk off cs):o9 w' I' blk off cs :=
 fun j v hv=>by obtain⟨a,b⟩:=h j v hv;exact⟨by rw[hw _ _ b];exact a,hI _ _ b⟩
theorem br.ext{B:iy}{γ γ':Gh}{mem mem':Nat→Option aR}{w w':World}(h:Ext B γ mem w γ' mem' w'):∀{v:au} {m:Mode} {vs:List Value},br γ mem w v m vs→br γ' mem' w' v m vs:=by
 intro v;induction v with
 | undef=>intro m vs r;cases m<;>exact r
 | data t x =>
   intro m vs r;cases m with
   | cells=>exact aX.mono h.I h.cells r
   | val=>obtain⟨cs,r1,r2⟩:=r;exact⟨cs,aX.mono h.I h.cells r1,r2⟩
   | many=>exact r
 | gk=>intro m vs r;cases m<;>exact r
 | ij=>intro m vs r;cases m<;>exact r
 | iQ=>intro m vs r;cases m<;>exact r
 | jV b ag =>
   intro m vs r;cases m with
   | many=>exact r
   | cells=>exact⟨r.1,r.2.ext h fun bx eg _ _ hl _ _ k=>by rw[hl];exact k⟩
   | val=>exact⟨r.1,r.2.ext h fun bx eg _ _ hl _ _ k=>by rw[hl];exact k⟩
 | cell t x =>
   intro m vs r;cases m with
   | many=>exact r
   | cells=>obtain⟨blk,off,cs,r1,r2,r3⟩:=r;exact⟨blk,off,cs,r1,aX.mono h.I h.cells r2,r3.ext h.I h.cells⟩
   | val=>obtain⟨blk,off,cs,r1,r2,r3⟩:=r;exact⟨blk,off,cs,r1,aX.mono h.I h.cells r2,r3.ext h.I h.cells⟩
 | ptr b ag p =>
   intro m vs r;cases m with
   | many=>exact r
   | cells=>exact⟨r.1,r.2.ext h fun bx eg _ _ hl _ _ k=>by rw[hl];exact k⟩
   | val=>exact⟨r.1,r.2.ext h fun bx eg _ _ hl _ _ k=>by rw[hl];exact k⟩
 | whole b ag =>
   intro m vs r;cases m with
   | many=>exact r
   | cells=>exact⟨r.1,r.2.ext h fun bx eg _ _ hl hb hr k=>by rw[hl,hb,hr];exact k⟩
   | val=>exact⟨r.1,r.2.ext h fun bx eg _ _ hl hb hr k=>by rw[hl,hb,hr];exact k⟩
 | part b ag lo n =>
   intro m vs r;cases m with
   | many=>exact r
   | cells=>exact⟨r.1,r.2.ext h fun bx eg _ _ hl hb hr k=>by unfold o8 at k⊢;rw[hl,hb,hr];exact k⟩
   | val=>exact⟨r.1,r.2.ext h fun bx eg _ _ hl hb hr k=>by unfold o8 at k⊢;rw[hl,hb,hr];exact k⟩
 | win b ag q e k lo n =>
   intro m vs r;cases m with
   | many=>exact r
   | cells=>exact⟨r.1,r.2.ext h fun bx eg _ _ hl _ _ k=>by rw[hl];exact k⟩
   | val=>exact⟨r.1,r.2.ext h fun bx eg _ _ hl _ _ k=>by rw[hl];exact k⟩
 | fn f caps =>
   intro m vs r;cases m with
   | many=>exact r
   | cells=>obtain⟨arr,r1,r2,r3⟩:=r;exact⟨arr,r1,r2,fun i b ag hc=>(r3 i b ag hc).ext h fun bx eg _ _ hl _ _ k=>by rw[hl];exact k⟩
   | val=>obtain⟨arr,r1,r2,r3⟩:=r;exact⟨arr,r1,r2,fun i b ag hc=>(r3 i b ag hc).ext h fun bx eg _ _ hl _ _ k=>by rw[hl];exact k⟩
 | mix a b eN fE =>
   intro m vs r;cases m with
   | cells=>obtain⟨c1,c2,r0,r1,r2⟩:=r;exact⟨c1,c2,r0,eN r1,fE r2⟩
   | val=>obtain⟨c1,c2,r0,r1,r2⟩:=r;exact⟨c1,c2,r0,eN r1,fE r2⟩
   | many=>obtain⟨c1,c2,r0,r1,r2⟩:=r;exact⟨c1,c2,r0,eN r1,fE r2⟩
 | jT u ih =>
   intro m vs r;cases m with
   | val=>obtain⟨arr,r1,r2⟩:=r;exact⟨arr,r1,ih r2⟩
   | cells=>exact r
   | many=>exact r
 | nl=>intro m vs r;cases m<;>exact r
end Go.Ge
namespace Go.Ge
def cP:Ty→List Value
 | .int k=>[.int k 0]
 | .bool=>[.bool false]
 | .str=>[.string ⟨#[]⟩]
 | .slice _=>[.slice none 0 0]
 | .arr n e=>(List.replicate n (cP e)).flatten
 | .pair a b=>cP a++cP b
 | .unit=>[]
 | .alt _ _ r=>cP r
 | .nO=>[.nilIface]
theorem cG(t:Ty):(cP t).length=t.size:=by
 induction t with
 | arr n e ih=>simp[cP,Ty.size,ih]
 | pair a b eN fE=>simp[cP,Ty.size,eN,fE]
 | alt u a r eN ihr=>exact ihr
 | _=>rfl
theorem cC{α:Type}(l:List α):∀(n i:Nat),i<n→((List.replicate n l).flatten.drop (i*l.length)).take l.length=l
 | 0,i,h=>absurd h (by omega)
 | n+1,0,_=>by simp[List.replicate_succ]
 | n+1,i+1,h=>by
   rw[List.replicate_succ,List.flatten_cons,mD,Bi,←lH,ou];exact cC l n i (by omega)
theorem gG(w:World)(I:Nat→Nat→Prop):∀t:Ty,aX w I t t.zero (cP t):=by
 intro t;induction t with
 | int k=>exact⟨rfl,by cases k<;>decide,by cases k<;>decide⟩
 | bool=>rfl
 | str=>exact⟨rfl,kD _⟩
 | slice e ih=>exact .inl ⟨⟨none,rfl⟩,rfl⟩
 | arr n e ih =>
   refine⟨List.length_replicate,by rw[cG];rfl,fun i x hx=>?_⟩;have hx':(List.replicate n e.zero)[i]?=some x:=hx;rw[Ga] at hx';split at hx'
   ·rename_i hi;obtain rfl:e.zero=x:=by simpa using hx'
    have:=cC (cP e) n i hi;rw[cG] at this;show aX w I e e.zero (((List.replicate n (cP e)).flatten.drop (i*e.size)).take e.size)
    rw[this];exact ih
   ·cases hx'
 | pair a b eN fE=>exact⟨_,_,rfl,eN,fE⟩
 | unit=>rfl
 | alt u a r eN ihr=>exact ihr
 | nO=>rfl
def wR:Value→Value→Bool
 | .int k n,.int k' m=>Nat.beq (l9 k) (l9 k')&&decide (n=m)
 | .bool a,.bool b=>a==b
 | .string a,.string b=>decide (a.data.toList=b.data.toList)
 | .slice none 0 0,.slice none 0 0=>true
 | .pointer none,.pointer none=>true
 | .nilIface,.nilIface=>true
 | _,_=>false
theorem z6{a b:Value}(h:wR a b=true):a=b:=by
 unfold wR at h;split at h
 ·simp only[cA,u5] at h;rw[kT h.1,h.2]
 ·simpa using h
 ·rename_i a b;obtain⟨⟨a⟩⟩:=a;obtain⟨⟨b⟩⟩:=b;have h':a=b:=by simpa using h
  rw[h']
 ·rfl
 ·rfl
 ·rfl
 ·cases h
def pg:List Value→List Value→Bool
 | [],[]=>true
 | a::r,b::s=>wR a b&&pg r s
 | _,_=>false
theorem qV:∀{a b:List Value},pg a b=true→a=b
 | [],[],_=>rfl
 | a::r,b::s,h=>by simp only[pg,cA] at h;rw[z6 h.1,qV h.2]
 | [],_::_,h=>by cases h
 | _::_,[],h=>by cases h
def nV(P:Program)(tid:TypeId)(size:Nat)(zc:List Value):Bool :=
 match P.info? tid with
 | some i=>Nat.beq i.size size&&(match i.zero with|some z=>pg z.cells.toList zc|none=>false)
 | none=>false
theorem eG{P:Program}{tid:TypeId}{size:Nat}{zc:List Value}(h:nV P tid size zc=true) :
  ∃i z,P.info? tid=some i∧i.size=size∧i.zero=some z∧z.cells.toList=zc:=by
 unfold nV at h;split at h
 ·rename_i i hi;simp only[cA] at h;split at h
  ·rename_i z hz;exact⟨i,z,hi,cK h.1,hz,qV h.2⟩
  ·cases h.2
 ·cases h
def td(P:Program)(tid:TypeId):Bool :=
 match P.info? tid with
 | some i=>Nat.ble i.bytes 32768
 | none=>false
def Ty.Dk:Ty→Bool
 | .alt _ _ r=>r.Dk
 | .nO=>true
 | _=>false
def dc(P:Program):Ty→Bool→TypeId→Nat→List Field→Bool
 | .int k,false,tid,_,_=>(match P.underlying tid with|some (.int k')=>Nat.beq (l9 k) (l9 k')|_=>false)&&nV P tid 1 [.int k 0]
 | .bool,false,tid,_,_=>(match P.underlying tid with|some .bool=>true|_=>false)&&nV P tid 1 [.bool false]
 | .str,false,tid,_,_=>(match P.underlying tid with|some .string=>true|_=>false)&&nV P tid 1 [.string ⟨#[]⟩]
 | .slice e,false,tid,_,_=>(match P.underlying tid with|some (.slice bX)=>dc P e false bX 0 []&&td P bX&&Nat.blt 0 e.size|_=>false)&&nV P tid 1 [.slice none 0 0]
 | .arr n e,false,tid,_,_=>(match P.underlying tid with|some (.array m bX)=>Nat.beq n m&&dc P e false bX 0 []&&Nat.blt 0 e.size|_=>false)&&nV P tid (n*e.size) (cP (.arr n e))&&!P.eqGuardType P.depth tid
 | .pair a b,false,tid,_,_=>(match P.underlying tid with
  | some (.struct fs)=>(match fs.toList with
    | f::r=>Nat.beq f.offset 0&&decide (f.name ≠ "_")&&dc P a false f.type 0 []&&Nat.blt 0 a.size&&dc P b true 0 a.size r
    | []=>false)
  | _=>false)&&nV P tid (a.size+b.size) (cP (.pair a b))&&!P.eqGuardType P.depth tid&&!P.stoodInHeld tid
 | .unit,false,tid,_,_=>false
 | .alt u _ r,false,tid,_,_=>dc P r false tid 0 []&&P.concrete u&&r.Dk
 | .nO,false,tid,_,_=>(match P.underlying tid with|some (.interface _)=>true|_=>false)&&nV P tid 1 [.nilIface]
 | .pair a b,true,_,off,f::r=>Nat.beq f.offset off&&decide (f.name ≠ "_")&&dc P a false f.type 0 []&&Nat.blt 0 a.size&&dc P b true 0 (off+a.size) r
 | .unit,true,_,_,[]=>true
 | _,_,_,_,_=>false
def Den(P:Program)(t:Ty)(tid:TypeId):Prop:=dc P t false tid 0 []=true
def gL(P:Program)(t:Ty)(off:Nat)(fs:List Field):Prop:=dc P t true 0 off fs=true
section
variable {P:Program} {tid:TypeId}
theorem Den.int{k:IntKind}(h:Den P (.int k) tid):P.underlying tid=some (.int k):=by
 simp only[Den,dc,cA] at h;have h1:=h.1;split at h1
 ·rename_i k' hk;rw[hk,kT h1]
 ·cases h1
theorem Den.bool(h:Den P .bool tid):P.underlying tid=some .bool:=by
 simp only[Den,dc,cA] at h;have h1:=h.1;split at h1
 ·rename_i hk;rw[hk]
 ·cases h1
theorem Den.str(h:Den P .str tid):P.underlying tid=some .string:=by
 simp only[Den,dc,cA] at h;have h1:=h.1;split at h1
 ·rename_i hk;rw[hk]
 ·cases h1
theorem Den.slice{e:Ty}(h:Den P (.slice e) tid):∃bX,P.underlying tid=some (.slice bX)∧Den P e bX∧td P bX=true∧0<e.size:=by
 simp only[Den,dc,cA] at h;have h1:=h.1;split at h1
 ·rename_i bX hk;simp only[cA] at h1;exact⟨bX,hk,h1.1.1,h1.1.2,by simpa using h1.2⟩
 ·cases h1
theorem Den.arr{n:Nat}{e:Ty}(h:Den P (.arr n e) tid):∃bX,P.underlying tid=some (.array n bX)∧Den P e bX∧0<e.size:=by
 simp only[Den,dc,cA] at h;have h1:=h.1.1;split at h1
 ·rename_i m bX hk;simp only[cA] at h1;rw[cK h1.1.1];exact⟨bX,hk,h1.1.2,by simpa using h1.2⟩
 ·cases h1
theorem Den.Ij{n:Nat}{e:Ty}(h:Den P (.arr n e) tid):P.eqGuardType P.depth tid=false:=by
 simp only[Den,dc,cA,ny] at h;exact h.2
theorem Den.pair{a b:Ty}(h:Den P (.pair a b) tid):∃fs,P.underlying tid=some (.struct fs)∧gL P (.pair a b) 0 fs.toList∧P.eqGuardType P.depth tid=false∧P.stoodInHeld tid=false:=by
 simp only[Den,dc,cA] at h;obtain⟨⟨⟨h1,h2⟩,h3⟩,h4⟩:=h;split at h1
 ·rename_i fs hk;refine⟨fs,hk,?_,by simpa using h3,by simpa using h4⟩;split at h1
  ·rename_i f r hr;simp only[gL,hr,dc,kS];exact h1
  ·cases h1
 ·cases h1
theorem Den.info{t:Ty}(h:Den P t tid):∃i z,P.info? tid=some i∧i.size=t.size∧i.zero=some z∧z.cells.toList=cP t:=by
 induction t with
 | int k=>simp only[Den,dc,cA] at h;exact eG h.2
 | bool=>simp only[Den,dc,cA] at h;exact eG h.2
 | str=>simp only[Den,dc,cA] at h;exact eG h.2
 | slice e=>simp only[Den,dc,cA] at h;exact eG h.2
 | arr n e=>simp only[Den,dc,cA] at h;exact eG h.1.2
 | pair a b=>simp only[Den,dc,cA] at h;exact eG h.1.1.2
 | unit=>simp[Den,dc] at h
 | alt u a r eN ihr=>simp only[Den,dc,cA] at h;exact ihr h.1.1
 | nO=>simp only[Den,dc,cA] at h;exact eG h.2
theorem Den.nO(h:Den P .nO tid):∃ms,P.underlying tid=some (.interface ms):=by
 simp only[Den,dc,cA] at h;have h1:=h.1;split at h1
 ·exact⟨_,by assumption⟩
 ·cases h1
theorem Den.rest{u:Nat}{a r:Ty}(h:Den P (.alt u a r) tid):Den P r tid∧P.concrete u=true:=by
 simp only[Den,dc,cA] at h;exact h.1
theorem Ty.tf:∀{t:Ty},t.Dk=true→t.size=1∧t.isAgg=false:=by
 intro t;induction t with
 | alt u a r eN ihr=>intro h;exact ihr h
 | nO=>intro h;exact⟨rfl,rfl⟩
 | _=>intro h;cases h
theorem Den.Dl{u:Nat}{a r:Ty}(_:Den P r tid)(h:Den P (.alt u a r) tid):r.size=1:=by
 simp only[Den,dc,cA] at h;exact(Ty.tf h.2).1
theorem Den.agg{t:Ty}(h:Den P t tid)(w:World):(isAgg tid).run P w=.ok t.isAgg w:=by
 induction t with
 | alt u a r eN ihr=>exact ihr h.rest.1
 | nO=>obtain⟨_,h1⟩:=h.nO;unfold Go.isAgg;simp[run_underlying h1,Ty.isAgg]
 | int k=>unfold Go.isAgg;simp[run_underlying h.int,Ty.isAgg]
 | bool=>unfold Go.isAgg;simp[run_underlying h.bool,Ty.isAgg]
 | str=>unfold Go.isAgg;simp[run_underlying h.str,Ty.isAgg]
 | slice e ih=>unfold Go.isAgg;obtain⟨_,h1,_⟩:=h.slice;simp[run_underlying h1,Ty.isAgg]
 | arr n e ih=>unfold Go.isAgg;obtain⟨_,h1,_⟩:=h.arr;simp[run_underlying h1,Ty.isAgg]
 | pair a b eN fE=>unfold Go.isAgg;obtain⟨_,h1,_⟩:=h.pair;simp[run_underlying h1,Ty.isAgg]
 | unit=>simp[Den,dc] at h
theorem Den.sizeOf{t:Ty}(h:Den P t tid)(w:World):(Go.sizeOf tid).run P w=.ok t.size w:=by
 obtain⟨i,z,h1,h2,_⟩:=h.info;simp[Go.sizeOf,typeInfo,h1,h2]
theorem Den.zero{t:Ty}(h:Den P t tid)(w:World):∃z,(zeroValue tid).run P w=.ok z w∧z.cells.toList=cP t:=by
 obtain⟨i,z,h1,h2,h3,h4⟩:=h.info;exact⟨z,by simp[zeroValue,typeInfo,h1,h3],h4⟩
theorem Den.cells{t:Ty}(h:Den P t tid):P.cellsOf tid=t.size:=by
 obtain⟨i,z,h1,h2,_⟩:=h.info;simp[Program.cellsOf,h1,h2]
theorem gL.cons{a b:Ty}{off:Nat}{fs:List Field}(h:gL P (.pair a b) off fs) :
  ∃f r,fs=f::r∧f.offset=off∧f.name ≠ "_"∧Den P a f.type∧0<a.size∧gL P b (off+a.size) r:=by
 cases fs with
 | nil=>simp[gL,dc] at h
 | cons f r =>
   simp only[gL,dc,cA] at h;obtain⟨⟨⟨⟨h1,h2⟩,h3⟩,h4⟩,h5⟩:=h;exact⟨f,r,rfl,cK h1,by simpa using h2,h3,by simpa using h4,h5⟩
theorem gL.at{t:Ty}:∀{off:Nat} {fs:List Field} {k:Nat} {u:Ty} {o:Nat},gL P t off fs→jA t k=some u→eE t k=some o →
  ∃f,fs[k]?=some f∧f.offset=off+o∧Den P u f.type∧0<u.size:=by
 induction t with
 | pair a b eN fE =>
   intro off fs k u o h hu ho;obtain⟨f,r,rfl,h1,h2,h3,h4,h5⟩:=h.cons;cases k with
   | zero =>
     simp only[jA,eE,iX] at hu ho;subst hu ho;exact⟨f,rfl,by omega,h3,h4⟩
   | succ k =>
     simp only[jA,eE] at hu ho;cases hb:eE b k with
     | none=>rw[hb] at ho;cases ho
     | some o' =>
       rw[hb] at ho;simp only[rT,iX] at ho;obtain⟨f',k1,k2,k3,k4⟩:=fE h5 hu hb;exact⟨f',by simpa using k1,by omega,k3,k4⟩
 | _=>intro off fs k u o h hu ho;cases k<;>simp[jA] at hu
end
def gf.cells:gf→List Value
 | .dat t=>cP t
 | .buf _ _=>[.slice none 0 0]
 | _=>[.pointer none]
def tg:List gf→List Value
 | []=>[]
 | f::r=>f.cells++tg r
def Gm:List gf→Nat
 | []=>0
 | f::r=>f.size+Gm r
def vO(P:Program):Nat→List gf→List Field→Bool
 | _,[],[]=>true
 | off,f::r,g::s=>Nat.beq g.offset off&&Nat.blt 0 f.size&&(match P.info? g.type with|some i=>Nat.beq i.size f.size|none=>false)&&vO P (off+f.size) r s
 | _,_,_=>false
def u6(P:Program)(tid:TypeId)(fs:List gf):Bool :=
 (match P.underlying tid with|some (.struct gs)=>vO P 0 fs gs.toList|_=>false)&&nV P tid (Gm fs) (tg fs)
theorem BZ{P:Program}{tid:TypeId}{fs:List gf}(h:u6 P tid fs=true)(w:World):∃z,(zeroValue tid).run P w=.ok z w∧z.cells.toList=tg fs:=by
 simp only[u6,cA] at h;obtain⟨i,z,h1,h2,h3,h4⟩:=eG h.2;exact⟨z,by simp[zeroValue,typeInfo,h1,h3],h4⟩
theorem Dm{P:Program}:∀{fs:List gf} {gs:List Field} {off k o:Nat},vO P off fs gs=true→lM fs k=some o→∃f i,gs[k]?=some f∧f.offset=off+o∧P.info? f.type=some i∧0<i.size:=by
 intro fs;induction fs with
 | nil=>intro gs off k o h ho;cases ho
 | cons f r ih =>
   intro gs off k o h ho;cases gs with
   | nil=>cases h
   | cons g s =>
     simp only[vO,cA] at h;obtain⟨⟨⟨h1,h2⟩,h3⟩,h4⟩:=h;cases k with
     | zero =>
       obtain rfl:=aq ho;split at h3
       ·rename_i i hi;have J9:=cK h3;have Ka:0<f.size:=by simpa using h2
        exact⟨g,i,rfl,by rw[cK h1];rfl,hi,by omega⟩
       ·cases h3
     | succ k =>
       simp only[lM] at ho;split at ho
       ·rename_i o' ho';obtain rfl:=aq ho;obtain⟨f',i,k1,k2,k3,k4⟩:=ih h4 ho';exact⟨f',i,k1,by omega,k3,k4⟩
       ·cases ho
theorem E3{P:Program}{tid:TypeId}{fs:List gf}{k o:Nat}(h:u6 P tid fs=true)(ho:lM fs k=some o):∃(gs:Array Field) (f:Field) (i:TypeInfo),P.underlying tid=some (.struct gs)∧gs.toList[k]?=some f∧f.offset=o∧P.info? f.type=some i∧0<i.size:=by
 simp only[u6,cA] at h;obtain⟨h1,_⟩:=h;split at h1
 ·rename_i gs hg;obtain⟨f,i,k1,k2,k3,k4⟩:=Dm h1 ho;exact⟨gs,f,i,hg,k1,by omega,k3,k4⟩
 ·cases h1
theorem pn{P:Program}:∀{fs:List gf} {gs:List Field} {off:Nat},vO P off fs gs=true→∃pl:List (Nat×Nat),gs.mapM (fun f=>(P.info? f.type).map fun i=>(f.offset,i.size))=some pl ∧
  ∀k o f,lM fs k=some o→fs[k]?=some f→pl[k]?=some (off+o,f.size):=by
 intro fs;induction fs with
 | nil =>
   intro gs off h;cases gs with
   | nil=>exact⟨[],rfl,fun k o f _ hf=>by cases hf⟩
   | cons g s=>cases h
 | cons f r ih =>
   intro gs off h;cases gs with
   | nil=>cases h
   | cons g s =>
     simp only[vO,cA] at h;obtain⟨⟨⟨h1,h2⟩,h3⟩,h4⟩:=h;obtain⟨pl,p1,p2⟩:=ih h4;split at h3
     ·rename_i i hi;refine⟨(g.offset,i.size)::pl,by simp[hi,p1],fun k o q ho hq=>?_⟩;cases k with
      | zero =>
        obtain rfl:=aq ho;obtain rfl:=aq hq;rw[GL,cK h1,cK h3];rfl
      | succ k =>
        simp only[lM] at ho;split at ho
        ·rename_i o' ho';obtain rfl:=aq ho;have:=p2 k o' q ho' (by simpa using hq);rw[GM,this,qj]
        ·cases ho
     ·cases h3
structure dy (P:Program) (cx:Ctx):Prop where
 T:∀tid t,find cx.T tid=some t→Den P t tid
 iY:∀tid,bN cx.iY tid=true→(∀w,(isAgg tid).run P w=.ok false w)∧(∀w,(Go.sizeOf tid).run P w=.ok 1 w)∧∃z,(∀w,(zeroValue tid).run P w=.ok z w)∧z.oneCell'=true
 eo:∀tid,bN cx.eo tid=true→∃e,P.underlying tid=some (.pointer e)
 fns:∀f fn,find cx.fns f=some fn→P.funcs[f]?=some fn
 jz:∀tid fs,find cx.jz tid=some fs→u6 P tid fs=true
 els:∀tid e,find cx.els tid=some e→P.underlying tid=some (.slice e)
theorem ek{o:Option Ty}{t:Ty}(h:qm o t=true):o=some t:=by
 unfold qm at h;split at h
 ·rw[Ty.eq_of_beq h]
 ·cases h
theorem addr_add(b o n:Nat):Addr.add ⟨b,o,none⟩ n=⟨b,o+n,none⟩:=by
 unfold Addr.add;split<;>simp_all
def splice(l:List Value)(off:Nat)(c:List Value):List Value:=l.take off++c++l.drop (off+c.length)
theorem bM{l c:List Value}{off:Nat}(h:off+c.length≤l.length):(splice l off c).length=l.length:=by
 simp[splice];omega
theorem iw.same{cur cur':Array Value}{fr:Nat×Nat}(h:iw cur fr)(hs:cur'.size=cur.size):iw cur' fr:=fun o ho=>h o (by omega)
section
variable {P:Program}
theorem EF.same{e:Ty}{cur cur':Array Value}{fr:Nat×Nat}(h:EF e cur fr)(hs:cur'.size=cur.size):EF e cur' fr:=⟨h.th.same hs,fun he=>by rw[hs];exact h.um he⟩
theorem cm(g o:Nat)(t:TypeId)(fr:Nat×Nat):∀(vs:List Value) (i:Nat) (cur:Array Value) (w:World),w.heap[g]?=some (.cells cur t fr)→iw cur fr →
  o+i+vs.length≤cur.size→(∀v∈vs,v.oneCell'=true)→(storeCells ⟨g,o,none⟩ vs i).run P w=.ok () (w.setRow g (splice cur.toList (o+i) vs).toArray)
 | [],i,cur,w,hg,_,_,_=>by
   simp only[storeCells,splice,xX,BJ,ow,wC,Array.toArray_toList];rw[setRow_self w g cur t fr hg];rfl
 | v::rest,i,cur,w,hg,CI,hl,h1=>by
   have hi:o+i<cur.size:=by simp at hl;omega
   have hcell:w.cell? ⟨g,o+i,none⟩=some cur[o+i]:=by simp[World.cell?,hg,hi]
   have Jq:w.frozen? ⟨g,o+i,none⟩=false:=by
    have:=CI (o+i) hi;simp only[World.frozen?,hg];obtain⟨a,b⟩:=fr;simp only[Bool.and_eq_false_iff,Gb];simp only at this;omega
   have hst:(store ((⟨g,o,none⟩:Addr).add i) v).run P w=.ok () (w.setRow g (cur.setIfInBounds (o+i) v)):=by
    rw[addr_add,run_store P w _ v _ (h1 v (by simp)),hcell];simp[Jq,setCell_eq_setRow w g (o+i) cur t fr v hg]
   have ih:=cm g o t fr rest (i+1) (cur.setIfInBounds (o+i) v) (w.setRow g (cur.setIfInBounds (o+i) v)) (setRow_heap w g cur _ t _ hg) (CI.same (by simp)) (by simp at hl⊢;omega) (fun x hx=>h1 x (by simp[hx]));simp only[storeCells,Sem.run_bind,hst,Result.andThen_ok,ih,setRow_setRow]
   congr 3
   have e:=list_seg_step cur.toList (o+i) v rest (by simp at hl⊢;omega);simpa [splice,F3,qj] using e
theorem cell_of_heap{w:World}{g:Nat}{cur:Array Value}{t:TypeId}{fr:Nat×Nat}(hg:w.heap[g]?=some (.cells cur t fr))(j:Nat):w.cell? ⟨g,j,none⟩=cur[j]?:=by
 simp[World.cell?,hg]
theorem nQ{w:World}{g off n:Nat}{cur:Array Value}{t:TypeId}{fr:Nat×Nat}(hg:w.heap[g]?=some (.cells cur t fr))(h:off+n≤cur.size) :
  (loadCells ⟨g,off,none⟩ n).run P w=.ok ((cur.toList.drop off).take n).toArray w:=by
 have hl:((cur.toList.drop off).take n).length=n:=by simp;omega
 have:=run_loadCells_list (P:=P) w ⟨g,off,none⟩ ((cur.toList.drop off).take n) (fun j v hv=>by
  rw[addr_add,cell_of_heap hg];rw[iO] at hv;split at hv
  ·rw[mz] at hv;simpa using hv
  ·cases hv)
 rwa [hl] at this
theorem qu{w:World}{I:Nat→Nat→Prop}{g off:Nat}{cs:List Value}(h:o9 w I g off cs):(loadCells ⟨g,off,none⟩ cs.length).run P w=.ok cs.toArray w :=
 run_loadCells_list (P:=P) w ⟨g,off,none⟩ cs (fun j v hv=>by rw[addr_add];exact(h j v hv).1)
end
end Go.Ge
namespace Go.Ge
theorem ec{a b:Nat}(h:a≠b):Nat.beq a b=false:=by
 cases hb:Nat.beq a b
 ·rfl
 ·exact absurd (cK hb) h
theorem Dn(a:Act)(d t:Nat)(v:Value)(hd:d<a.tmps.size):(a.put (some d) v).tmps.getD t undef=if t=d then v else a.tmps.getD t undef:=by
 simp only[Act.put,zJ,GK];by_cases h:d=t
 ·subst h;simp[hd]
 ·rw[dW h,dW (fun e=>h e.symm)]
theorem yf(a:Act)(d:Option Nat)(v:Value):(a.put d v).tmps.size=a.tmps.size:=by cases d<;>simp[Act.put]
theorem put_defers(a:Act)(d:Option Nat)(v:Value):(a.put d v).defers=a.defers:=by cases d<;>rfl
section
variable {B:iy} {N:Nat} {γ γ':Gh} {σ:St} {a:Act} {w w':World} {mem':Nat→Option aR}
theorem bP.step(h:bP B N γ σ a w)(hx:Ext B γ σ.mem w γ' mem' w')(hm:aN B γ' mem' w'){d:Nat}(hd:d<N){v:au}{val:Value}(hv:br γ' mem' w' v .val [val]) :
  bP B N γ' ({ slots:=σ.slots,mem:=mem':St }.put d v) (a.put (some d) val) w' where
 slots:=fun t=>by
  rw[Dn a d t val (by rw[h.size];exact hd)];simp only[St.put];by_cases e:t=d
  ·subst e;simpa using hv
  ·rw[dW e,ec e];exact(h.slots t).ext hx
 size:=by rw[yf];exact h.size
 defers:=by rw[put_defers];exact h.defers
 ok:=hm
theorem bP.go(h:bP B N γ σ a w)(hx:Ext B γ σ.mem w γ' mem' w')(hm:aN B γ' mem' w'):bP B N γ' { slots:=σ.slots,mem:=mem' } a w' where
 slots:=fun t=>(h.slots t).ext hx
 size:=h.size
 defers:=h.defers
 ok:=hm
theorem bP.aD(h:bP B N γ σ a w)(hx:Ext B γ σ.mem w γ' mem' w')(hm:aN B γ' mem' w'){d:Option Nat}(hd:∀k,d=some k→k<N){v:au}{val:Value}(hv:br γ' mem' w' v .val [val]) :
  bP B N γ' ({ slots:=σ.slots,mem:=mem':St }.aD d v) (a.put d val) w':=by
 cases d with
 | none=>exact h.go hx hm
 | some d=>exact h.step hx hm (hd d rfl) hv
theorem bP.lf(h:bP B N γ σ a w){d:Option Nat}(hd:∀k,d=some k→k<N){v:au}{val:Value}(hv:br γ σ.mem w v .val [val]) :
 bP B N γ (σ.aD d v) (a.put d val) w:=h.aD (Ext.refl _ _ _ _) h.ok hd hv
end
theorem cq{γ:Gh}{mem:Nat→Option aR}{w:World}{t:Ty}{x:t.den}{v:Value}:br γ mem w (.data t x) .val [v]↔∃cs,aX w γ.I t x cs∧v=bA t cs:=by
 simp only[br,BK,and_true]
theorem B0(γ:Gh)(mem:Nat→Option aR)(w:World)(v:Value):br γ mem w (sV v) .val [v]:=by
 unfold sV;split
 ·rename_i k n;cases hc:(decide (k.min≤n)&&decide (n≤k.max))
  ·exact⟨_,rfl⟩
  ·simp only[cA,u5] at hc;exact⟨[.int k n],⟨rfl,hc.1,hc.2⟩,rfl⟩
 ·rename_i b;exact⟨[.bool b],rfl,rfl⟩
 ·rename_i s;cases hc:Nat.ble s.data.toList.length 4294967296
  ·exact⟨_,rfl⟩
  ·refine⟨[.string s],⟨?_,?_⟩,rfl⟩
   ·obtain⟨⟨l⟩⟩:=s;rfl
   ·have:=rR hc;simp only[maxLen];omega
 ·rfl
 ·rfl
 ·rfl
 ·exact⟨_,rfl⟩
theorem bP.bz{B:iy}{N:Nat}{γ:Gh}{σ:St}{a:Act}{w:World}(h:bP B N γ σ a w)(x:Operand):br γ σ.mem w (bz σ x) .val [a.eval x]:=by
 cases x with
 | tmp t=>exact h.slots t
 | const v=>exact B0 _ _ _ v
 | global g=>exact⟨_,rfl⟩
 | func f=>exact⟨#[],rfl,rfl,fun i b ag hc=>by simp at hc⟩
theorem br.fX{γ:Gh}{mem:Nat→Option aR}{w:World}{v:au}{x:Value}(h:br γ mem w v .val [x])(hv:∀u,v≠.jT u)(h0:v=.undef→x.oneCell'=true):br γ mem w v .cells x.cells.toList:=by
 cases v with
 | undef=>exact⟨x,by cases x<;>first|rfl|(have:=h0 rfl;simp[Value.oneCell'] at this),h0 rfl⟩
 | data t y=>obtain⟨cs,h1,h2⟩:=cq.1 h;subst h2;show aX _ _ _ _ _;rw[iI h1];exact h1
 | gk=>obtain rfl:x=_:=by simpa [br] using h
       rfl
 | ij=>obtain rfl:x=_:=by simpa [br] using h
       rfl
 | iQ=>obtain rfl:x=_:=by simpa [br] using h
       rfl
 | jV b ag=>obtain⟨⟨v,h1,h2⟩,h3⟩:=h;simp at h1;subst h1;refine⟨⟨x,?_,h2⟩,?_⟩
            ·cases x<;>first|rfl|(simp[Value.oneCell'] at h2)
            ·obtain⟨bx,k1,k2,k3⟩:=h3;exact⟨bx,k1,k2,fun e=>by
              obtain⟨blk,cap,j1,j2⟩:=k3 e;refine⟨blk,cap,j1,?_⟩;rcases j2 with j2|j2
              ·simp at j2;subst j2;exact .inl rfl
              ·simp at j2;subst j2;exact .inr rfl⟩
 | cell t y=>obtain⟨blk,off,cs,h1,h2,h3⟩:=h;simp at h1;subst h1;exact⟨blk,off,cs,rfl,h2,h3⟩
 | ptr b ag p=>obtain⟨⟨v,h1,h2⟩,h3⟩:=h;simp at h1;subst h1;refine⟨⟨x,?_,h2⟩,?_⟩
               ·cases x<;>first|rfl|(simp[Value.oneCell'] at h2)
               ·obtain⟨bx,k1,k2,k3⟩:=h3;exact⟨bx,k1,k2,fun e=>by obtain⟨blk,cap,j1,j2⟩:=k3 e;simp at j2;subst j2;exact⟨blk,cap,j1,rfl⟩⟩
 | whole b ag=>obtain⟨⟨v,h1,h2⟩,h3⟩:=h;simp at h1;subst h1;refine⟨⟨x,?_,h2⟩,?_⟩
               ·cases x<;>first|rfl|(simp[Value.oneCell'] at h2)
               ·obtain⟨bx,k1,k2,k3⟩:=h3;exact⟨bx,k1,k2,fun e=>by
                 obtain⟨u,n,j1,j2,j3⟩:=k3 e;refine⟨u,n,j1,j2,?_⟩;rcases j3 with ⟨j3,j4⟩|⟨blk,cap,j3,j4⟩
                 ·simp at j4;subst j4;exact .inl ⟨j3,rfl⟩
                 ·simp at j4;subst j4;exact .inr ⟨blk,cap,j3,rfl⟩⟩
 | part b ag lo n=>obtain⟨⟨v,h1,h2⟩,h3⟩:=h;simp at h1;subst h1;refine⟨⟨x,?_,h2⟩,?_⟩
                   ·cases x<;>first|rfl|(simp[Value.oneCell'] at h2)
                   ·obtain⟨bx,k1,k2,k3⟩:=h3;exact⟨bx,k1,k2,fun e=>by
                     obtain⟨u,k,j1,j2,j3,j4,base,cap,j5,j6⟩:=k3 e;simp at j5;subst j5;exact⟨u,k,j1,j2,j3,j4,base,cap,rfl,j6⟩⟩
 | win b ag q e k lo n=>obtain⟨⟨v,h1,h2⟩,h3⟩:=h;simp at h1;subst h1;refine⟨⟨x,?_,h2⟩,?_⟩
                        ·cases x<;>first|rfl|(simp[Value.oneCell'] at h2)
                        ·obtain⟨bx,k1,k2,k3⟩:=h3;exact⟨bx,k1,k2,fun e=>by
                          obtain⟨j0,u,c,j1,j2,j3,j4,base,cap,j5,j6⟩:=k3 e;simp at j5;subst j5;exact⟨j0,u,c,j1,j2,j3,j4,base,cap,rfl,j6⟩⟩
 | fn f caps=>obtain⟨arr,h1,h2⟩:=h;simp at h1;subst h1;exact⟨arr,rfl,h2⟩
 | mix p q=>obtain⟨c1,c2,h1,h2,h3⟩:=h;simp at h1;subst h1;exact⟨c1,c2,by simp[Value.cells],h2,h3⟩
 | jT u=>exact absurd rfl (hv u)
 | nl=>exact h.elim
theorem br.length{γ:Gh}{mem:Nat→Option aR}{w:World}:∀{v:au} {cs:List Value},br γ mem w v .cells cs→cs.length=bL v:=by
 intro v;induction v with
 | data t x=>intro cs h;exact aX.length h
 | mix a b eN fE=>intro cs h;obtain⟨c1,c2,rfl,h1,h2⟩:=h;rw[ji,eN h1,fE h2];rfl
 | undef=>intro cs h;obtain⟨v,rfl,_⟩:=h;rfl
 | gk=>intro cs h;rw[show cs=_ from h];rfl
 | ij=>intro cs h;rw[show cs=_ from h];rfl
 | iQ=>intro cs h;rw[show cs=_ from h];rfl
 | jV b ag=>intro cs h;obtain⟨⟨_,rfl,_⟩,_⟩:=h;rfl
 | cell t x=>intro cs h;obtain⟨_,_,_,rfl,_⟩:=h;rfl
 | ptr b ag p=>intro cs h;obtain⟨⟨_,rfl,_⟩,_⟩:=h;rfl
 | whole b ag=>intro cs h;obtain⟨⟨_,rfl,_⟩,_⟩:=h;rfl
 | part b ag lo n=>intro cs h;obtain⟨⟨_,rfl,_⟩,_⟩:=h;rfl
 | win b ag q e k lo n=>intro cs h;obtain⟨⟨_,rfl,_⟩,_⟩:=h;rfl
 | fn f caps=>intro cs h;obtain⟨_,rfl,_⟩:=h;rfl
 | jT u ih=>intro cs h;exact h.elim
 | nl=>intro cs h;exact h.elim
theorem br.one{γ:Gh}{mem:Nat→Option aR}{w:World}:∀{v:au} {cs:List Value},br γ mem w v .cells cs→∀c∈cs,c.oneCell'=true:=by
 intro v;induction v with
 | data t x=>intro cs h;exact aX.one h
 | mix a b eN fE =>
   intro cs h c hc;obtain⟨c1,c2,rfl,h1,h2⟩:=h;rcases List.mem_append.1 hc with hc|hc
   ·exact eN h1 c hc
   ·exact fE h2 c hc
 | undef=>intro cs h c hc;obtain⟨v,rfl,h1⟩:=h;simp at hc;subst hc;exact h1
 | gk=>intro cs h c hc;rw[show cs=_ from h] at hc;simp at hc;subst hc;rfl
 | ij=>intro cs h c hc;rw[show cs=_ from h] at hc;simp at hc;subst hc;rfl
 | iQ=>intro cs h c hc;rw[show cs=_ from h] at hc;simp at hc;subst hc;rfl
 | jV b ag=>intro cs h c hc;obtain⟨⟨_,rfl,h1⟩,_⟩:=h;simp at hc;subst hc;exact h1
 | cell t x=>intro cs h c hc;obtain⟨_,_,_,rfl,_⟩:=h;simp at hc;subst hc;rfl
 | ptr b ag p=>intro cs h c hc;obtain⟨⟨_,rfl,h1⟩,_⟩:=h;simp at hc;subst hc;exact h1
 | whole b ag=>intro cs h c hc;obtain⟨⟨_,rfl,h1⟩,_⟩:=h;simp at hc;subst hc;exact h1
 | part b ag lo n=>intro cs h c hc;obtain⟨⟨_,rfl,h1⟩,_⟩:=h;simp at hc;subst hc;exact h1
 | win b ag q e k lo n=>intro cs h c hc;obtain⟨⟨_,rfl,h1⟩,_⟩:=h;simp at hc;subst hc;exact h1
 | fn f caps=>intro cs h c hc;obtain⟨_,rfl,_⟩:=h;simp at hc;subst hc;rfl
 | jT u ih=>intro cs h;exact h.elim
 | nl=>intro cs h;exact h.elim
theorem iR{α:Type}{l:List α}{i:Int}{x:α}(h:idx l i=some x):0≤i∧l[i.toNat]?=some x:=by
 unfold idx at h;split at h
 ·rename_i h0;exact⟨h0,h⟩
 ·cases h
theorem oC{w:World}{I:Nat→Nat→Prop}:∀{t:Ty} {x:t.den} {cs:List Value} {k o:Nat} {u:au},aX w I t x cs→gz t x k=some (o,u) →
  ∃(t':Ty) (y:t'.den),u=.data t' y∧jA t k=some t'∧eE t k=some o∧o+t'.size≤cs.length∧aX w I t' y ((cs.drop o).take t'.size):=by
 intro t;induction t with
 | pair a b eN fE =>
   intro x cs k o u h hk;obtain⟨c1,c2,rfl,h1,h2⟩:=h;cases k with
   | zero =>
     simp only[gz,iX,xZ] at hk;obtain⟨rfl,rfl⟩:=hk;refine⟨a,x.1,rfl,rfl,rfl,by rw[ji,h1.length];omega,?_⟩;rw[Be,←h1.length,BM];exact h1
   | succ k =>
     simp only[gz] at hk;cases hf:gz b x.2 k with
     | none=>rw[hf] at hk;cases hk
     | some r =>
       rw[hf] at hk;simp only[iX,xZ] at hk;obtain⟨rfl,rfl⟩:=hk;obtain⟨t',y,k1,k2,k3,k4,k5⟩:=fE h2 (show gz b x.2 k=some (r.1,r.2) from hf);refine⟨t',y,k1,k2,by simp[eE,k3],by rw[ji,h1.length];omega,?_⟩;rw[←h1.length,←lH,ou];exact k5
 | _=>intro x cs k o u h hk;cases k<;>simp[gz] at hk
theorem qv{γ:Gh}{mem:Nat→Option aR}{w:World}:∀{v:au} {cs:List Value} {k o:Nat} {u:au},br γ mem w v .cells cs→fG v k=some (o,u) →
  o+bL u≤cs.length∧br γ mem w u .cells ((cs.drop o).take (bL u)):=by
 intro v;induction v with
 | data t x =>
   intro cs k o u h hk;obtain⟨t',y,rfl,_,_,h1,h2⟩:=oC (w:=w) h hk;exact⟨h1,h2⟩
 | mix a b eN fE =>
   intro cs k o u h hk;obtain⟨c1,c2,rfl,h1,h2⟩:=h;cases k with
   | zero =>
     simp only[fG,iX,xZ] at hk;obtain⟨rfl,rfl⟩:=hk;refine⟨by rw[ji,h1.length];omega,?_⟩;rw[Be,←h1.length,BM];exact h1
   | succ k =>
     simp only[fG] at hk;cases hf:fG b k with
     | none=>rw[hf] at hk;cases hk
     | some r =>
       rw[hf] at hk;simp only[iX,xZ] at hk;obtain⟨rfl,rfl⟩:=hk;obtain⟨k4,k5⟩:=fE h2 (show fG b k=some (r.1,r.2) from hf);refine⟨by rw[ji,h1.length];omega,?_⟩;rw[←h1.length,←lH,ou];exact k5
 | _=>intro cs k o u h hk;cases k<;>simp[fG] at hk
theorem sK{γ:Gh}{mem:Nat→Option aR}{w:World}{t:Ty}{v:au}{z:t.den}{es:List Value}(h:toS t v=some z)(hv:br γ mem w v .cells es):aX w γ.I t z es:=by
 cases v with
 | data u y =>
   obtain⟨e,e2⟩:=Ty.eW (show Ty.to u t y=some z from h);subst e;subst e2;exact hv
 | _=>cases h
theorem bind_some{α β:Type}{t:Tree α}{f:α→Tree β}{y:β}(h:(t.bind f).run=some y):∃x,t.run=some x∧(f x).run=some y:=by
 rw[Tree.run_bind] at h;exact Option.bind_eq_some_iff.1 h
theorem bg{T α:Type}{o:Option T}{k:T→Tree α}{y:α}(h:(Tree.look o k).run=some y):∃x,o=some x∧(k x).run=some y:=by
 cases o with
 | none=>cases h
 | some x=>exact⟨x,rfl,h⟩
theorem bu{α:Type}{c:Bool}{t:Tree α}{y:α}(h:(Tree.need c t).run=some y):c=true∧t.run=some y:=by
 cases c with
 | false=>cases h
 | true=>exact⟨rfl,h⟩
theorem ah{α:Type}{c:Bool}{t:Tree α}{y:α}(h:(bif c then t else .fail).run=some y):c=true∧t.run=some y:=by
 cases c with
 | false=>cases h
 | true=>exact⟨rfl,h⟩
theorem dn{α:Type}{c:Bool}{t e:Tree α}{y:α}(h:(Tree.node c t e).run=some y):(bif c then t else e).run=some y:=by
 cases c<;>exact h
section
variable {γ:Gh} {mem:Nat→Option aR} {w:World}
theorem yg:∀{t:Ty} {x:t.den} {cs:List Value} {k o:Nat} {u:au} {y:t.den} {f:au→Tree au} {es:List Value},
  aX w γ.I t x cs→gz t x k=some (o,u)→(∀v,(f u).run=some v→br γ mem w v .cells es)→(sA t x k f).run=some y→es.length=bL u →
  aX w γ.I t y (splice cs o es):=by
 intro t;induction t with
 | pair a b eN fE =>
   intro x cs k o u y f es h hk hf hs hl;obtain⟨c1,c2,rfl,h1,h2⟩:=h;cases k with
   | zero =>
     simp only[gz,iX,xZ] at hk;obtain⟨rfl,rfl⟩:=hk;obtain⟨v,hf',hs⟩:=bind_some hs;have he:=hf v hf';cases hv:toS a v with
     | none=>rw[hv] at hs;cases hs
     | some z =>
       rw[hv] at hs;obtain rfl:=aq hs;simp only[bL] at hl;refine⟨es,c2,?_,sK hv he,h2⟩;simp only[splice,Bf,zP,kS];rw[show es.length=c1.length by rw[hl,h1.length],ou]
   | succ k =>
     simp only[gz] at hk;cases GZ:gz b x.2 k with
     | none=>rw[GZ] at hk;cases hk
     | some r =>
       rw[GZ] at hk;simp only[iX,xZ] at hk;obtain⟨rfl,rfl⟩:=hk;obtain⟨z,hq,hs⟩:=bind_some hs;obtain rfl:=aq hs;have:=fE h2 (show gz b x.2 k=some (r.1,r.2) from GZ) hf hq hl;refine⟨c1,splice c2 r.1 es,?_,h1,this⟩;simp only[splice,←h1.length,EK,mC]
       congr 1;congr 1;congr 1
       rw[qj,←lH,ou]
 | _=>intro x cs k o u y f es h hk;cases k<;>simp[gz] at hk
theorem tj:∀{v0:au} {cs:List Value} {k o:Nat} {u c:au} {f:au→Tree au} {es:List Value},
  br γ mem w v0 .cells cs→fG v0 k=some (o,u)→(∀v,(f u).run=some v→br γ mem w v .cells es)→(ql v0 k f).run=some c→es.length=bL u →
  br γ mem w c .cells (splice cs o es):=by
 intro v0;induction v0 with
 | data t x =>
   intro cs k o u c f es h hk hf hs hl;obtain⟨y,hy,hs⟩:=bind_some hs;obtain rfl:=aq hs;exact yg h hk hf hy hl
 | mix a b eN fE =>
   intro cs k o u c f es h hk hf hs hl;obtain⟨c1,c2,rfl,h1,h2⟩:=h;cases k with
   | zero =>
     simp only[fG,iX,xZ] at hk;obtain⟨rfl,rfl⟩:=hk;obtain⟨v,hf',hs⟩:=bind_some hs;have he:=hf v hf';obtain rfl:=aq hs;refine⟨es,c2,?_,he,h2⟩;simp only[splice,Bf,zP,kS];rw[show es.length=c1.length by rw[hl,h1.length],ou]
   | succ k =>
     simp only[fG] at hk;cases GZ:fG b k with
     | none=>rw[GZ] at hk;cases hk
     | some r =>
       rw[GZ] at hk;simp only[iX,xZ] at hk;obtain⟨rfl,rfl⟩:=hk;obtain⟨z,hq,hs⟩:=bind_some hs;obtain rfl:=aq hs;have:=fE h2 (show fG b k=some (r.1,r.2) from GZ) hf hq hl;refine⟨c1,splice c2 r.1 es,?_,h1,this⟩;simp only[splice,←h1.length,EK,mC]
       congr 1;congr 1;congr 1
       rw[qj,←lH,ou]
 | _=>intro cs k o u c f es h hk;cases k<;>simp[fG] at hk
theorem jW:∀{p:List oz} {v u:au} {cs:List Value},br γ mem w v .cells cs→(BT p v).run=some u→bC p+bL u≤cs.length∧br γ mem w u .cells ((cs.drop (bC p)).take (bL u)):=by
 intro p;induction p with
 | nil =>
   intro v u cs h hn;obtain rfl:=aq hn;have hl:=h.length;refine⟨by simp[bC];omega,?_⟩;rw[show bC []=0 from rfl,Be,←hl,List.take_length];exact h
 | cons s p ih =>
   intro v u cs h hn;cases s with
   | wK k off =>
     simp only[BT] at hn;cases hf:fG v k with
     | none=>rw[hf] at hn;cases hn
     | some r =>
       rw[hf] at hn;obtain⟨hb,hn2⟩:=ah hn;have hoff:=cK hb;obtain⟨h1,h2⟩:=qv h (show fG v k=some (r.1,r.2) from hf);obtain⟨h3,h4⟩:=ih h2 hn2;have hl:=h2.length;simp only[bC,←hoff];rw[hl] at h3;refine⟨by omega,?_⟩;rw[Bg,CZ,lH,qi (by omega)] at h4;exact h4
   | idx i size =>
     simp only[BT] at hn;split at hn
     ·rename_i n e l;obtain⟨hb,hn2⟩:=ah hn;have hsz:=cK hb;obtain⟨x,hx,E4⟩:=bg hn2;obtain⟨h0,hx2⟩:=iR hx;obtain⟨k1,k2,k3⟩:=h;have hr:=k3 _ x hx2;obtain⟨h3,h4⟩:=ih (v:=.data e x) (show br γ mem w (.data e x) .cells _ from hr) E4;have hl:=hr.length;have hi:i.toNat<n:=by have:=(List.getElem?_eq_some_iff.1 hx2).1;omega
      have hm:(i.toNat+1)*e.size≤n*e.size:=iN _ hi;rw[mD] at hm;rw[hl] at h3;simp only[bC,hsz];refine⟨by omega,?_⟩;rw[Bg,CZ,lH,qi (by omega)] at h4;exact h4
     ·cases hn
theorem iJ(cs:List Value)(a b:Nat)(n:Nat)(es:List Value)(h:b+es.length≤n)(hn:a+n≤cs.length) :
  splice cs a (splice ((cs.drop a).take n) b es)=splice cs (a+b) es:=by
 have hl:((cs.drop a).take n).length=n:=by simp;omega
 have hls:(splice ((cs.drop a).take n) b es).length=n:=by rw[bM (by omega),hl]
 have e1:splice cs a (splice ((cs.drop a).take n) b es)=cs.take a++splice ((cs.drop a).take n) b es++cs.drop (a+n):=by
  rw[splice,hls]
 rw[e1];simp only[splice,mC];rw[CZ,qi (by omega),←mC,←List.take_add]
 congr 1;congr 1
 have:cs.drop (a+n)=(cs.drop a).drop n:=by rw[lH]
 rw[this,←H7 (by rw[hl];exact h),wC,lH,qj]
theorem tq{I:Nat→Nat→Prop}{e:Ty}{n:Nat}{l:List e.den}{cs es:List Value}{i:Nat}{y:e.den}(hl:l.length=n)(hc:n*e.size≤cs.length)
  (h:∀(j:Nat) (x:e.den),l[j]?=some x→aX w I e x ((cs.drop (j*e.size)).take e.size)) (hi:i<n) (hy:aX w I e y es) :
  ∀(j:Nat) (x:e.den),(l.set i y)[j]?=some x→aX w I e x (((splice cs (i*e.size) es).drop (j*e.size)).take e.size):=by
 intro j x hx;have hel:=hy.length;have hm:(i+1)*e.size≤n*e.size:=iN _ hi;rw[mD] at hm;have htl:(cs.take (i*e.size)).length=i*e.size:=by rw[ig];omega
 rw[List.getElem?_set] at hx;split at hx
 ·rename_i hij;subst hij;split at hx
  ·obtain rfl:=aq hx;have:((splice cs (i*e.size) es).drop (i*e.size)).take e.size=es:=by
    rw[splice,mC]
    conv=>lhs;arg 2;arg 1;rw[←htl]
    rw[htl,CX htl,←hel,BM]
   rw[this];exact hy
  ·cases hx
 ·rename_i hij;have hj:j<n:=by have:=(List.getElem?_eq_some_iff.1 hx).1;omega
  have KM:(j+1)*e.size≤n*e.size:=iN _ hj;rw[mD] at KM;have key:((splice cs (i*e.size) es).drop (j*e.size)).take e.size=(cs.drop (j*e.size)).take e.size:=by
   apply zN;intro q;rw[iO,iO];split
   ·rename_i hq;rw[mz,mz,splice];rcases qk j i with h1|h1
    ·have:(j+1)*e.size≤i*e.size:=iN _ h1;rw[mD] at this;rw[mC,EL (by omega),iO,fF (by omega)]
    ·have:(i+1)*e.size≤j*e.size:=iN _ (by omega);rw[mD] at this;rw[F4 (by rw[ji];omega),mz,ji,htl]
     congr 1;omega
   ·rfl
  rw[key];exact h j x hx
theorem lQ:∀{p:List oz} {v u0 u c:au} {cs es:List Value},br γ mem w v .cells cs→(BT p v).run=some u0→(kG p v u).run=some c→br γ mem w u .cells es→es.length=bL u0 →
  br γ mem w c .cells (splice cs (bC p) es):=by
 intro p;induction p with
 | nil =>
   intro v u0 u c cs es h hn hs he hl;obtain rfl:=aq hn;obtain rfl:=aq hs;have:=h.length;simp only[bC,splice,Bf,zP,kS];rw[List.drop_of_length_le (by omega),xX];exact he
 | cons s p ih =>
   intro v u0 u c cs es h hn hs he hl;cases s with
   | wK k off =>
     simp only[BT] at hn;cases hf:fG v k with
     | none=>rw[hf] at hn;cases hn
     | some r =>
       rw[hf] at hn;obtain⟨hb,hn2⟩:=ah hn;have hoff:=cK hb;obtain⟨h1,h2⟩:=qv h (show fG v k=some (r.1,r.2) from hf);obtain⟨h3,h4⟩:=jW h2 hn2;have zH:=h2.length;rw[zH] at h3;have:=tj (f:=fun w=>kG p w u) h (show fG v k=some (r.1,r.2) from hf) (fun z hq=>ih (u:=u) h2 hn2 hq he hl) hs (by rw[bM (by rw[zH,hl];exact h3),zH]);rw[iJ cs r.1 (bC p) (bL r.2) es (by omega) h1,hoff] at this;exact this
   | idx i size =>
     simp only[BT] at hn;split at hn
     ·rename_i n e l;obtain⟨hb,hn2⟩:=ah hn;have hsz:=cK hb;obtain⟨x,hx,E4⟩:=bg hn2;simp only[kG] at hs;obtain⟨x',hx',hs2⟩:=bg hs;obtain rfl:x=x':=aq (hx.symm.trans hx');obtain⟨z,hq,hs3⟩:=bind_some hs2;cases hz:toS e z with
      | none=>rw[hz] at hs3;cases hs3
      | some y =>
        rw[hz] at hs3;obtain rfl:=aq hs3;obtain⟨h0,hx2⟩:=iR hx;obtain⟨k1,k2,k3⟩:=h;have hr:=k3 _ x hx2;have hi:i.toNat<n:=by have:=(List.getElem?_eq_some_iff.1 hx2).1;omega
        have hm:(i.toNat+1)*e.size≤n*e.size:=iN _ hi;rw[mD] at hm;have Ik:br γ mem w (.data e x) .cells ((cs.drop (i.toNat*e.size)).take e.size):=hr;obtain⟨h3,h4⟩:=jW Ik E4;have hrl:=hr.length;rw[hrl] at h3;have Jr:=sK hz (ih Ik E4 hq he hl);have EG:(splice ((cs.drop (i.toNat*e.size)).take e.size) (bC p) es).length=e.size:=by rw[bM (by rw[hrl,hl];exact h3),hrl]
        have e1:=iJ cs (i.toNat*e.size) (bC p) e.size es (by omega) (by omega);simp only[bC,hsz];rw[←e1];refine⟨?_,?_,?_⟩
        ·exact(@List.length_set _ (l:List e.den) _ _).trans k1
        ·rw[bM (by omega)];exact k2
        ·exact tq k1 (by omega) k3 hi Jr
     ·cases hn
end
end Go.Ge
namespace Go.Ge
open RowKit
section
variable {B:iy} {γ γ':Gh} {mem mem':Nat→Option aR} {w w':World}
theorem bB.keep{c:Nat}{bx:aR}(h:bB γ mem w c bx)(hx:Ext B γ mem w γ' mem' w')(hl:γ'.loc c=γ.loc c)
  (hb:∀blk k,γ.loc c=some (blk,k)→w'.heap[blk]?=w.heap[blk]?):bB γ' mem' w' c bx:=by
 unfold bB at h⊢;cases aQ:bx.buf with
 | true =>
   rw[aQ] at h;obtain⟨e,l,h1,h2,h3⟩:=h;refine⟨e,l,h1,h2,?_⟩;rcases h3 with ⟨h3,h4⟩|⟨blk,cap,cur,tid,fr,h3,h4,h5,de,h6,h7,h8,h9⟩
   ·exact .inl ⟨hl.trans h3,h4⟩
   ·exact .inr ⟨blk,cap,cur,tid,fr,hl.trans h3,(hb _ _ h3).trans h4,h5,de,h6,h7,h8,fun i x hi=>aX.mono hx.I hx.cells (h9 i x hi)⟩
 | false =>
   rw[aQ] at h;obtain⟨blk,cap,cur,tid,fr,h3,h4,h5,hk,h6⟩:=h;exact⟨blk,cap,cur,tid,fr,hl.trans h3,(hb _ _ h3).trans h4,h5,hk,h6.ext hx⟩
theorem dD{a:Addr}(h:w'.heap[a.block]?=w.heap[a.block]?):w'.cell? a=w.cell? a:=by simp[World.cell?,h]
def aT(γ:Gh)(b:Nat)(L:Option (Nat×Nat)):Gh:={ γ with loc:=fun i=>if i=b then L else γ.loc i }
def bD(mem:Nat→Option aR)(b:Nat)(bx:aR):Nat→Option aR:=fun i=>bif Nat.beq i b then some bx else mem i
theorem aP(b:Nat)(bx:aR):bD mem b bx b=some bx:=by simp[bD]
theorem az{b c:Nat}(bx:aR)(h:c≠b):bD mem b bx c=mem c:=by simp[bD,ec h]
theorem jm(h:aN B γ mem w){b:Nat}{bx:aR}{L:Option (Nat×Nat)}(aE:∀bT,mem b=some bT→bT.ag<bx.ag)
  (hw:jI B w w') (hold:∀k,k<w.heap.size→w'.heap[k]?=w.heap[k]?):Ext B γ mem w (aT γ b L) (bD mem b bx) w' where
 below:=hw
 I:=fun _ _ x=>x
 jK:=fun _ _ x=>.inl x
 cells:=fun blk o x=>dD (hold blk (h.jJ blk o x))
 boxes:=fun c cx hc=>by
  by_cases e:c=b
  ·subst e;refine⟨bx,aP _ _,Da (aE _ hc),fun e=>absurd e ?_⟩;have:=aE _ hc;omega
  ·exact⟨cx,by rw[az _ e];exact hc,en _,fun _=>⟨by simp[aT,e],rfl,rfl⟩⟩
theorem aN.add(h:aN B γ mem w){b:Nat}{bx:aR}{L:Option (Nat×Nat)}(aE:∀bT,mem b=some bT→bT.ag<bx.ag)
  (hw:jI B w w') (hold:∀k,k<w.heap.size→w'.heap[k]?=w.heap[k]?) (hL:∀blk k,L=some (blk,k)→w.heap.size≤blk∧blk<w'.heap.size)
  (eH:bB (aT γ b L) (bD mem b bx) w' b bx):aN B (aT γ b L) (bD mem b bx) w' where
 b6:=h.pe (jm (L:=L) h aE hw hold)
 base:=gj h.base hw.size
 boxes:=fun c cx hc=>by
  by_cases e:c=b
  ·subst e;rw[aP] at hc;obtain rfl:=aq hc;exact eH
  ·rw[az _ e] at hc;refine(h.boxes c cx hc).keep (jm h aE hw hold) (by simp[aT,e]) fun blk k hl=>hold blk (h.fresh c blk k (by rw[hc];simp) hl).2
 inj:=fun c d blk k k' hc hd h1 h2=>by
  by_cases e:c=b
  ·by_cases e2:d=b
   ·rw[e,e2]
   ·exfalso;simp only[aT,fF e] at h1;simp only[aT,dW e2] at h2;rw[az _ e2] at hd;have:=(h.fresh d blk k' hd h2).2;have:=(hL _ _ h1).1;omega
  ·by_cases e2:d=b
   ·exfalso;simp only[aT,dW e] at h1;simp only[aT,fF e2] at h2;rw[az _ e] at hc;have:=(h.fresh c blk k hc h1).2;have:=(hL _ _ h2).1;omega
   ·simp only[aT,dW e] at h1;simp only[aT,dW e2] at h2;rw[az _ e] at hc;rw[az _ e2] at hd;exact h.inj c d blk k k' hc hd h1 h2
 fresh:=fun c blk k hc h1=>by
  by_cases e:c=b
  ·simp only[aT,fF e] at h1;obtain⟨h2,h3⟩:=hL _ _ h1;exact⟨.inl (by have:=h.base;omega),h3⟩
  ·simp only[aT,dW e] at h1;rw[az _ e] at hc;have:=h.fresh c blk k hc h1;exact⟨this.1,qh this.2 hw.size⟩
 jJ:=fun blk off hi=>qh (h.jJ blk off hi) hw.size
 sep:=fun c cx blk k off hc h1 hi=>by
  by_cases e:c=b
  ·exfalso;simp only[aT,fF e] at h1;have:=(hL _ _ h1).1;have:=h.jJ blk off hi;omega
  ·simp only[aT,dW e] at h1;rw[az _ e] at hc;exact h.sep c cx blk k off hc h1 hi
theorem b9(w:World)(o:Obj):∀k,k<w.heap.size→(w.alloc o).heap[k]?=w.heap[k]?:=fun k hk=>Below.heap_alloc w o k hk
theorem mM(cs:Array Value):iw cs (0,0):=fun o _ h=>by omega
theorem mN(e:Ty)(cs:Array Value):EF e cs (0,0):=⟨mM cs,fun _ h=>by omega⟩
theorem aN.newVar(h:aN B γ mem w){b:Nat}{v:au}{tid:TypeId}{ag:Nat}(aE:∀bT,mem b=some bT→bT.ag<ag){cs:Array Value}(t':TypeId)(de:tid=0∨t'=tid)(hv:br γ mem w v .cells cs.toList) :
  let bx:aR:={ val:=v,tid,buf:=false,ro:=false,lk:=false,ag }
  aN B (aT γ b (some (w.heap.size,0))) (bD mem b bx) (w.alloc (.cells cs t'))∧Ext B γ mem w (aT γ b (some (w.heap.size,0))) (bD mem b bx) (w.alloc (.cells cs t')):=by
 intro bx;have hw:jI B w (w.alloc (.cells cs t')):=(jI.refl _ _).alloc h.base _;have hx:=jm (L:=some (w.heap.size,0)) h (bx:=bx) aE hw (b9 w _);refine⟨h.add aE hw (b9 w _) (fun blk k e=>by obtain⟨rfl,rfl⟩:=bY (aq e);exact⟨en _,by simp⟩) ?_,hx⟩;exact⟨w.heap.size,0,cs,t',(0,0),by simp[aT],heap_alloc_new w _,mM cs,de,hv.ext hx⟩
theorem aN.Dp(h:aN B γ mem w){b:Nat}{e:Ty}{l:List e.den}{tid:TypeId}{ag cap blk:Nat}(aE:∀bT,mem b=some bT→bT.ag<ag){cs:Array Value}{t':TypeId}{fr:Nat×Nat}(he:0<e.size)
  (hw:jI B w w') (hold:∀k,k<w.heap.size→w'.heap[k]?=w.heap[k]?) (hge:w.heap.size≤blk) (hnew:w'.heap[blk]?=some (.cells cs t' fr)) (CI:EF e cs fr) (de:tid=0∨t'=tid)
  (h1:l.length≤cap) (h2:cap≤maxLen) (h3:cs.size=cap*e.size) (h4:∀(i:Nat) (x:e.den),l[i]?=some x→aX w' γ.I e x ((cs.toList.drop (i*e.size)).take e.size)) :
  let bx:aR:={ val:=.data (.slice e) l,tid,buf:=true,ro:=false,lk:=false,ag }
  aN B (aT γ b (some (blk,cap))) (bD mem b bx) w'∧Ext B γ mem w (aT γ b (some (blk,cap))) (bD mem b bx) w':=by
 intro bx;have hlt:blk<w'.heap.size:=(Array.getElem?_eq_some_iff.1 hnew).1;have hx:=jm (L:=some (blk,cap)) h (bx:=bx) aE hw hold;refine⟨h.add aE hw hold (fun c k q=>by obtain⟨rfl,rfl⟩:=bY (aq q);exact⟨hge,hlt⟩) ?_,hx⟩;exact⟨e,l,rfl,he,.inr ⟨blk,cap,cs,t',fr,by simp[aT],hnew,CI,de,h1,h2,h3,h4⟩⟩
theorem aN.wS(h:aN B γ mem w){b:Nat}{e:Ty}{l:List e.den}{tid:TypeId}{ag cap:Nat}(aE:∀bT,mem b=some bT→bT.ag<ag){cs:Array Value}{t':TypeId}{fr:Nat×Nat}(he:0<e.size)
  (hw:jI B w w') (hold:∀k,k<w.heap.size→w'.heap[k]?=w.heap[k]?) (hnew:w'.heap[w.heap.size]?=some (.cells cs t' fr)) (CI:EF e cs fr) (de:tid=0∨t'=tid)
  (h1:l.length≤cap) (h2:cap≤maxLen) (h3:cs.size=cap*e.size) (h4:∀(i:Nat) (x:e.den),l[i]?=some x→aX w γ.I e x ((cs.toList.drop (i*e.size)).take e.size)) :
  let bx:aR:={ val:=.data (.slice e) l,tid,buf:=true,ro:=false,lk:=false,ag }
  aN B (aT γ b (some (w.heap.size,cap))) (bD mem b bx) w'∧Ext B γ mem w (aT γ b (some (w.heap.size,cap))) (bD mem b bx) w' :=
 h.Dp aE he hw hold (en _) hnew CI de h1 h2 h3 fun i x hi =>
  aX.mono (fun _ _ q=>q) (fun blk o q=>dD (hold blk (h.jJ blk o q))) (h4 i x hi)
theorem aN.tr(h:aN B γ mem w){b:Nat}{e:Ty}{tid:TypeId}{ag:Nat}(aE:∀bT,mem b=some bT→bT.ag<ag)(he:0<e.size) :
  let bx:aR:={ val:=.data (.slice e) ([]:List e.den),tid,buf:=true,ro:=false,lk:=false,ag }
  aN B (aT γ b none) (bD mem b bx) w∧Ext B γ mem w (aT γ b none) (bD mem b bx) w:=by
 intro bx;have hx:=jm (L:=none) h (bx:=bx) aE (jI.refl B w) (fun _ _=>rfl);refine⟨h.add aE (jI.refl B w) (fun _ _=>rfl) (fun blk k e=>by cases e) ?_,hx⟩;exact⟨e,[],rfl,he,.inl ⟨by simp[aT],rfl⟩⟩
theorem pq{bx:aR}{off:Nat}(h:zZ bx off)(hro:bx.ro=false):False:=by rw[zZ,hro] at h;exact absurd h.1 (by simp)
theorem aN.write(h:aN B γ mem w){b:Nat}{bx:aR}(hb:mem b=some bx)(hro:bx.ro=false){blk k:Nat}(hl:γ.loc b=some (blk,k)){cur cur':Array Value}{t:TypeId}{fr:Nat×Nat}
  (hg:w.heap[blk]?=some (.cells cur t fr)) (hs:cur'.size=cur.size) {v:au} (hrow:({ bx with val:=v }:aR).row=bx.row)
  (eH:∀w' mem',Ext B γ mem w γ mem' w'→w'.heap[blk]?=some (.cells cur' t fr)→bB γ mem' w' b { bx with val:=v }) :
  aN B γ (bD mem b { bx with val:=v }) (w.setRow blk cur')∧Ext B γ mem w γ (bD mem b { bx with val:=v }) (w.setRow blk cur'):=by
 have hf:=h.fresh b blk k (by rw[hb];simp) hl;have E5:=setRow_heap w blk cur cur' t fr hg;have kL:∀i,i≠blk→(w.setRow blk cur').heap[i]?=w.heap[i]?:=fun i hi=>setRow_other w blk i cur' (fun e=>hi e);have hx:Ext B γ mem w γ (bD mem b { bx with val:=v }) (w.setRow blk cur') :=
  { below:=⟨rfl,rfl,rfl,by simp,fun i hi=>kL i (fun e=>hi (by rw[e];exact hf.1))⟩
    I:=fun _ _ x=>x
    jK:=fun _ _ x=>.inl x
    cells:=fun c o x=>by
     by_cases e:c=blk
     ·subst e;exact(pq (h.sep b bx c k o hb hl x) hro).elim
     ·exact dD (kL c e)
    boxes:=fun c cx hc=>by
     by_cases e:c=b
     ·subst e;obtain rfl:cx=bx:=aq (hc.symm.trans hb);exact⟨_,aP _ _,en _,fun _=>⟨rfl,rfl,hrow⟩⟩
     ·exact⟨cx,by rw[az _ e];exact hc,en _,fun _=>⟨rfl,rfl,rfl⟩⟩ }
 refine⟨?_,hx⟩;exact
  { b6:=h.pe hx
    base:=by have:=h.base;simpa using this
    boxes:=fun c cx hc=>by
     by_cases e:c=b
     ·subst e;rw[aP] at hc;obtain rfl:=aq hc;exact eH _ _ hx E5
     ·rw[az _ e] at hc;refine(h.boxes c cx hc).keep hx rfl fun b7 k' hl'=>kL b7 fun e2=>e ?_;subst e2;exact h.inj c b b7 k' k (by rw[hc];simp) (by rw[hb];simp) hl' hl
    inj:=fun c d b7 k1 k2 hc hd h1 h2=>h.inj c d b7 k1 k2 (by
     by_cases e:c=b
     ·subst e;rw[hb];simp
     ·rwa [az _ e] at hc) (by
     by_cases e:d=b
     ·subst e;rw[hb];simp
     ·rwa [az _ e] at hd) h1 h2
    fresh:=fun c b7 k' hc h1=>by
     have:=h.fresh c b7 k' (by
      by_cases e:c=b
      ·subst e;rw[hb];simp
      ·rwa [az _ e] at hc) h1
     exact⟨this.1,by simpa using this.2⟩
    jJ:=fun b7 off hi=>by have:=h.jJ b7 off hi;simpa using this
    sep:=fun c cx b7 k' off hc h1 hi=>by
     by_cases e:c=b
     ·subst e;rw[hl] at h1;obtain⟨rfl,rfl⟩:=bY (aq h1);exact(pq (h.sep c bx blk k off hb hl hi) hro).elim
     ·rw[az _ e] at hc;exact h.sep c cx b7 k' off hc h1 hi }
def tu(γ:Gh)(b:Nat)(n:Nat):Gh:={ γ with I:=fun blk off=>γ.I blk off∨((∃k,γ.loc b=some (blk,k))∧off<n) }
theorem aN.freeze(h:aN B γ mem w){b:Nat}{bx:aR}(hb:mem b=some bx){e:Ty}{n:Nat}(hrow:bx.row=some (e,n)) :
  aN B (tu γ b (n*e.size)) (bD mem b { bx with ro:=true }) w∧Ext B γ mem w (tu γ b (n*e.size)) (bD mem b { bx with ro:=true }) w:=by
 have hx:Ext B γ mem w (tu γ b (n*e.size)) (bD mem b { bx with ro:=true }) w :=
  { below:=jI.refl _ _
    I:=fun _ _ x=>.inl x
    jK:=fun blk o x=>by
     rcases x with x|⟨⟨k,x⟩,_⟩
     ·exact .inl x
     ·exact .inr (h.fresh b blk k (by rw[hb];simp) x).1
    cells:=fun _ _ _=>rfl
    boxes:=fun c cx hc=>by
     by_cases e:c=b
     ·subst e;obtain rfl:cx=bx:=aq (hc.symm.trans hb);exact⟨_,aP _ _,en _,fun _=>⟨rfl,rfl,rfl⟩⟩
     ·exact⟨cx,by rw[az _ e];exact hc,en _,fun _=>⟨rfl,rfl,rfl⟩⟩ }
 refine⟨?_,hx⟩;exact
  { b6:=h.pe hx
    base:=h.base
    boxes:=fun c cx hc=>by
     by_cases e:c=b
     ·subst e;rw[aP] at hc;obtain rfl:=aq hc;have:=(h.boxes c bx hb).keep hx rfl (fun _ _ _=>rfl);exact this
     ·rw[az _ e] at hc;exact(h.boxes c cx hc).keep hx rfl (fun _ _ _=>rfl)
    inj:=fun c d b7 k1 k2 hc hd h1 h2=>h.inj c d b7 k1 k2 (by
     by_cases e:c=b
     ·subst e;rw[hb];simp
     ·rwa [az _ e] at hc) (by
     by_cases e:d=b
     ·subst e;rw[hb];simp
     ·rwa [az _ e] at hd) h1 h2
    fresh:=fun c b7 k' hc h1=>h.fresh c b7 k' (by
     by_cases e:c=b
     ·subst e;rw[hb];simp
     ·rwa [az _ e] at hc) h1
    jJ:=fun b7 off hi=>by
     rcases hi with hi|⟨⟨k,hk⟩,_⟩
     ·exact h.jJ b7 off hi
     ·exact(h.fresh b b7 k (by rw[hb];simp) hk).2
    sep:=fun c cx b7 k' off hc h1 hi=>by
     by_cases e':c=b
     ·subst e';rw[aP] at hc;obtain rfl:=aq hc;rcases hi with hi|⟨⟨k,hk⟩,ho⟩
      ·obtain⟨a1,a2⟩:=h.sep c bx b7 k' off hb h1 hi;exact⟨rfl,a2⟩
      ·refine⟨rfl,fun _ u m hr=>?_⟩;have hr':bx.row=some (u,m):=hr;rw[hrow] at hr';obtain⟨rfl,rfl⟩:=bY (aq hr');exact ho
     ·rw[az _ e'] at hc;rcases hi with hi|⟨⟨k,hk⟩,ho⟩
      ·exact h.sep c cx b7 k' off hc h1 hi
      ·exact absurd (h.inj c b b7 k' k (by rw[hc];simp) (by rw[hb];simp) h1 hk) e' }
end
end Go.Ge
namespace Go.Ge
open RowKit
def gh(P:Program)(B:iy)(N:Nat)(γ:Gh)(σ:St)(a:Act)(w:World)(d:Option Nat)(s:Sem Value)(σ':St):Prop :=
 ∃v w' γ',s.run P w=.ok v w'∧bP B N γ' σ' (a.put d v) w'∧Ext B γ σ.mem w γ' σ'.mem w'
section
variable {P:Program} {B:iy} {N:Nat} {γ:Gh} {σ σ':St} {a:Act} {w:World} {d:Option Nat}
theorem aU(h:bP B N γ σ a w)(hd:∀k,d=some k→k<N){s:Sem Value}{v:au}{x:Value}(hs:s.run P w=.ok x w)(hv:br γ σ.mem w v .val [x]) :
  gh P B N γ σ a w d s (σ.aD d v) :=
 ⟨x,w,γ,hs,h.lf hd hv,by cases d<;>exact Ext.refl _ _ _ _⟩
theorem cc{β:Type}{b:Nat}{val:au}{tid:TypeId}{buf:Bool}{k:Nat→St→Tree β}{y:β}(h:(σ.ay b val tid buf k).run=some y) :
  ∃ag,(∀bT,σ.mem b=some bT→bT.ag<ag)∧(k ag (σ.bt b { val,tid,buf,ro:=false,lk:=false,ag })).run=some y:=by
 unfold St.ay at h;split at h
 ·rename_i bx hb;cases hl:bx.lk with
  | true=>rw[hl] at h;cases h
  | false =>
    rw[hl] at h;exact⟨bx.ag+1,(fun bT h0=>by rw[hb] at h0;obtain rfl:=aq h0;omega),h⟩
 ·rename_i hb;exact⟨0,(fun bT h0=>by rw[hb] at h0;cases h0),h⟩
theorem jL(σ:St)(b:Nat)(bx:aR):(σ.bt b bx).mem=bD σ.mem b bx:=rfl
theorem cJ{mem:Nat→Option aR}{b ag:Nat}{bx:aR}(h:mem b=some bx)(hv:bx.ag=ag){K:aR→Prop}(hk:K bx):fI mem b ag K :=
 ⟨bx,h,by omega,fun _=>hk⟩
theorem lg{cx:Ctx}(hc:dy P cx){nb:Nat}{bf:List Nat}{ty:TypeId}{x:Operand}(h:bP B N γ σ a w)(hd:∀k,d=some k→k<N)
  (hr:(eF cx nb bf d ty (bz σ x) σ).run=some σ'):gh P B N γ σ a w d (pure (a.eval x)) σ':=by
 have hv:=h.bz x;unfold eF at hr;split at hr
 ·rename_i hn;rw[hn] at hv;obtain⟨_,hr⟩:=ah hr;obtain rfl:=aq hr;exact aU h hd rfl hv
 ·rename_i hn;rw[hn] at hv;have hx:a.eval x=.slice none 0 0:=by simpa [br] using hv
  split at hr
  ·rename_i k e hT;cases hb:bN bf k with
   | true =>
     rw[hb] at hr;simp only[gD] at hr;obtain⟨ag,aE,hr2⟩:=cc hr;obtain rfl:=aq hr2;obtain⟨bX,h1,h2,h3,h4⟩:=(hc.T _ _ hT).slice;obtain⟨m1,m2⟩:=h.ok.tr (tid:=0) aE h4;refine⟨_,w,_,rfl,h.step m2 m1 (hd k rfl) ?_,m2⟩;rw[hx];exact⟨⟨_,rfl,rfl⟩,cJ (aP _ _) rfl ⟨e,0,rfl,rfl,.inl ⟨by simp[aT],rfl⟩⟩⟩
   | false =>
     rw[hb] at hr;obtain rfl:=aq hr;exact aU (d:=some k) h hd rfl (by rw[hx];exact⟨_,.inl ⟨⟨none,rfl⟩,rfl⟩,rfl⟩)
  ·obtain rfl:=aq hr;exact aU h hd rfl (by rw[hx];rfl)
 ·obtain rfl:=aq hr;exact aU h hd rfl hv
theorem lR{b:Bool}{v:Value}(h:br γ σ.mem w (.data .bool b) .val [v]):v=.bool b:=by
 obtain⟨cs,h1,h2⟩:=cq.1 h;rw[h2,show cs=_ from h1];rfl
theorem iZ{k:IntKind}{n:Int}{v:Value}(h:br γ σ.mem w (.data (.int k) n) .val [v]):v=.int k n∧k.min≤n∧n≤k.max:=by
 obtain⟨cs,h1,h2⟩:=cq.1 h;rw[h2,h1.1];exact⟨rfl,h1.2⟩
theorem kM{s:List UInt8}{v:Value}(h:br γ σ.mem w (.data .str s) .val [v]):v=.string ⟨s.toArray⟩∧s.length≤maxLen:=by
 obtain⟨cs,h1,h2⟩:=cq.1 h;rw[h2,h1.1];exact⟨rfl,h1.2⟩
theorem dz(b:Bool):br γ σ.mem w (.data .bool b) .val [.bool b]:=⟨_,rfl,rfl⟩
theorem mkInt{k:IntKind}{n:Int}(h:k.min≤n∧n≤k.max):br γ σ.mem w (.data (.int k) n) .val [.int k n]:=⟨_,⟨rfl,h.1,h.2⟩,rfl⟩
theorem mkStr{s:List UInt8}(h:s.length≤maxLen):br γ σ.mem w (.data .str s) .val [.string ⟨s.toArray⟩]:=⟨_,⟨rfl,h⟩,rfl⟩
theorem tw{c x y:Operand}(h:bP B N γ σ a w)(hd:∀k,d=some k→k<N)(hr:(gm d (bz σ c) (bz σ x) (bz σ y) σ).run=some σ') :
  gh P B N γ σ a w d (do pure (if ←asBool (a.eval c) then a.eval x else a.eval y)) σ':=by
 have hc:=h.bz c;have hx:=h.bz x;have hy:=h.bz y;unfold gm at hr;split at hr
 ·rename_i cb hcb;rw[hcb] at hc;have G0:a.eval c=.bool cb:=lR hc;have hrun:(do pure (if ←asBool (a.eval c) then a.eval x else a.eval y):Sem Value).run P w=.ok (if(show Bool from cb)=true then a.eval x else a.eval y) w:=by
   rw[G0];cases cb<;>rfl
  split at hr
  ·rename_i t x1 u y1 hx1 hy1;rw[hx1] at hx;rw[hy1] at hy;split at hr
   ·rename_i y2 uW;obtain rfl:=aq hr;obtain⟨e,e2⟩:=Ty.eW uW;subst e;subst e2;refine aU h hd hrun ?_;cases cb
    ·exact hy
    ·exact hx
   ·cases hr
  ·have hr2:=dn hr;cases cb
   ·obtain rfl:=aq hr2;exact aU h hd hrun hy
   ·obtain rfl:=aq hr2;exact aU h hd hrun hx
 ·cases hr
theorem cL(k:IntKind)(n:Int):k.min≤k.wrap n∧k.wrap n≤k.max:=wrap_within k n
theorem E6{k:IntKind}{x y:Int}(h:k.min≤x∧x≤k.max):k.min≤x.tmod y∧x.tmod y≤k.max:=by
 have hmin:k.min≤0:=by cases k<;>decide
 have hmax:0≤k.max:=by cases k<;>decide
 have hab:(x.tmod y).natAbs≤x.natAbs:=by
  rw[Int.natAbs_tmod];exact Nat.mod_le _ _
 rcases Int.le_total 0 x with h0|h0
 ·have:=Int.tmod_nonneg y h0;omega
 ·have:x.tmod y≤0:=by
   have:=Int.tmod_nonneg y (show 0≤-x by omega);rw[Int.neg_tmod] at this;omega
  omega
theorem E7{k:IntKind}{x:Int}(n:Nat)(h:k.min≤x∧x≤k.max):k.min≤x.fdiv (2 ^ n)∧x.fdiv (2 ^ n)≤k.max:=by
 have hmin:k.min≤0:=by cases k<;>decide
 have hmax:0≤k.max:=by cases k<;>decide
 have hp:(0:Int)<2 ^ n:=Int.pow_pos (by decide);have e:x.fdiv (2 ^ n)=x / 2 ^ n:=Int.fdiv_eq_ediv_of_nonneg _ (by omega);rw[e];rcases Int.le_total 0 x with h0|h0
 ·have h1:=Int.ediv_nonneg h0 (Int.le_of_lt hp);have h2:=Int.ediv_le_self (2 ^ n:Int) h0;omega
 ·have h2:x / 2 ^ n<1:=Int.ediv_lt_of_lt_mul hp (by omega);have h3:x≤x / 2 ^ n:=by
   rw[Int.le_ediv_iff_mul_le hp];have h1:(1:Int)≤2 ^ n:=hp;have:=Int.mul_le_mul_of_nonpos_left h0 h1;simpa using this
  omega
theorem wT{op:BinOp}{l:Bool}(h:oT op=some l):(op=.shl∧l=true)∨(op=.shr∧l=false):=by
 cases op<;>simp[oT] at h<;>simp[h]
theorem iz{op:BinOp}{l:Bool}(h:isEq op=some l):(op=.eql∧l=true)∨(op=.neq∧l=false):=by
 cases op<;>simp[isEq] at h<;>simp[h]
def dF(op:BinOp)(xt:TypeId)(x y:Operand)(u v:Value):Sem Value:=do eqGuard op xt x y u v;binOp op xt u v
theorem wU{op:BinOp}{k:IntKind}{n m:Int}{v:au}{xt:TypeId}{x y:Operand}(hn:k.min≤n∧n≤k.max)(hs:oT op=none)(hr:(zT op k n m).run=some v) :
  ∃r,(dF op xt x y (.int k n) (.int k m)).run P w=.ok r w∧br γ σ.mem w v .val [r]:=by
 unfold dF;cases op<;>simp only[eqGuard_at_int,Sem.run_bind,Sem.run_pure,Result.andThen_ok]<;>simp only[zT] at hr
 case add=>obtain rfl:=aq hr;exact⟨.int k (kE k n m),by simp only[binOp_add,Op.intArith,Sem.run_pure];rfl,mkInt (cL _ _)⟩
 case sub=>obtain rfl:=aq hr;exact⟨.int k (mA k n m),by simp only[binOp_sub,Op.intArith,Sem.run_pure];rfl,mkInt (cL _ _)⟩
 case mul=>obtain rfl:=aq hr;exact⟨.int k (H8 k n m),by simp only[binOp_mul,Op.intArith,Sem.run_pure];rfl,mkInt (cL _ _)⟩
 case quo =>
  have hr2:=dn hr;cases hz:cX m 0
  ·rw[hz] at hr2;obtain rfl:=aq hr2;have hm:m≠0:=by simpa [cX] using hz
   exact⟨.int k (H9 k n m),by simp only[binOp_quo,Op.intDiv,dW hm,Sem.run_pure];rfl,mkInt (cL _ _)⟩
  ·rw[hz] at hr2;cases hr2
 case rem =>
  have hr2:=dn hr;cases hz:cX m 0
  ·rw[hz] at hr2;obtain rfl:=aq hr2;have hm:m≠0:=by simpa [cX] using hz
   exact⟨.int k (Ia n m),by simp only[binOp_rem,Op.intDiv,dW hm,Sem.run_pure];rfl,mkInt (E6 hn)⟩
  ·rw[hz] at hr2;cases hr2
 case and=>obtain rfl:=aq hr;exact⟨.int k (zR k n m),by simp only[binOp_and,intBits_and,Sem.run_pure];rfl,mkInt (cL _ _)⟩
 case or=>obtain rfl:=aq hr;exact⟨.int k (ED k n m),by simp only[binOp_or,intBits_or,Sem.run_pure];rfl,mkInt (cL _ _)⟩
 case xor=>obtain rfl:=aq hr;exact⟨.int k (EV k n m),by simp only[binOp_xor,intBits_xor,Sem.run_pure];rfl,mkInt (cL _ _)⟩
 case andNot=>obtain rfl:=aq hr;exact⟨.int k (Gj k n m),by simp only[binOp_andNot,intBits_andNot,Sem.run_pure];rfl,mkInt (cL _ _)⟩
 case shl=>cases hs
 case shr=>cases hs
 case eql=>obtain rfl:=aq hr;exact⟨.bool (cX n m),by simp[binOp,Op.intCmp,cX];rfl,dz _⟩
 case neq=>obtain rfl:=aq hr;exact⟨.bool (nt (cX n m)),by simp[binOp,Op.intCmp,cX,nt];rfl,dz _⟩
 case lss=>obtain rfl:=aq hr;exact⟨.bool (jS n m),by simp[binOp,Op.intCmp,jS],dz _⟩
 case leq=>obtain rfl:=aq hr;exact⟨.bool (BO n m),by simp[binOp,Op.intCmp,BO],dz _⟩
 case gtr=>obtain rfl:=aq hr;exact⟨.bool (jS m n),by simp[binOp,Op.intCmp,jS],dz _⟩
 case geq=>obtain rfl:=aq hr;exact⟨.bool (BO m n),by simp[binOp,Op.intCmp,BO],dz _⟩
theorem er(s:List UInt8):(⟨s.toArray⟩:ByteArray).toList=s:=by rw[ByteArray.toList_eq]
theorem z7(s t:List UInt8):(s==t)=nP s t:=by rw[Bool.eq_iff_iff];simp[nP]
theorem wV{op:BinOp}{s t:List UInt8}{v:au}{xt:TypeId}{x y:Operand}(hr:(zU op s t).run=some v) :
  ∃r,(dF op xt x y (.string ⟨s.toArray⟩) (.string ⟨t.toArray⟩)).run P w=.ok r w∧br γ σ.mem w v .val [r]:=by
 unfold dF;cases op<;>simp only[eqGuard_at_string,Sem.run_bind,Sem.run_pure,Result.andThen_ok]<;>simp only[zU] at hr<;>try (cases hr;done)
 case add =>
  obtain⟨hf,hr2⟩:=bu hr;obtain rfl:=aq hr2;have hl:s.length+t.length≤4294967296:=by have h2:plus (len s) (len t)≤4294967296:=xW hf;simp only[plus,len] at h2;omega
  refine⟨.string ⟨(s++t).toArray⟩,?_,mkStr (by simp only[app,ji,maxLen];omega)⟩;have hsz:∀l:List UInt8,(⟨l.toArray⟩:ByteArray).size=l.length:=fun l=>rfl;have:¬(((s.length+t.length:Nat):Int) > IntKind.i64.max):=by rw[IntKind.max_i64];omega
  simp only[binOp,Op.stringOp,hsz,this,sS,Sem.run_pure]
  congr 2
 case eql=>obtain rfl:=aq hr;exact⟨.bool (nP s t),by simp only[binOp,Op.stringOp,er,z7,Sem.run_pure],dz _⟩
 case neq=>obtain rfl:=aq hr;exact⟨.bool (nt (nP s t)),by simp only[binOp,Op.stringOp,er,z7,Sem.run_pure];rfl,dz _⟩
 case lss=>obtain rfl:=aq hr;exact⟨.bool (Gi s t),by simp only[binOp,Op.stringOp,er,z7,Sem.run_pure];rfl,dz _⟩
 case leq=>obtain rfl:=aq hr;exact⟨.bool (I0 (Gi s t) (nP s t)),by simp only[binOp,Op.stringOp,er,z7,Sem.run_pure];rfl,dz _⟩
 case gtr=>obtain rfl:=aq hr;exact⟨.bool (nt (I0 (Gi s t) (nP s t))),by simp only[binOp,Op.stringOp,er,z7,Sem.run_pure];rfl,dz _⟩
 case geq=>obtain rfl:=aq hr;exact⟨.bool (nt (Gi s t)),by simp only[binOp,Op.stringOp,er,z7,Sem.run_pure];rfl,dz _⟩
theorem yh{op:BinOp}{left:Bool}{k k':IntKind}{n m:Int}{xt:TypeId}{x y:Operand}(hn:k.min≤n∧n≤k.max)(hs:oT op=some left)(h0:jS m 0=false) :
  ∃r,(dF op xt x y (.int k n) (.int k' m)).run P w=.ok r w∧br γ σ.mem w (.data (.int k) (bif left then BQ k n m else BR k n m)) .val [r]:=by
 have h1:¬m<0:=by simpa [jS] using h0
 unfold dF;rcases wT hs with ⟨rfl,rfl⟩|⟨rfl,rfl⟩
 ·exact⟨.int k (BQ k n m),by simp only[eqGuard_shl,binOp_shl,Op.shift,dW h1,Sem.run_bind,Sem.run_pure,Result.andThen_ok];rfl,mkInt (cL _ _)⟩
 ·exact⟨.int k (BR k n m),by simp only[eqGuard_shr,binOp_shr,Op.shift,dW h1,Sem.run_bind,Sem.run_pure,Result.andThen_ok];rfl,mkInt (E7 _ hn)⟩
theorem nD{t:Ty}{tid:TypeId}(ht:Den P t tid){cs:Array Value}{off:Nat}(h:off+t.size≤cs.size)(h1:t.isAgg=false→t.size=1) :
  (part tid cs off).run P w=.ok (bA t ((cs.toList.drop off).take t.size)) w:=by
 unfold part;rw[Sem.run_bind,ht.agg w,Result.andThen_ok];cases hag:t.isAgg with
 | true =>
   simp only[iP,Sem.run_bind,ht.sizeOf w,Result.andThen_ok,Sem.run_pure,bA,hag,gD]
   congr 2
   apply x4;simp
 | false =>
   have hs:=h1 hag;simp only[dW (show ¬(false=true) by simp),bA,hag,eD,hs];have hlt:off<cs.size:=by omega
   have e:(cs.toList.drop off).take 1=[cs[off]]:=by
    apply zN;intro i;rw[iO];cases i with
    | zero=>simp[hlt]
    | succ i=>simp
   rw[e];simp[hlt]
theorem iS:∀{t:Ty},t.isAgg=false→t.size=1:=by
 intro t h;induction t with
 | alt u a r eN ihr=>exact ihr h
 | arr|pair|unit=>cases h
 | _=>rfl
theorem yj(t:Ty):1≤t.oS:=by cases t<;>simp[Ty.oS]
theorem nW{γ:Gh}{w:World}:∀(t:Ty),(∀(d:Nat) (tid:TypeId) (x y:t.den) (cx cy:List Value) (c:Bool),Den P t tid→aX w γ.I t x cx→aX w γ.I t y cy→Ty.eqv t x y=some c→t.oS<d →
   (Op.equalIn d tid (bA t cx) (bA t cy)).run P w=.ok c w) ∧
  (∀(d off:Nat) (fs:List Field) (x y:t.den) (cx cy:List Value) (xs ys:Array Value) (c:Bool),gL P t off fs→aX w γ.I t x cx→aX w γ.I t y cy→Ty.eqv t x y=some c→t.oS<d →
   xs.toList.drop off=cx→ys.toList.drop off=cy→off≤xs.size→off≤ys.size→(Op.eqFields d xs ys fs).run P w=.ok c w):=by
 intro t;induction t with
 | int k =>
   refine⟨fun d tid x y cx cy c hd hx hy he hs=>?_,fun d off fs x y cx cy xs ys c hd=>by simp[gL,dc] at hd⟩;obtain⟨d,rfl⟩:∃e,d=e+1:=⟨d-1,by omega⟩;rw[hx.1,hy.1];obtain rfl:=aq he;show(Op.equalIn (d+1) tid (.int k x) (.int k y)).run P w=_
   rw[run_equalIn_int w d tid k k x y hd.int]
   congr 1
 | bool =>
   refine⟨fun d tid x y cx cy c hd hx hy he hs=>?_,fun d off fs x y cx cy xs ys c hd=>by simp[gL,dc] at hd⟩;obtain⟨d,rfl⟩:∃e,d=e+1:=⟨d-1,by omega⟩;rw[show cx=_ from hx,show cy=_ from hy];obtain rfl:=aq he;exact run_equalIn_bool' w d tid x y hd.bool
 | str =>
   refine⟨fun d tid x y cx cy c hd hx hy he hs=>?_,fun d off fs x y cx cy xs ys c hd=>by simp[gL,dc] at hd⟩;obtain⟨d,rfl⟩:∃e,d=e+1:=⟨d-1,by omega⟩;rw[hx.1,hy.1];obtain rfl:=aq he;have h1:=run_equalIn_string (P:=P) w d tid ⟨List.toArray (α:=UInt8) x⟩ ⟨List.toArray (α:=UInt8) y⟩ hd.str;rw[er (show List UInt8 from x),er (show List UInt8 from y),z7] at h1;exact h1
 | slice e ih=>exact⟨(fun d tid x y cx cy c hd hx hy he=>by cases he),(fun d off fs x y cx cy xs ys c hd=>by simp[gL,dc] at hd)⟩
 | alt u a r eN ihr=>exact⟨(fun d tid x y cx cy c hd hx hy he=>by cases he),(fun d off fs x y cx cy xs ys c hd=>by simp[gL,dc] at hd)⟩
 | nO=>exact⟨(fun d tid x y cx cy c hd hx hy he=>by cases he),(fun d off fs x y cx cy xs ys c hd=>by simp[gL,dc] at hd)⟩
 | arr n e ih =>
   refine⟨fun d tid x y cx cy c hd hx hy he hs=>?_,(fun d off fs x y cx cy xs ys c hd=>by simp[gL,dc] at hd)⟩;cases e with
   | int k =>
     obtain⟨d,rfl⟩:∃e,d=e+1:=⟨d-1,by omega⟩;obtain⟨d,rfl⟩:∃e,d=e+1:=⟨d-1,by have:(Ty.arr n (.int k)).oS=1+1:=rfl;omega⟩;obtain rfl:=aq he;obtain⟨bX,k1,k2,k3⟩:=hd.arr;obtain⟨i,z,i1,i2,_,_⟩:=k2.info;have hcell:=k2.cells;show(Op.equalIn (d+1+1) tid (.agg cx.toArray) (.agg cy.toArray)).run P w=_
     rw[run_equalIn_array w (d+1) cx.toArray cy.toArray k1 i1,hcell];obtain⟨hxl,Js,Gn⟩:=hx;obtain⟨Kb,E8,HM⟩:=hy;have hz:(Ty.int k).size=1:=rfl;rw[hz] at Js Gn E8 HM⊢;rw[zQ] at Js E8;change List Int at x y;have item:∀is:List Nat,(∀i∈is,i<n)→(Op.eqItems (d+1) bX 1 cx.toArray cy.toArray is).run P w=.ok (is.all fun i=>decide (x[i]?=y[i]?)) w:=by
      intro is;induction is with
      | nil=>intro _;rfl
      | cons i is KN =>
        intro hi;have hin:=hi i (jy ..);obtain⟨a,Kc⟩:∃a,x[i]?=some a:=⟨_,qg (by rw[show x.length=n from hxl];exact hin)⟩;obtain⟨b,Kd⟩:∃a,y[i]?=some a:=⟨_,qg (by rw[show y.length=n from Kb];exact hin)⟩;have px:=nD (w:=w) k2 (cs:=cx.toArray) (off:=i*1) (by rw[hz];simp[Js];omega) (fun _=>hz);have py:=nD (w:=w) k2 (cs:=cy.toArray) (off:=i*1) (by rw[hz];simp[E8];omega) (fun _=>hz);have ex:=(Gn i _ Kc).1;have ey:=(HM i _ Kd).1;rw[hz] at px py;rw[show cx.toArray.toList=cx from rfl,ex] at px;rw[show cy.toArray.toList=cy from rfl,ey] at py;simp only[Op.eqItems,Sem.run_bind,px,py,Result.andThen_ok];have heq:=run_equalIn_int w d bX k k a b k2.int;simp only[bA,Ty.isAgg,eD,List.headD_cons,heq,iP,Result.andThen_ok,Kc,Kd,List.all_cons];cases hb:(a==b) with
        | true =>
          have hxy:a=b:=by simpa using hb
          simp only[Bool.not_true,zM,sS,hxy,decide_true,Bool.true_and];exact KN fun j hj=>hi j (jx _ hj)
        | false =>
          have hxy:¬a=b:=by simpa using hb
          simp[hxy]
     rw[item _ fun i hi=>List.mem_range.1 hi]
     congr 1
     unfold J8;rw[Bool.eq_iff_iff,rS];simp only[List.mem_range,u5];constructor
     ·intro h;apply zN;intro i;by_cases hin:i<n
      ·exact h i hin
      ·rw[BH (by rw[show x.length=n from hxl];omega),BH (by rw[show y.length=n from Kb];omega)]
     ·intro h i _;exact congrArg (fun l=>l[i]?) h
   | _=>cases he
 | unit =>
   refine⟨(fun d tid x y cx cy c hd=>by simp[Den,dc] at hd),fun d off fs x y cx cy xs ys c hd hx hy he hs h1 h2 h3 h4=>?_⟩;cases fs with
   | nil=>obtain rfl:=aq he;rfl
   | cons f r=>simp[gL,dc] at hd
 | pair a b eN fE =>
   have key:(∀(d off:Nat) (fs:List Field) (x y:(Ty.pair a b).den) (cx cy:List Value) (xs ys:Array Value) (c:Bool),gL P (.pair a b) off fs→aX w γ.I (.pair a b) x cx→aX w γ.I (.pair a b) y cy→Ty.eqv (.pair a b) x y=some c→(Ty.pair a b).oS<d+1 →
    xs.toList.drop off=cx→ys.toList.drop off=cy→off≤xs.size→off≤ys.size→(Op.eqFields d xs ys fs).run P w=.ok c w):=by
    intro d off fs x y cx cy xs ys c hd hx hy he hs h1 h2 h3 h4;obtain⟨f,r,rfl,k1,k2,k3,k4,k5⟩:=hd.cons;obtain⟨x1,x2,Gn,hx1,hx2⟩:=hx;obtain⟨y1,y2,HM,hy1,uW⟩:=hy;simp only[Ty.eqv] at he;cases I4:Ty.eqv a x.1 y.1 with
    | none=>rw[I4] at he;cases he
    | some p =>
      cases Jt:Ty.eqv b x.2 y.2 with
      | none=>rw[I4,Jt] at he;cases he
      | some q =>
        rw[I4,Jt] at he;obtain rfl:=aq he;have Ke:=hx1.length;have Kf:=hy1.length;have lx:xs.size-off=x1.length+x2.length:=by
         have:=congrArg List.length (h1.trans Gn);simpa using this
        have ly:ys.size-off=y1.length+y2.length:=by
         have:=congrArg List.length (h2.trans HM);simpa using this
        have px:=nD (w:=w) k3 (cs:=xs) (off:=f.offset) (by omega) iS;have py:=nD (w:=w) k3 (cs:=ys) (off:=f.offset) (by omega) iS;have ex:(xs.toList.drop f.offset).take a.size=x1:=by rw[k1,h1,Gn,←Ke,BM]
        have ey:(ys.toList.drop f.offset).take a.size=y1:=by rw[k1,h2,HM,←Kf,BM]
        rw[ex] at px;rw[ey] at py;have hsz:(Ty.pair a b).oS=a.oS+b.oS+1:=rfl;have LZ:=yj a;have hrb:=yj b;have heq:=eN.1 d f.type x.1 y.1 x1 y1 p k3 hx1 hy1 I4 (by omega);simp only[Op.eqFields,fF k2,Sem.run_bind,px,py,heq,Result.andThen_ok];cases p with
        | false=>simp[an]
        | true =>
          simp only[Bool.not_true,zM,sS];rw[fE.2 d (off+a.size) r x.2 y.2 x2 y2 xs ys q k5 hx2 uW Jt (by omega) (by rw[←lH,h1,Gn,←Ke,ou]) (by rw[←lH,h2,HM,←Kf,ou]) (by omega) (by omega)];simp[an]
   refine⟨fun d tid x y cx cy c hd hx hy he hs=>?_,fun d off fs x y cx cy xs ys c hd hx hy he hs=>key d off fs x y cx cy xs ys c hd hx hy he (by omega)⟩;obtain⟨d,rfl⟩:∃e,d=e+1:=⟨d-1,by omega⟩;obtain⟨fs,k1,k2,k3,k4⟩:=hd.pair;have hf:P.fieldsOf tid=fs:=by simp[Program.fieldsOf,k1]
   show(Op.equalIn (d+1) tid (.agg _) (.agg _)).run P w=_
   rw[run_equalIn_struct w d tid _ _ (by rw[hf];exact k1) k4,hf];exact key d 0 fs.toList x y cx cy _ _ c k2 hx hy he (by omega) (by simp) (by simp) (by simp) (by simp)
end
end Go.Ge
