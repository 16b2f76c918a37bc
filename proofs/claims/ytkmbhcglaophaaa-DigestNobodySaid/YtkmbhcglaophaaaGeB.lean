/- A ghost interpreter of the model's code, and that it tells the truth: part 2. It says of a function of plain data what a call of it comes to. -/
import Derived.Test.YtkmbhcglaophaaaGeA
import Derived.Laws.StructEq
import Derived.ChangeKeysEq
set_option linter.unusedVariables false
set_option linter.unusedSimpArgs false
set_option linter.unusedSectionVars false
namespace Go.Ge
structure Gh where
 I:Nat→Nat→Prop
 loc:Nat→Option (Nat×Nat)
def bk(t:Ty)(cs:List Value):Value:=bif t.isAgg then .agg cs.toArray else cs.headD undef
def aM(w:World)(I:Nat→Nat→Prop):(t:Ty)→t.den→List Value→Prop
 | .int k,n,cs=>cs=[.int k n]∧k.min≤(show Int from n)∧(show Int from n)≤k.max
 | .bool,b,cs=>cs=[.bool b]
 | .str,s,cs=>cs=[.string ⟨List.toArray (α:=UInt8) s⟩]∧List.length (α:=UInt8) s≤maxLen
 | .slice e,l,cs=>((∃base,cs=[.slice base 0 0])∧l=([]:List e.den)) ∨
  ∃blk off cap,cs=[.slice (some ⟨blk,off,none⟩) (List.length (α:=e.den) l) cap]∧List.length (α:=e.den) l≤cap∧cap≤maxLen ∧
   ∀(i:Nat) (x:e.den),(show List e.den from l)[i]?=some x→∃es:List Value,es.length=e.size ∧
    (∀(j:Nat) v,es[j]?=some v→w.cell? ⟨blk,off+i*e.size+j,none⟩=some v∧I blk (off+i*e.size+j))∧aM w I e x es
 | .arr n e,l,cs=>List.length (α:=e.den) l=n∧cs.length=n*e.size ∧
  ∀(i:Nat) (x:e.den),(show List e.den from l)[i]?=some x→aM w I e x ((cs.drop (i*e.size)).take e.size)
 | .pair a b,x,cs=>∃c1 c2,cs=c1++c2∧aM w I a x.1 c1∧aM w I b x.2 c2
 | .unit,_,cs=>cs=[]
 | .alt u a r,x,cs=>match(show a.den⊕r.den from x) with
   | .inl y=>r.size=1∧∃c,cs=[.iface u (bk a c)]∧aM w I a y c
   | .inr z=>aM w I r z cs
 | .oN,_,cs=>cs=[.nilIface]
theorem aM.length{w:World}{I:Nat→Nat→Prop}:∀{t:Ty} {x:t.den} {cs:List Value},aM w I t x cs→cs.length=t.size:=by
 intro t;induction t with
 | int k=>intro x cs h;rw[h.1];rfl
 | bool=>intro x cs h;rw[h];rfl
 | str=>intro x cs h;rw[h.1];rfl
 | slice e ih=>intro x cs h;rcases h with ⟨⟨_,h⟩,_⟩|⟨_,_,_,h,_⟩<;>rw[h]<;>rfl
 | arr n e ih=>intro x cs h;exact h.2.1
 | pair a b eH fF=>intro x cs h;obtain⟨c1,c2,rfl,h1,h2⟩:=h;rw[oL,eH h1,fF h2];rfl
 | unit=>intro x cs h;rw[h];rfl
 | alt u a r eH ihr =>
   intro x cs h;rcases x with y|z
   ·obtain⟨h1,c,rfl,_⟩:=h;exact h1.symm
   ·exact ihr (show aM w I r z cs from h)
 | oN=>intro x cs h;rw[show cs=_ from h];rfl
theorem aM.mono{w w':World}{I I':Nat→Nat→Prop}(hI:∀b o,I b o→I' b o)(hw:∀b o,I b o→w'.cell? ⟨b,o,none⟩=w.cell? ⟨b,o,none⟩) :
  ∀{t:Ty} {x:t.den} {cs:List Value},aM w I t x cs→aM w' I' t x cs:=by
 intro t;induction t with
 | int k=>intro x cs h;exact h
 | bool=>intro x cs h;exact h
 | str=>intro x cs h;exact h
 | slice e ih =>
   intro x cs h;rcases h with h|⟨blk,off,cap,h1,h2,h3,h4⟩
   ·exact .inl h
   ·refine .inr ⟨blk,off,cap,h1,h2,h3,fun i y hy=>?_⟩;obtain⟨es,he,hc,hr⟩:=h4 i y hy;exact⟨es,he,fun j v hv=>by obtain⟨a,b⟩:=hc j v hv;exact⟨by rw[hw _ _ b];exact a,hI _ _ b⟩,ih hr⟩
 | arr n e ih=>intro x cs h;exact⟨h.1,h.2.1,fun i y hy=>ih (h.2.2 i y hy)⟩
 | pair a b eH fF=>intro x cs h;obtain⟨c1,c2,h0,h1,h2⟩:=h;exact⟨c1,c2,h0,eH h1,fF h2⟩
 | unit=>intro x cs h;exact h
 | alt u a r eH ihr =>
   intro x cs h;rcases x with y|z
   ·obtain⟨h1,c,h2,h3⟩:=h;exact⟨h1,c,h2,eH h3⟩
   ·exact ihr (show aM w I r z cs from h)
 | oN=>intro x cs h;exact h
theorem aM.one{w:World}{I:Nat→Nat→Prop}:∀{t:Ty} {x:t.den} {cs:List Value},aM w I t x cs→∀v∈cs,v.oneCell'=true:=by
 intro t;induction t with
 | int k=>intro x cs h v hv;rw[h.1] at hv;simp at hv;subst hv;rfl
 | bool=>intro x cs h v hv;rw[h] at hv;simp at hv;subst hv;rfl
 | str=>intro x cs h v hv;rw[h.1] at hv;simp at hv;subst hv;rfl
 | slice e ih=>intro x cs h v hv;rcases h with ⟨⟨_,h⟩,_⟩|⟨_,_,_,h,_⟩<;>rw[h] at hv<;>simp at hv<;>subst hv<;>rfl
 | arr n e ih =>
   intro x cs h v hv;obtain⟨h1,h2,h3⟩:=h;obtain⟨k,hk,hkv⟩:=HO hv;have he:0<e.size:=by
    rcases HQ e.size with h0|h0
    ·rw[h0,Nat.mul_zero] at h2;omega
    ·exact h0
   have hdiv:k / e.size<n:=by rw[Jp he];omega
   have hx:∃y,(show List e.den from x)[k / e.size]?=some y:=⟨_,sC (by rw[h1];exact hdiv)⟩;obtain⟨y,hy⟩:=hx;refine ih (h3 _ y hy) v ?_;have hm:=wK k he;have hkk:k / e.size*e.size+k % e.size=k:=by rw[Nat.mul_comm];exact FB k e.size
   have:((cs.drop (k / e.size*e.size)).take e.size)[k % e.size]?=some v:=by
    rw[jw,gd hm,nk,hkk,sC hk,hkv]
   exact BA this
 | pair a b eH fF =>
   intro x cs h v hv;obtain⟨c1,c2,rfl,h1,h2⟩:=h;rcases List.mem_append.1 hv with hv|hv
   ·exact eH h1 v hv
   ·exact fF h2 v hv
 | unit=>intro x cs h v hv;rw[h] at hv;cases hv
 | alt u a r eH ihr =>
   intro x cs h v hv;rcases x with y|z
   ·obtain⟨h1,c,rfl,h3⟩:=h;simp at hv;subst hv;rfl
   ·exact ihr (show aM w I r z cs from h) v hv
 | oN=>intro x cs h v hv;rw[show cs=_ from h] at hv;simp at hv;subst hv;rfl
theorem iY{w:World}{I:Nat→Nat→Prop}:∀{t:Ty} {x:t.den} {cs:List Value},aM w I t x cs→(bk t cs).cells.toList=cs:=by
 intro t;induction t with
 | int k=>intro x cs h;unfold bk;rw[h.1];rfl
 | bool=>intro x cs h;unfold bk;rw[h];rfl
 | str=>intro x cs h;unfold bk;rw[h.1];rfl
 | slice e=>intro x cs h;unfold bk;rcases h with ⟨⟨_,h⟩,_⟩|⟨_,_,_,h,_⟩<;>rw[h]<;>rfl
 | arr n e=>intro x cs h;rfl
 | pair a b=>intro x cs h;rfl
 | unit=>intro x cs h;rfl
 | alt u a r eH ihr =>
   intro x cs h;rcases x with y|z
   ·obtain⟨h1,c,rfl,h3⟩:=h;unfold bk Ty.isAgg;cases r.isAgg<;>rfl
   ·exact ihr (show aM w I r z cs from h)
 | oN=>intro x cs h;unfold bk;rw[show cs=_ from h];rfl
inductive Mode where
 | cells|val|many
def j9(base:Option Addr)(cap:Nat):Prop:=cap=0∨∃blk off,base=some ⟨blk,off,none⟩
def bt:List pI→Nat
 | []=>0
 | .yp _ off::p=>off+bt p
 | .idx i size::p=>i.toNat*size+bt p
theorem nF(p q:List pI):bt (p++q)=bt p+bt q:=by
 induction p with
 | nil=>simp[bt]
 | cons s p ih=>cases s<;>simp[bt,ih]<;>omega
section
variable (γ:Gh) (mem:Nat→Option aI) (w:World)
def qq(bx:aI)(b:Nat)(lo:Int)(base:Option Addr)(cap:Nat):Prop:=lo=0→bx.buf=true→(γ.loc b=none∧base=none∧cap=0)∨∃blk,γ.loc b=some (blk,cap)∧base=some ⟨blk,0,none⟩
def qs(I:Nat→Nat→Prop)(blk off:Nat)(cs:List Value):Prop:=∀(j:Nat) v,cs[j]?=some v→w.cell? ⟨blk,off+j,none⟩=some v∧I blk (off+j)
def fM(b ag:Nat)(K:aI→Prop):Prop:=∃bx,mem b=some bx∧ag≤bx.ag∧(bx.ag=ag→K bx)
def aV:av→Mode→List Value→Prop
 | .undef,.val,vs=>∃v,vs=[v]
 | .undef,.cells,vs=>∃v,vs=[v]∧v.oneCell'=true
 | .undef,.many,_=>False
 | .data t x,.cells,vs=>aM w γ.I t x vs
 | .data t x,.val,vs=>∃cs,aM w γ.I t x cs∧vs=[bk t cs]
 | .data _ _,.many,_=>False
 | .mix a b,.cells,vs=>∃c1 c2,vs=c1++c2∧aV a .cells c1∧aV b .cells c2
 | .mix a b,.val,vs=>∃c1 c2,vs=[.agg (c1++c2).toArray]∧aV a .cells c1∧aV b .cells c2
 | .mix a b,.many,vs=>∃v r,vs=v::r∧aV a .val [v]∧aV b .many r
 | .nl,.many,vs=>vs=[]
 | .nl,_,_=>False
 | .kN u,.val,vs=>∃arr:Array Value,vs=[.tuple arr]∧aV u .many arr.toList
 | .kN _,_,_=>False
 | .iL,.many,_=>False
 | .iL,_,vs=>vs=[.pointer none]
 | .jg,.many,_=>False
 | .jg,_,vs=>vs=[.nilIface]
 | .kS _ _,.many,_=>False
 | .kS b ag,_,vs=>(∃v,vs=[v]∧v.oneCell'=true)∧fM mem b ag fun _=>∃blk cap,γ.loc b=some (blk,cap)∧(vs=[.pointer none]∨vs=[.pointer (some ⟨blk,0,none⟩)])
 | .gA,.many,_=>False
 | .gA,_,vs=>vs=[.slice none 0 0]
 | .cell _ _,.many,_=>False
 | .cell t x,_,vs=>∃blk off cs,vs=[.pointer (some ⟨blk,off,none⟩)]∧aM w γ.I t x cs∧qs w γ.I blk off cs
 | .ptr _ _ _,.many,_=>False
 | .ptr b ag p,_,vs=>(∃v,vs=[v]∧v.oneCell'=true)∧fM mem b ag fun _=>∃blk cap,γ.loc b=some (blk,cap)∧vs=[.pointer (some ⟨blk,bt p,none⟩)]
 | .whole _ _,.many,_=>False
 | .whole b ag,_,vs=>(∃v,vs=[v]∧v.oneCell'=true)∧fM mem b ag fun bx=>∃e n,bx.buf=true∧bx.row=some (e,n) ∧
  ((γ.loc b=none∧vs=[.slice none 0 0])∨∃blk cap,γ.loc b=some (blk,cap)∧vs=[.slice (some ⟨blk,0,none⟩) n cap])
 | .part _ _ _ _,.many,_=>False
 | .part b ag lo n,_,vs=>(∃v,vs=[v]∧v.oneCell'=true)∧fM mem b ag fun bx=>∃e k,bx.row=some (e,k)∧0≤lo∧0≤n∧lo+n≤k ∧
  ∃base cap,vs=[.slice base n.toNat cap]∧n.toNat≤cap∧cap≤maxLen∧(j9 base cap∧qq γ bx b lo base cap)∧(n=0∨∃blk c,γ.loc b=some (blk,c)∧base=some ⟨blk,lo.toNat*e.size,none⟩)
 | .win _ _ _ _ _ _ _,.many,_=>False
 | .win b ag q e k lo n,_,vs=>(∃v,vs=[v]∧v.oneCell'=true)∧fM mem b ag fun _=>q≠[]∧∃blk c,γ.loc b=some (blk,c)∧0≤lo∧0≤n∧lo+n≤k ∧
  ∃base cap,vs=[.slice base n.toNat cap]∧n.toNat≤cap∧(n=0∨base=some ⟨blk,bt q+lo.toNat*e.size,none⟩)
 | .fn _ _,.many,_=>False
 | .fn f caps,_,vs=>∃arr:Array Value,vs=[.func (.func f) #[] arr]∧arr.size=caps.length ∧
  ∀(i:Nat) b ag,caps[i]?=some (b,ag)→fM mem b ag fun _=>∃blk cap,γ.loc b=some (blk,cap)∧arr[i]?=some (.pointer (some ⟨blk,0,none⟩))
def gu(cur:Array Value)(fr:Nat×Nat):Prop:=∀off,off<cur.size→¬(fr.1≤off∧off<fr.2)
def Ty.isInt:Ty→Bool
 | .int _=>true
 | _=>false
structure HG (e:Ty) (cur:Array Value) (fr:Nat×Nat):Prop where
 th:gu cur fr
 um:e.isInt=false→¬(fr.1≤cur.size∧cur.size<fr.2)
def bn(b:Nat)(bx:aI):Prop :=
 match bx.buf with
 | true=>∃(e:Ty) (l:List e.den),bx.val=.data (.slice e) l∧0<e.size ∧
  ((γ.loc b=none∧l=[])∨∃blk cap cur tid fr,γ.loc b=some (blk,cap)∧w.heap[blk]?=some (.cells cur tid fr)∧HG e cur fr∧(bx.tid=0∨tid=bx.tid)∧l.length≤cap∧cap≤maxLen ∧
   cur.size=cap*e.size∧∀(i:Nat) (x:e.den),l[i]?=some x→aM w γ.I e x ((cur.toList.drop (i*e.size)).take e.size))
 | false=>∃blk cap cur tid fr,γ.loc b=some (blk,cap)∧w.heap[blk]?=some (.cells cur tid fr)∧gu cur fr∧(bx.tid=0∨tid=bx.tid)∧aV γ mem w bx.val .cells cur.toList
end
def BO(bx:aI):Nat→Prop:=fun off=>bx.ro=true∧(bx.buf=true→∀e n,bx.row=some (e,n)→off<n*e.size)
abbrev eN:=Nat→(Obj→Prop)→Prop
def yA:eN:=fun _ _=>False
def pN(G:eN)(w:World):Prop:=∀b Q,G b Q→∃o,w.heap[b]?=some o∧Q o
structure iP where
 lo:Nat
 X:Nat→Prop
 G:eN
def iP.has(B:iP)(k:Nat):Prop:=B.lo≤k∨B.X k
def uo(G:eN)(n:Nat):iP:=⟨n,fun _=>False,G⟩
theorem qt{G:eN}{n k:Nat}:(uo G n).has k↔n≤k:=⟨fun h=>h.elim id False.elim,.inl⟩
structure jR (B:iP) (w w':World):Prop where
 os:w'.os=w.os
 tape:w'.tape=w.tape
 output:w'.output=w.output
 size:w.heap.size≤w'.heap.size
 block:∀k,¬B.has k→w'.heap[k]?=w.heap[k]?
theorem jR.refl(B:iP)(w:World):jR B w w:=⟨rfl,rfl,rfl,dB _,fun _ _=>rfl⟩
theorem jR.trans{B:iP}{a b c:World}(h:jR B a b)(k:jR B b c):jR B a c :=
 ⟨k.os.trans h.os,k.tape.trans h.tape,k.output.trans h.output,gK h.size k.size,fun i hi=>(k.block i hi).trans (h.block i hi)⟩
theorem jR.of{B:iP}{w w':World}(h:RowKit.Below B.lo w w'):jR B w w':=⟨h.os,h.tape,h.output,h.size,fun k hk=>h.block k (Dc fun q=>hk (.inl q))⟩
theorem jR.below{G:eN}{n:Nat}{w w':World}(h:jR (uo G n) w w'):RowKit.Below n w w':=⟨h.os,h.tape,h.output,h.size,fun k hk=>h.block k fun q=>by have:=qt.1 q;omega⟩
theorem jR.drew{B:iP}{a w:World}(h:jR B a w):jR B a w.drew:=⟨h.os,h.tape,h.output,h.size,h.block⟩
theorem jR.alloc{B:iP}{a w:World}(h:jR B a w)(hB:B.lo≤w.heap.size)(o:Obj):jR B a (w.alloc o):=h.trans (.of ((RowKit.Below.refl _ _).alloc hB o))
structure aG (B:iP) (γ:Gh) (mem:Nat→Option aI) (w:World):Prop where
 base:B.lo≤w.heap.size
 boxes:∀b bx,mem b=some bx→bn γ mem w b bx
 inj:∀b c blk k k',mem b≠none→mem c≠none→γ.loc b=some (blk,k)→γ.loc c=some (blk,k')→b=c
 fresh:∀b blk k,mem b≠none→γ.loc b=some (blk,k)→B.has blk∧blk<w.heap.size
 kO:∀blk off,γ.I blk off→blk<w.heap.size
 sep:∀b bx blk k off,mem b=some bx→γ.loc b=some (blk,k)→γ.I blk off→BO bx off
 bX:∀b Q,B.G b Q→¬B.has b∧∃o,w.heap[b]?=some o∧Q o
structure bE (B:iP) (N:Nat) (γ:Gh) (σ:St) (a:Act) (w:World):Prop where
 slots:∀t,aV γ σ.mem w (σ.slots t) .val [a.tmps.getD t undef]
 size:a.tmps.size=N
 defers:a.defers=[]
 ok:aG B γ σ.mem w
structure Ext (B:iP) (γ:Gh) (mem:Nat→Option aI) (w:World) (γ':Gh) (mem':Nat→Option aI) (w':World):Prop where
 below:jR B w w'
 I:∀b o,γ.I b o→γ'.I b o
 kP:∀b o,γ'.I b o→γ.I b o∨B.has b
 cells:∀b o,γ.I b o→w'.cell? ⟨b,o,none⟩=w.cell? ⟨b,o,none⟩
 boxes:∀b bx,mem b=some bx→∃dQ,mem' b=some dQ∧bx.ag≤dQ.ag∧(dQ.ag=bx.ag→γ'.loc b=γ.loc b∧dQ.buf=bx.buf∧dQ.row=bx.row)
theorem aG.qu{B:iP}{γ γ':Gh}{mem mem':Nat→Option aI}{w w':World}(h:aG B γ mem w)(x:Ext B γ mem w γ' mem' w'):∀b Q,B.G b Q→¬B.has b∧∃o,w'.heap[b]?=some o∧Q o:=fun b Q g=>by
 obtain⟨i,o,c,q⟩:=h.bX b Q g;exact⟨i,o,(x.below.block b i).trans c,q⟩
theorem aG.yB{B:iP}{γ:Gh}{mem:Nat→Option aI}{w:World}(h:aG B γ mem w):pN B.G w:=fun b Q g=>(h.bX b Q g).2
theorem Ext.refl(B:iP)(γ:Gh)(mem:Nat→Option aI)(w:World):Ext B γ mem w γ mem w :=
 ⟨jR.refl _ _,fun _ _ h=>h,fun _ _ h=>.inl h,fun _ _ _=>rfl,fun b bx h=>⟨bx,h,dB _,fun _=>⟨rfl,rfl,rfl⟩⟩⟩
theorem Ext.trans{B:iP}{γ γ' HV:Gh}{mem mem' Jy:Nat→Option aI}{w w' w'':World}(h:Ext B γ mem w γ' mem' w')(k:Ext B γ' mem' w' HV Jy w'') :
  Ext B γ mem w HV Jy w'' where
 below:=h.below.trans k.below
 I:=fun b o x=>k.I _ _ (h.I _ _ x)
 kP:=fun b o x=>by
  rcases k.kP b o x with y|y
  ·exact h.kP b o y
  ·exact .inr y
 cells:=fun b o x=>(k.cells _ _ (h.I _ _ x)).trans (h.cells _ _ x)
 boxes:=fun b bx x=>by
  obtain⟨dQ,h1,h2,h3⟩:=h.boxes b bx x;obtain⟨KZ,k1,k2,k3⟩:=k.boxes b dQ h1;refine⟨KZ,k1,gK h2 k2,fun e=>?_⟩;have e1:dQ.ag=bx.ag:=by omega
  have e2:KZ.ag=dQ.ag:=by omega
  obtain⟨a1,a2,a3⟩:=h3 e1;obtain⟨b1,b2,b3⟩:=k3 e2;exact⟨b1.trans a1,b2.trans a2,b3.trans a3⟩
theorem fM.ext{B:iP}{γ γ':Gh}{mem mem':Nat→Option aI}{w w':World}(h:Ext B γ mem w γ' mem' w'){b ag:Nat}{K K':aI→Prop}(ho:fM mem b ag K)
  (hk:∀bx dQ,mem b=some bx→mem' b=some dQ→γ'.loc b=γ.loc b→dQ.buf=bx.buf→dQ.row=bx.row→K bx→K' dQ):fM mem' b ag K':=by
 obtain⟨bx,h1,h2,h3⟩:=ho;obtain⟨dQ,k1,k2,k3⟩:=h.boxes b bx h1;refine⟨dQ,k1,gK h2 k2,fun e=>?_⟩;have e1:bx.ag=ag:=by omega
 obtain⟨a1,a2,a3⟩:=k3 (by omega);exact hk bx dQ h1 k1 a1 a2 a3 (h3 e1)
theorem qs.ext{w w':World}{I I':Nat→Nat→Prop}(hI:∀b o,I b o→I' b o)(hw:∀b o,I b o→w'.cell? ⟨b,o,none⟩=w.cell? ⟨b,o,none⟩){blk off:Nat}{cs:List Value}
  (h:qs w I blk off cs):qs w' I' blk off cs :=
 fun j v hv=>by obtain⟨a,b⟩:=h j v hv;exact⟨by rw[hw _ _ b];exact a,hI _ _ b⟩
theorem aV.ext{B:iP}{γ γ':Gh}{mem mem':Nat→Option aI}{w w':World}(h:Ext B γ mem w γ' mem' w'):∀{v:av} {m:Mode} {vs:List Value},aV γ mem w v m vs→aV γ' mem' w' v m vs:=by
 intro v;induction v with
 | undef=>intro m vs r;cases m<;>exact r
 | data t x =>
   intro m vs r;cases m with
   | cells=>exact aM.mono h.I h.cells r
   | val=>obtain⟨cs,r1,r2⟩:=r;exact⟨cs,aM.mono h.I h.cells r1,r2⟩
   | many=>exact r
 | gA=>intro m vs r;cases m<;>exact r
 | iL=>intro m vs r;cases m<;>exact r
 | jg=>intro m vs r;cases m<;>exact r
 | kS b ag =>
   intro m vs r;cases m with
   | many=>exact r
   | cells=>exact⟨r.1,r.2.ext h fun bx dQ _ _ hl _ _ k=>by rw[hl];exact k⟩
   | val=>exact⟨r.1,r.2.ext h fun bx dQ _ _ hl _ _ k=>by rw[hl];exact k⟩
 | cell t x =>
   intro m vs r;cases m with
   | many=>exact r
   | cells=>obtain⟨blk,off,cs,r1,r2,r3⟩:=r;exact⟨blk,off,cs,r1,aM.mono h.I h.cells r2,r3.ext h.I h.cells⟩
   | val=>obtain⟨blk,off,cs,r1,r2,r3⟩:=r;exact⟨blk,off,cs,r1,aM.mono h.I h.cells r2,r3.ext h.I h.cells⟩
 | ptr b ag p =>
   intro m vs r;cases m with
   | many=>exact r
   | cells=>exact⟨r.1,r.2.ext h fun bx dQ _ _ hl _ _ k=>by rw[hl];exact k⟩
   | val=>exact⟨r.1,r.2.ext h fun bx dQ _ _ hl _ _ k=>by rw[hl];exact k⟩
 | whole b ag =>
   intro m vs r;cases m with
   | many=>exact r
   | cells=>exact⟨r.1,r.2.ext h fun bx dQ _ _ hl hb hr k=>by rw[hl,hb,hr];exact k⟩
   | val=>exact⟨r.1,r.2.ext h fun bx dQ _ _ hl hb hr k=>by rw[hl,hb,hr];exact k⟩
 | part b ag lo n =>
   intro m vs r;cases m with
   | many=>exact r
   | cells=>exact⟨r.1,r.2.ext h fun bx dQ _ _ hl hb hr k=>by unfold qq at k⊢;rw[hl,hb,hr];exact k⟩
   | val=>exact⟨r.1,r.2.ext h fun bx dQ _ _ hl hb hr k=>by unfold qq at k⊢;rw[hl,hb,hr];exact k⟩
 | win b ag q e k lo n =>
   intro m vs r;cases m with
   | many=>exact r
   | cells=>exact⟨r.1,r.2.ext h fun bx dQ _ _ hl _ _ k=>by rw[hl];exact k⟩
   | val=>exact⟨r.1,r.2.ext h fun bx dQ _ _ hl _ _ k=>by rw[hl];exact k⟩
 | fn f caps =>
   intro m vs r;cases m with
   | many=>exact r
   | cells=>obtain⟨arr,r1,r2,r3⟩:=r;exact⟨arr,r1,r2,fun i b ag hc=>(r3 i b ag hc).ext h fun bx dQ _ _ hl _ _ k=>by rw[hl];exact k⟩
   | val=>obtain⟨arr,r1,r2,r3⟩:=r;exact⟨arr,r1,r2,fun i b ag hc=>(r3 i b ag hc).ext h fun bx dQ _ _ hl _ _ k=>by rw[hl];exact k⟩
 | mix a b eH fF =>
   intro m vs r;cases m with
   | cells=>obtain⟨c1,c2,r0,r1,r2⟩:=r;exact⟨c1,c2,r0,eH r1,fF r2⟩
   | val=>obtain⟨c1,c2,r0,r1,r2⟩:=r;exact⟨c1,c2,r0,eH r1,fF r2⟩
   | many=>obtain⟨c1,c2,r0,r1,r2⟩:=r;exact⟨c1,c2,r0,eH r1,fF r2⟩
 | kN u ih =>
   intro m vs r;cases m with
   | val=>obtain⟨arr,r1,r2⟩:=r;exact⟨arr,r1,ih r2⟩
   | cells=>exact r
   | many=>exact r
 | nl=>intro m vs r;cases m<;>exact r
end Go.Ge
namespace Go.Ge
def cC:Ty→List Value
 | .int k=>[.int k 0]
 | .bool=>[.bool false]
 | .str=>[.string ⟨#[]⟩]
 | .slice _=>[.slice none 0 0]
 | .arr n e=>(List.replicate n (cC e)).flatten
 | .pair a b=>cC a++cC b
 | .unit=>[]
 | .alt _ _ r=>cC r
 | .oN=>[.nilIface]
theorem cc(t:Ty):(cC t).length=t.size:=by
 induction t with
 | arr n e ih=>simp[cC,Ty.size,ih]
 | pair a b eH fF=>simp[cC,Ty.size,eH,fF]
 | alt u a r eH ihr=>exact ihr
 | _=>rfl
theorem b8{α:Type}(l:List α):∀(n i:Nat),i<n→((List.replicate n l).flatten.drop (i*l.length)).take l.length=l
 | 0,i,h=>absurd h (by omega)
 | n+1,0,_=>by simp[List.replicate_succ]
 | n+1,i+1,h=>by
   rw[List.replicate_succ,List.flatten_cons,nx,Di,←mD,pG];exact b8 l n i (by omega)
theorem gR(w:World)(I:Nat→Nat→Prop):∀t:Ty,aM w I t t.zero (cC t):=by
 intro t;induction t with
 | int k=>exact⟨rfl,by cases k<;>decide,by cases k<;>decide⟩
 | bool=>rfl
 | str=>exact⟨rfl,lO _⟩
 | slice e ih=>exact .inl ⟨⟨none,rfl⟩,rfl⟩
 | arr n e ih =>
   refine⟨List.length_replicate,by rw[cc];rfl,fun i x hx=>?_⟩;have hx':(List.replicate n e.zero)[i]?=some x:=hx;rw[JW] at hx';split at hx'
   ·rename_i hi;obtain rfl:e.zero=x:=by simpa using hx'
    have:=b8 (cC e) n i hi;rw[cc] at this;show aM w I e e.zero (((List.replicate n (cC e)).flatten.drop (i*e.size)).take e.size)
    rw[this];exact ih
   ·cases hx'
 | pair a b eH fF=>exact⟨_,_,rfl,eH,fF⟩
 | unit=>rfl
 | alt u a r eH ihr=>exact ihr
 | oN=>rfl
def yC:Value→Value→Bool
 | .int k n,.int k' m=>Nat.beq (mW k) (mW k')&&decide (n=m)
 | .bool a,.bool b=>a==b
 | .string a,.string b=>decide (a.data.toList=b.data.toList)
 | .slice none 0 0,.slice none 0 0=>true
 | .pointer none,.pointer none=>true
 | .nilIface,.nilIface=>true
 | _,_=>false
theorem BP{a b:Value}(h:yC a b=true):a=b:=by
 unfold yC at h;split at h
 ·simp only[bY,wG] at h;rw[lP h.1,h.2]
 ·simpa using h
 ·rename_i a b;obtain⟨⟨a⟩⟩:=a;obtain⟨⟨b⟩⟩:=b;have h':a=b:=by simpa using h
  rw[h']
 ·rfl
 ·rfl
 ·rfl
 ·cases h
def qv:List Value→List Value→Bool
 | [],[]=>true
 | a::r,b::s=>yC a b&&qv r s
 | _,_=>false
theorem sG:∀{a b:List Value},qv a b=true→a=b
 | [],[],_=>rfl
 | a::r,b::s,h=>by simp only[qv,bY] at h;rw[BP h.1,sG h.2]
 | [],_::_,h=>by cases h
 | _::_,[],h=>by cases h
def oV(P:Program)(tid:TypeId)(size:Nat)(zc:List Value):Bool :=
 match P.info? tid with
 | some i=>Nat.beq i.size size&&(match i.zero with|some z=>qv z.cells.toList zc|none=>false)
 | none=>false
theorem eC{P:Program}{tid:TypeId}{size:Nat}{zc:List Value}(h:oV P tid size zc=true) :
  ∃i z,P.info? tid=some i∧i.size=size∧i.zero=some z∧z.cells.toList=zc:=by
 unfold oV at h;split at h
 ·rename_i i hi;simp only[bY] at h;split at h
  ·rename_i z hz;exact⟨i,z,hi,cB h.1,hz,sG h.2⟩
  ·cases h.2
 ·cases h
def uP(P:Program)(tid:TypeId):Bool :=
 match P.info? tid with
 | some i=>Nat.ble i.bytes 32768
 | none=>false
def Ty.FU:Ty→Bool
 | .alt _ _ r=>r.FU
 | .oN=>true
 | _=>false
def cP(P:Program):Ty→Bool→TypeId→Nat→List Field→Bool
 | .int k,false,tid,_,_=>(match P.underlying tid with|some (.int k')=>Nat.beq (mW k) (mW k')|_=>false)&&oV P tid 1 [.int k 0]
 | .bool,false,tid,_,_=>(match P.underlying tid with|some .bool=>true|_=>false)&&oV P tid 1 [.bool false]
 | .str,false,tid,_,_=>(match P.underlying tid with|some .string=>true|_=>false)&&oV P tid 1 [.string ⟨#[]⟩]
 | .slice e,false,tid,_,_=>(match P.underlying tid with|some (.slice bN)=>cP P e false bN 0 []&&uP P bN&&Nat.blt 0 e.size|_=>false)&&oV P tid 1 [.slice none 0 0]
 | .arr n e,false,tid,_,_=>(match P.underlying tid with|some (.array m bN)=>Nat.beq n m&&cP P e false bN 0 []&&Nat.blt 0 e.size|_=>false)&&oV P tid (n*e.size) (cC (.arr n e))&&!P.eqGuardType P.depth tid
 | .pair a b,false,tid,_,_=>(match P.underlying tid with
  | some (.struct fs)=>(match fs.toList with
    | f::r=>Nat.beq f.offset 0&&decide (f.name ≠ "_")&&cP P a false f.type 0 []&&Nat.blt 0 a.size&&cP P b true 0 a.size r
    | []=>false)
  | _=>false)&&oV P tid (a.size+b.size) (cC (.pair a b))&&!P.eqGuardType P.depth tid&&!P.stoodInHeld tid
 | .unit,false,tid,_,_=>false
 | .alt u _ r,false,tid,_,_=>cP P r false tid 0 []&&P.concrete u&&r.FU
 | .oN,false,tid,_,_=>(match P.underlying tid with|some (.interface _)=>true|_=>false)&&oV P tid 1 [.nilIface]
 | .pair a b,true,_,off,f::r=>Nat.beq f.offset off&&decide (f.name ≠ "_")&&cP P a false f.type 0 []&&Nat.blt 0 a.size&&cP P b true 0 (off+a.size) r
 | .unit,true,_,_,[]=>true
 | _,_,_,_,_=>false
def Den(P:Program)(t:Ty)(tid:TypeId):Prop:=cP P t false tid 0 []=true
def gV(P:Program)(t:Ty)(off:Nat)(fs:List Field):Prop:=cP P t true 0 off fs=true
section
variable {P:Program} {tid:TypeId}
theorem Den.int{k:IntKind}(h:Den P (.int k) tid):P.underlying tid=some (.int k):=by
 simp only[Den,cP,bY] at h;have h1:=h.1;split at h1
 ·rename_i k' hk;rw[hk,lP h1]
 ·cases h1
theorem Den.bool(h:Den P .bool tid):P.underlying tid=some .bool:=by
 simp only[Den,cP,bY] at h;have h1:=h.1;split at h1
 ·rename_i hk;rw[hk]
 ·cases h1
theorem Den.str(h:Den P .str tid):P.underlying tid=some .string:=by
 simp only[Den,cP,bY] at h;have h1:=h.1;split at h1
 ·rename_i hk;rw[hk]
 ·cases h1
theorem Den.slice{e:Ty}(h:Den P (.slice e) tid):∃bN,P.underlying tid=some (.slice bN)∧Den P e bN∧uP P bN=true∧0<e.size:=by
 simp only[Den,cP,bY] at h;have h1:=h.1;split at h1
 ·rename_i bN hk;simp only[bY] at h1;exact⟨bN,hk,h1.1.1,h1.1.2,by simpa using h1.2⟩
 ·cases h1
theorem Den.arr{n:Nat}{e:Ty}(h:Den P (.arr n e) tid):∃bN,P.underlying tid=some (.array n bN)∧Den P e bN∧0<e.size:=by
 simp only[Den,cP,bY] at h;have h1:=h.1.1;split at h1
 ·rename_i m bN hk;simp only[bY] at h1;rw[cB h1.1.1];exact⟨bN,hk,h1.1.2,by simpa using h1.2⟩
 ·cases h1
theorem Den.K1{n:Nat}{e:Ty}(h:Den P (.arr n e) tid):P.eqGuardType P.depth tid=false:=by
 simp only[Den,cP,bY,oh] at h;exact h.2
theorem Den.pair{a b:Ty}(h:Den P (.pair a b) tid):∃fs,P.underlying tid=some (.struct fs)∧gV P (.pair a b) 0 fs.toList∧P.eqGuardType P.depth tid=false∧P.stoodInHeld tid=false:=by
 simp only[Den,cP,bY] at h;obtain⟨⟨⟨h1,h2⟩,h3⟩,h4⟩:=h;split at h1
 ·rename_i fs hk;refine⟨fs,hk,?_,by simpa using h3,by simpa using h4⟩;split at h1
  ·rename_i f r hr;simp only[gV,hr,cP,lu];exact h1
  ·cases h1
 ·cases h1
theorem Den.info{t:Ty}(h:Den P t tid):∃i z,P.info? tid=some i∧i.size=t.size∧i.zero=some z∧z.cells.toList=cC t:=by
 induction t with
 | int k=>simp only[Den,cP,bY] at h;exact eC h.2
 | bool=>simp only[Den,cP,bY] at h;exact eC h.2
 | str=>simp only[Den,cP,bY] at h;exact eC h.2
 | slice e=>simp only[Den,cP,bY] at h;exact eC h.2
 | arr n e=>simp only[Den,cP,bY] at h;exact eC h.1.2
 | pair a b=>simp only[Den,cP,bY] at h;exact eC h.1.1.2
 | unit=>simp[Den,cP] at h
 | alt u a r eH ihr=>simp only[Den,cP,bY] at h;exact ihr h.1.1
 | oN=>simp only[Den,cP,bY] at h;exact eC h.2
theorem Den.oN(h:Den P .oN tid):∃ms,P.underlying tid=some (.interface ms):=by
 simp only[Den,cP,bY] at h;have h1:=h.1;split at h1
 ·exact⟨_,by assumption⟩
 ·cases h1
theorem Den.rest{u:Nat}{a r:Ty}(h:Den P (.alt u a r) tid):Den P r tid∧P.concrete u=true:=by
 simp only[Den,cP,bY] at h;exact h.1
theorem Ty.uQ:∀{t:Ty},t.FU=true→t.size=1∧t.isAgg=false:=by
 intro t;induction t with
 | alt u a r eH ihr=>intro h;exact ihr h
 | oN=>intro h;exact⟨rfl,rfl⟩
 | _=>intro h;cases h
theorem Den.FV{u:Nat}{a r:Ty}(_:Den P r tid)(h:Den P (.alt u a r) tid):r.size=1:=by
 simp only[Den,cP,bY] at h;exact(Ty.uQ h.2).1
theorem Den.agg{t:Ty}(h:Den P t tid)(w:World):(isAgg tid).run P w=.ok t.isAgg w:=by
 induction t with
 | alt u a r eH ihr=>exact ihr h.rest.1
 | oN=>obtain⟨_,h1⟩:=h.oN;unfold Go.isAgg;simp[run_underlying h1,Ty.isAgg]
 | int k=>unfold Go.isAgg;simp[run_underlying h.int,Ty.isAgg]
 | bool=>unfold Go.isAgg;simp[run_underlying h.bool,Ty.isAgg]
 | str=>unfold Go.isAgg;simp[run_underlying h.str,Ty.isAgg]
 | slice e ih=>unfold Go.isAgg;obtain⟨_,h1,_⟩:=h.slice;simp[run_underlying h1,Ty.isAgg]
 | arr n e ih=>unfold Go.isAgg;obtain⟨_,h1,_⟩:=h.arr;simp[run_underlying h1,Ty.isAgg]
 | pair a b eH fF=>unfold Go.isAgg;obtain⟨_,h1,_⟩:=h.pair;simp[run_underlying h1,Ty.isAgg]
 | unit=>simp[Den,cP] at h
theorem Den.sizeOf{t:Ty}(h:Den P t tid)(w:World):(Go.sizeOf tid).run P w=.ok t.size w:=by
 obtain⟨i,z,h1,h2,_⟩:=h.info;simp[Go.sizeOf,typeInfo,h1,h2]
theorem Den.zero{t:Ty}(h:Den P t tid)(w:World):∃z,(zeroValue tid).run P w=.ok z w∧z.cells.toList=cC t:=by
 obtain⟨i,z,h1,h2,h3,h4⟩:=h.info;exact⟨z,by simp[zeroValue,typeInfo,h1,h3],h4⟩
theorem Den.cells{t:Ty}(h:Den P t tid):P.cellsOf tid=t.size:=by
 obtain⟨i,z,h1,h2,_⟩:=h.info;simp[Program.cellsOf,h1,h2]
theorem gV.cons{a b:Ty}{off:Nat}{fs:List Field}(h:gV P (.pair a b) off fs) :
  ∃f r,fs=f::r∧f.offset=off∧f.name ≠ "_"∧Den P a f.type∧0<a.size∧gV P b (off+a.size) r:=by
 cases fs with
 | nil=>simp[gV,cP] at h
 | cons f r =>
   simp only[gV,cP,bY] at h;obtain⟨⟨⟨⟨h1,h2⟩,h3⟩,h4⟩,h5⟩:=h;exact⟨f,r,rfl,cB h1,by simpa using h2,h3,by simpa using h4,h5⟩
theorem gV.at{t:Ty}:∀{off:Nat} {fs:List Field} {k:Nat} {u:Ty} {o:Nat},gV P t off fs→jW t k=some u→eA t k=some o →
  ∃f,fs[k]?=some f∧f.offset=off+o∧Den P u f.type∧0<u.size:=by
 induction t with
 | pair a b eH fF =>
   intro off fs k u o h hu ho;obtain⟨f,r,rfl,h1,h2,h3,h4,h5⟩:=h.cons;cases k with
   | zero =>
     simp only[jW,eA,jx] at hu ho;subst hu ho;exact⟨f,rfl,by omega,h3,h4⟩
   | succ k =>
     simp only[jW,eA] at hu ho;cases hb:eA b k with
     | none=>rw[hb] at ho;cases ho
     | some o' =>
       rw[hb] at ho;simp only[qf,jx] at ho;obtain⟨f',k1,k2,k3,k4⟩:=fF h5 hu hb;exact⟨f',by simpa using k1,by omega,k3,k4⟩
 | _=>intro off fs k u o h hu ho;cases k<;>simp[jW] at hu
end
def gr.cells:gr→List Value
 | .dat t=>cC t
 | .buf _ _=>[.slice none 0 0]
 | _=>[.pointer none]
def uR:List gr→List Value
 | []=>[]
 | f::r=>f.cells++uR r
def Jz:List gr→Nat
 | []=>0
 | f::r=>f.size+Jz r
def xO(P:Program):Nat→List gr→List Field→Bool
 | _,[],[]=>true
 | off,f::r,g::s=>Nat.beq g.offset off&&Nat.blt 0 f.size&&(match P.info? g.type with|some i=>Nat.beq i.size f.size|none=>false)&&xO P (off+f.size) r s
 | _,_,_=>false
def wL(P:Program)(tid:TypeId)(fs:List gr):Bool :=
 (match P.underlying tid with|some (.struct gs)=>xO P 0 fs gs.toList|_=>false)&&oV P tid (Jz fs) (uR fs)
theorem D4{P:Program}{tid:TypeId}{fs:List gr}(h:wL P tid fs=true)(w:World):∃z,(zeroValue tid).run P w=.ok z w∧z.cells.toList=uR fs:=by
 simp only[wL,bY] at h;obtain⟨i,z,h1,h2,h3,h4⟩:=eC h.2;exact⟨z,by simp[zeroValue,typeInfo,h1,h3],h4⟩
theorem FW{P:Program}:∀{fs:List gr} {gs:List Field} {off k o:Nat},xO P off fs gs=true→mI fs k=some o→∃f i,gs[k]?=some f∧f.offset=off+o∧P.info? f.type=some i∧0<i.size:=by
 intro fs;induction fs with
 | nil=>intro gs off k o h ho;cases ho
 | cons f r ih =>
   intro gs off k o h ho;cases gs with
   | nil=>cases h
   | cons g s =>
     simp only[xO,bY] at h;obtain⟨⟨⟨h1,h2⟩,h3⟩,h4⟩:=h;cases k with
     | zero =>
       obtain rfl:=au ho;split at h3
       ·rename_i i hi;have Pz:=cB h3;have Ni:0<f.size:=by simpa using h2
        exact⟨g,i,rfl,by rw[cB h1];rfl,hi,by omega⟩
       ·cases h3
     | succ k =>
       simp only[mI] at ho;split at ho
       ·rename_i o' ho';obtain rfl:=au ho;obtain⟨f',i,k1,k2,k3,k4⟩:=ih h4 ho';exact⟨f',i,k1,by omega,k3,k4⟩
       ·cases ho
theorem HW{P:Program}{tid:TypeId}{fs:List gr}{k o:Nat}(h:wL P tid fs=true)(ho:mI fs k=some o):∃(gs:Array Field) (f:Field) (i:TypeInfo),P.underlying tid=some (.struct gs)∧gs.toList[k]?=some f∧f.offset=o∧P.info? f.type=some i∧0<i.size:=by
 simp only[wL,bY] at h;obtain⟨h1,_⟩:=h;split at h1
 ·rename_i gs hg;obtain⟨f,i,k1,k2,k3,k4⟩:=FW h1 ho;exact⟨gs,f,i,hg,k1,by omega,k3,k4⟩
 ·cases h1
theorem qw{P:Program}:∀{fs:List gr} {gs:List Field} {off:Nat},xO P off fs gs=true→∃pl:List (Nat×Nat),gs.mapM (fun f=>(P.info? f.type).map fun i=>(f.offset,i.size))=some pl ∧
  ∀k o f,mI fs k=some o→fs[k]?=some f→pl[k]?=some (off+o,f.size):=by
 intro fs;induction fs with
 | nil =>
   intro gs off h;cases gs with
   | nil=>exact⟨[],rfl,fun k o f _ hf=>by cases hf⟩
   | cons g s=>cases h
 | cons f r ih =>
   intro gs off h;cases gs with
   | nil=>cases h
   | cons g s =>
     simp only[xO,bY] at h;obtain⟨⟨⟨h1,h2⟩,h3⟩,h4⟩:=h;obtain⟨pl,p1,p2⟩:=ih h4;split at h3
     ·rename_i i hi;refine⟨(g.offset,i.size)::pl,by simp[hi,p1],fun k o q ho hq=>?_⟩;cases k with
      | zero =>
        obtain rfl:=au ho;obtain rfl:=au hq;rw[Fo,cB h1,cB h3];rfl
      | succ k =>
        simp only[mI] at ho;split at ho
        ·rename_i o' ho';obtain rfl:=au ho;have:=p2 k o' q ho' (by simpa using hq);rw[Fq,this,rE]
        ·cases ho
     ·cases h3
structure dw (P:Program) (cx:Ctx):Prop where
 T:∀tid t,find cx.T tid=some t→Den P t tid
 jy:∀tid,bC cx.jy tid=true→(∀w,(isAgg tid).run P w=.ok false w)∧(∀w,(Go.sizeOf tid).run P w=.ok 1 w)∧∃z,(∀w,(zeroValue tid).run P w=.ok z w)∧z.oneCell'=true
 cO:∀tid,bC cx.cO tid=true→∃e,P.underlying tid=some (.pointer e)
 fns:∀f fn,find cx.fns f=some fn→P.funcs[f]?=some fn
 jV:∀tid fs,find cx.jV tid=some fs→wL P tid fs=true
 els:∀tid e,find cx.els tid=some e→P.underlying tid=some (.slice e)
theorem dR{o:Option Ty}{t:Ty}(h:rI o t=true):o=some t:=by
 unfold rI at h;split at h
 ·rw[Ty.eq_of_beq h]
 ·cases h
theorem addr_add(b o n:Nat):Addr.add ⟨b,o,none⟩ n=⟨b,o+n,none⟩:=by
 unfold Addr.add;split<;>simp_all
def splice(l:List Value)(off:Nat)(c:List Value):List Value:=l.take off++c++l.drop (off+c.length)
theorem bB{l c:List Value}{off:Nat}(h:off+c.length≤l.length):(splice l off c).length=l.length:=by
 simp[splice];omega
theorem gu.same{cur cur':Array Value}{fr:Nat×Nat}(h:gu cur fr)(hs:cur'.size=cur.size):gu cur' fr:=fun o ho=>h o (by omega)
section
variable {P:Program}
theorem HG.same{e:Ty}{cur cur':Array Value}{fr:Nat×Nat}(h:HG e cur fr)(hs:cur'.size=cur.size):HG e cur' fr:=⟨h.th.same hs,fun he=>by rw[hs];exact h.um he⟩
theorem bV(g o:Nat)(t:TypeId)(fr:Nat×Nat):∀(vs:List Value) (i:Nat) (cur:Array Value) (w:World),w.heap[g]?=some (.cells cur t fr)→gu cur fr →
  o+i+vs.length≤cur.size→(∀v∈vs,v.oneCell'=true)→(storeCells ⟨g,o,none⟩ vs i).run P w=.ok () (w.setRow g (splice cur.toList (o+i) vs).toArray)
 | [],i,cur,w,hg,_,_,_=>by
   simp only[storeCells,splice,wI,wJ,pH,wE,Array.toArray_toList];rw[setRow_self w g cur t fr hg];rfl
 | v::rest,i,cur,w,hg,E0,hl,h1=>by
   have hi:o+i<cur.size:=by simp at hl;omega
   have hcell:w.cell? ⟨g,o+i,none⟩=some cur[o+i]:=by simp[World.cell?,hg,hi]
   have BQ:w.frozen? ⟨g,o+i,none⟩=false:=by
    have:=E0 (o+i) hi;simp only[World.frozen?,hg];obtain⟨a,b⟩:=fr;simp only[Jq,Fs];simp only at this;omega
   have hst:(store ((⟨g,o,none⟩:Addr).add i) v).run P w=.ok () (w.setRow g (cur.setIfInBounds (o+i) v)):=by
    rw[addr_add,run_store P w _ v _ (h1 v (by simp)),hcell];simp[BQ,setCell_eq_setRow w g (o+i) cur t fr v hg]
   have ih:=bV g o t fr rest (i+1) (cur.setIfInBounds (o+i) v) (w.setRow g (cur.setIfInBounds (o+i) v)) (setRow_heap w g cur _ t _ hg) (E0.same (by simp)) (by simp at hl⊢;omega) (fun x hx=>h1 x (by simp[hx]));simp only[storeCells,Sem.run_bind,hst,Result.andThen_ok,ih,setRow_setRow]
   congr 3
   have e:=list_seg_step cur.toList (o+i) v rest (by simp at hl⊢;omega);simpa [splice,Ji,rE] using e
theorem cell_of_heap{w:World}{g:Nat}{cur:Array Value}{t:TypeId}{fr:Nat×Nat}(hg:w.heap[g]?=some (.cells cur t fr))(j:Nat):w.cell? ⟨g,j,none⟩=cur[j]?:=by
 simp[World.cell?,hg]
theorem oO{w:World}{g off n:Nat}{cur:Array Value}{t:TypeId}{fr:Nat×Nat}(hg:w.heap[g]?=some (.cells cur t fr))(h:off+n≤cur.size) :
  (loadCells ⟨g,off,none⟩ n).run P w=.ok ((cur.toList.drop off).take n).toArray w:=by
 have hl:((cur.toList.drop off).take n).length=n:=by simp;omega
 have:=run_loadCells_list (P:=P) w ⟨g,off,none⟩ ((cur.toList.drop off).take n) (fun j v hv=>by
  rw[addr_add,cell_of_heap hg];rw[jw] at hv;split at hv
  ·rw[nk] at hv;simpa using hv
  ·cases hv)
 rwa [hl] at this
theorem rP{w:World}{I:Nat→Nat→Prop}{g off:Nat}{cs:List Value}(h:qs w I g off cs):(loadCells ⟨g,off,none⟩ cs.length).run P w=.ok cs.toArray w :=
 run_loadCells_list (P:=P) w ⟨g,off,none⟩ cs (fun j v hv=>by rw[addr_add];exact(h j v hv).1)
end
end Go.Ge
namespace Go.Ge
theorem dO{a b:Nat}(h:a≠b):Nat.beq a b=false:=by
 cases hb:Nat.beq a b
 ·rfl
 ·exact absurd (cB hb) h
theorem FX(a:Act)(d t:Nat)(v:Value)(hd:d<a.tmps.size):(a.put (some d) v).tmps.getD t undef=if t=d then v else a.tmps.getD t undef:=by
 simp only[Act.put,Bx,JV];by_cases h:d=t
 ·subst h;simp[hd]
 ·rw[cY h,cY (fun e=>h e.symm)]
theorem Af(a:Act)(d:Option Nat)(v:Value):(a.put d v).tmps.size=a.tmps.size:=by cases d<;>simp[Act.put]
theorem put_defers(a:Act)(d:Option Nat)(v:Value):(a.put d v).defers=a.defers:=by cases d<;>rfl
section
variable {B:iP} {N:Nat} {γ γ':Gh} {σ:St} {a:Act} {w w':World} {mem':Nat→Option aI}
theorem bE.step(h:bE B N γ σ a w)(hx:Ext B γ σ.mem w γ' mem' w')(hm:aG B γ' mem' w'){d:Nat}(hd:d<N){v:av}{val:Value}(hv:aV γ' mem' w' v .val [val]) :
  bE B N γ' ({ slots:=σ.slots,mem:=mem':St }.put d v) (a.put (some d) val) w' where
 slots:=fun t=>by
  rw[FX a d t val (by rw[h.size];exact hd)];simp only[St.put];by_cases e:t=d
  ·subst e;simpa using hv
  ·rw[cY e,dO e];exact(h.slots t).ext hx
 size:=by rw[Af];exact h.size
 defers:=by rw[put_defers];exact h.defers
 ok:=hm
theorem bE.go(h:bE B N γ σ a w)(hx:Ext B γ σ.mem w γ' mem' w')(hm:aG B γ' mem' w'):bE B N γ' { slots:=σ.slots,mem:=mem' } a w' where
 slots:=fun t=>(h.slots t).ext hx
 size:=h.size
 defers:=h.defers
 ok:=hm
theorem bE.aA(h:bE B N γ σ a w)(hx:Ext B γ σ.mem w γ' mem' w')(hm:aG B γ' mem' w'){d:Option Nat}(hd:∀k,d=some k→k<N){v:av}{val:Value}(hv:aV γ' mem' w' v .val [val]) :
  bE B N γ' ({ slots:=σ.slots,mem:=mem':St }.aA d v) (a.put d val) w':=by
 cases d with
 | none=>exact h.go hx hm
 | some d=>exact h.step hx hm (hd d rfl) hv
theorem bE.nG(h:bE B N γ σ a w){d:Option Nat}(hd:∀k,d=some k→k<N){v:av}{val:Value}(hv:aV γ σ.mem w v .val [val]) :
 bE B N γ (σ.aA d v) (a.put d val) w:=h.aA (Ext.refl _ _ _ _) h.ok hd hv
end
theorem b5{γ:Gh}{mem:Nat→Option aI}{w:World}{t:Ty}{x:t.den}{v:Value}:aV γ mem w (.data t x) .val [v]↔∃cs,aM w γ.I t x cs∧v=bk t cs:=by
 simp only[aV,DQ,and_true]
theorem D5(γ:Gh)(mem:Nat→Option aI)(w:World)(v:Value):aV γ mem w (uC v) .val [v]:=by
 unfold uC;split
 ·rename_i k n;cases hc:(decide (k.min≤n)&&decide (n≤k.max))
  ·exact⟨_,rfl⟩
  ·simp only[bY,wG] at hc;exact⟨[.int k n],⟨rfl,hc.1,hc.2⟩,rfl⟩
 ·rename_i b;exact⟨[.bool b],rfl,rfl⟩
 ·rename_i s;cases hc:Nat.ble s.data.toList.length 4294967296
  ·exact⟨_,rfl⟩
  ·refine⟨[.string s],⟨?_,?_⟩,rfl⟩
   ·obtain⟨⟨l⟩⟩:=s;rfl
   ·have:=tq hc;simp only[maxLen];omega
 ·rfl
 ·rfl
 ·rfl
 ·exact⟨_,rfl⟩
theorem bE.aZ{B:iP}{N:Nat}{γ:Gh}{σ:St}{a:Act}{w:World}(h:bE B N γ σ a w)(x:Operand):aV γ σ.mem w (aZ σ x) .val [a.eval x]:=by
 cases x with
 | tmp t=>exact h.slots t
 | const v=>exact D5 _ _ _ v
 | global g=>exact⟨_,rfl⟩
 | func f=>exact⟨#[],rfl,rfl,fun i b ag hc=>by simp at hc⟩
theorem aV.gk{γ:Gh}{mem:Nat→Option aI}{w:World}{v:av}{x:Value}(h:aV γ mem w v .val [x])(hv:∀u,v≠.kN u)(h0:v=.undef→x.oneCell'=true):aV γ mem w v .cells x.cells.toList:=by
 cases v with
 | undef=>exact⟨x,by cases x<;>first|rfl|(have:=h0 rfl;simp[Value.oneCell'] at this),h0 rfl⟩
 | data t y=>obtain⟨cs,h1,h2⟩:=b5.1 h;subst h2;show aM _ _ _ _ _;rw[iY h1];exact h1
 | gA=>obtain rfl:x=_:=by simpa [aV] using h
       rfl
 | iL=>obtain rfl:x=_:=by simpa [aV] using h
       rfl
 | jg=>obtain rfl:x=_:=by simpa [aV] using h
       rfl
 | kS b ag=>obtain⟨⟨v,h1,h2⟩,h3⟩:=h;simp at h1;subst h1;refine⟨⟨x,?_,h2⟩,?_⟩
            ·cases x<;>first|rfl|(simp[Value.oneCell'] at h2)
            ·obtain⟨bx,k1,k2,k3⟩:=h3;exact⟨bx,k1,k2,fun e=>by
              obtain⟨blk,cap,j1,j2⟩:=k3 e;refine⟨blk,cap,j1,?_⟩;rcases j2 with j2|j2
              ·simp at j2;subst j2;exact .inl rfl
              ·simp at j2;subst j2;exact .inr rfl⟩
 | cell t y=>obtain⟨blk,off,cs,h1,h2,h3⟩:=h;simp at h1;subst h1;exact⟨blk,off,cs,rfl,h2,h3⟩
 | ptr b ag p=>obtain⟨⟨v,h1,h2⟩,h3⟩:=h;simp at h1;subst h1;refine⟨⟨x,?_,h2⟩,?_⟩
               ·cases x<;>first|rfl|(simp[Value.oneCell'] at h2)
               ·obtain⟨bx,k1,k2,k3⟩:=h3;exact⟨bx,k1,k2,fun e=>by obtain⟨blk,cap,j1,j2⟩:=k3 e;simp at j2;subst j2;exact⟨blk,cap,j1,rfl⟩⟩
 | whole b ag=>obtain⟨⟨v,h1,h2⟩,h3⟩:=h;simp at h1;subst h1;refine⟨⟨x,?_,h2⟩,?_⟩
               ·cases x<;>first|rfl|(simp[Value.oneCell'] at h2)
               ·obtain⟨bx,k1,k2,k3⟩:=h3;exact⟨bx,k1,k2,fun e=>by
                 obtain⟨u,n,j1,j2,j3⟩:=k3 e;refine⟨u,n,j1,j2,?_⟩;rcases j3 with ⟨j3,j4⟩|⟨blk,cap,j3,j4⟩
                 ·simp at j4;subst j4;exact .inl ⟨j3,rfl⟩
                 ·simp at j4;subst j4;exact .inr ⟨blk,cap,j3,rfl⟩⟩
 | part b ag lo n=>obtain⟨⟨v,h1,h2⟩,h3⟩:=h;simp at h1;subst h1;refine⟨⟨x,?_,h2⟩,?_⟩
                   ·cases x<;>first|rfl|(simp[Value.oneCell'] at h2)
                   ·obtain⟨bx,k1,k2,k3⟩:=h3;exact⟨bx,k1,k2,fun e=>by
                     obtain⟨u,k,j1,j2,j3,j4,base,cap,j5,j6⟩:=k3 e;simp at j5;subst j5;exact⟨u,k,j1,j2,j3,j4,base,cap,rfl,j6⟩⟩
 | win b ag q e k lo n=>obtain⟨⟨v,h1,h2⟩,h3⟩:=h;simp at h1;subst h1;refine⟨⟨x,?_,h2⟩,?_⟩
                        ·cases x<;>first|rfl|(simp[Value.oneCell'] at h2)
                        ·obtain⟨bx,k1,k2,k3⟩:=h3;exact⟨bx,k1,k2,fun e=>by
                          obtain⟨j0,u,c,j1,j2,j3,j4,base,cap,j5,j6⟩:=k3 e;simp at j5;subst j5;exact⟨j0,u,c,j1,j2,j3,j4,base,cap,rfl,j6⟩⟩
 | fn f caps=>obtain⟨arr,h1,h2⟩:=h;simp at h1;subst h1;exact⟨arr,rfl,h2⟩
 | mix p q=>obtain⟨c1,c2,h1,h2,h3⟩:=h;simp at h1;subst h1;exact⟨c1,c2,by simp[Value.cells],h2,h3⟩
 | kN u=>exact absurd rfl (hv u)
 | nl=>exact h.elim
theorem aV.length{γ:Gh}{mem:Nat→Option aI}{w:World}:∀{v:av} {cs:List Value},aV γ mem w v .cells cs→cs.length=bA v:=by
 intro v;induction v with
 | data t x=>intro cs h;exact aM.length h
 | mix a b eH fF=>intro cs h;obtain⟨c1,c2,rfl,h1,h2⟩:=h;rw[oL,eH h1,fF h2];rfl
 | undef=>intro cs h;obtain⟨v,rfl,_⟩:=h;rfl
 | gA=>intro cs h;rw[show cs=_ from h];rfl
 | iL=>intro cs h;rw[show cs=_ from h];rfl
 | jg=>intro cs h;rw[show cs=_ from h];rfl
 | kS b ag=>intro cs h;obtain⟨⟨_,rfl,_⟩,_⟩:=h;rfl
 | cell t x=>intro cs h;obtain⟨_,_,_,rfl,_⟩:=h;rfl
 | ptr b ag p=>intro cs h;obtain⟨⟨_,rfl,_⟩,_⟩:=h;rfl
 | whole b ag=>intro cs h;obtain⟨⟨_,rfl,_⟩,_⟩:=h;rfl
 | part b ag lo n=>intro cs h;obtain⟨⟨_,rfl,_⟩,_⟩:=h;rfl
 | win b ag q e k lo n=>intro cs h;obtain⟨⟨_,rfl,_⟩,_⟩:=h;rfl
 | fn f caps=>intro cs h;obtain⟨_,rfl,_⟩:=h;rfl
 | kN u ih=>intro cs h;exact h.elim
 | nl=>intro cs h;exact h.elim
theorem aV.one{γ:Gh}{mem:Nat→Option aI}{w:World}:∀{v:av} {cs:List Value},aV γ mem w v .cells cs→∀c∈cs,c.oneCell'=true:=by
 intro v;induction v with
 | data t x=>intro cs h;exact aM.one h
 | mix a b eH fF =>
   intro cs h c hc;obtain⟨c1,c2,rfl,h1,h2⟩:=h;rcases List.mem_append.1 hc with hc|hc
   ·exact eH h1 c hc
   ·exact fF h2 c hc
 | undef=>intro cs h c hc;obtain⟨v,rfl,h1⟩:=h;simp at hc;subst hc;exact h1
 | gA=>intro cs h c hc;rw[show cs=_ from h] at hc;simp at hc;subst hc;rfl
 | iL=>intro cs h c hc;rw[show cs=_ from h] at hc;simp at hc;subst hc;rfl
 | jg=>intro cs h c hc;rw[show cs=_ from h] at hc;simp at hc;subst hc;rfl
 | kS b ag=>intro cs h c hc;obtain⟨⟨_,rfl,h1⟩,_⟩:=h;simp at hc;subst hc;exact h1
 | cell t x=>intro cs h c hc;obtain⟨_,_,_,rfl,_⟩:=h;simp at hc;subst hc;rfl
 | ptr b ag p=>intro cs h c hc;obtain⟨⟨_,rfl,h1⟩,_⟩:=h;simp at hc;subst hc;exact h1
 | whole b ag=>intro cs h c hc;obtain⟨⟨_,rfl,h1⟩,_⟩:=h;simp at hc;subst hc;exact h1
 | part b ag lo n=>intro cs h c hc;obtain⟨⟨_,rfl,h1⟩,_⟩:=h;simp at hc;subst hc;exact h1
 | win b ag q e k lo n=>intro cs h c hc;obtain⟨⟨_,rfl,h1⟩,_⟩:=h;simp at hc;subst hc;exact h1
 | fn f caps=>intro cs h c hc;obtain⟨_,rfl,_⟩:=h;simp at hc;subst hc;rfl
 | kN u ih=>intro cs h;exact h.elim
 | nl=>intro cs h;exact h.elim
theorem ji{α:Type}{l:List α}{i:Int}{x:α}(h:idx l i=some x):0≤i∧l[i.toNat]?=some x:=by
 unfold idx at h;split at h
 ·rename_i h0;exact⟨h0,h⟩
 ·cases h
theorem pO{w:World}{I:Nat→Nat→Prop}:∀{t:Ty} {x:t.den} {cs:List Value} {k o:Nat} {u:av},aM w I t x cs→gL t x k=some (o,u) →
  ∃(t':Ty) (y:t'.den),u=.data t' y∧jW t k=some t'∧eA t k=some o∧o+t'.size≤cs.length∧aM w I t' y ((cs.drop o).take t'.size):=by
 intro t;induction t with
 | pair a b eH fF =>
   intro x cs k o u h hk;obtain⟨c1,c2,rfl,h1,h2⟩:=h;cases k with
   | zero =>
     simp only[gL,jx,zT] at hk;obtain⟨rfl,rfl⟩:=hk;refine⟨a,x.1,rfl,rfl,rfl,by rw[oL,h1.length];omega,?_⟩;rw[DU,←h1.length,DV];exact h1
   | succ k =>
     simp only[gL] at hk;cases hf:gL b x.2 k with
     | none=>rw[hf] at hk;cases hk
     | some r =>
       rw[hf] at hk;simp only[jx,zT] at hk;obtain⟨rfl,rfl⟩:=hk;obtain⟨t',y,k1,k2,k3,k4,k5⟩:=fF h2 (show gL b x.2 k=some (r.1,r.2) from hf);refine⟨t',y,k1,k2,by simp[eA,k3],by rw[oL,h1.length];omega,?_⟩;rw[←h1.length,←mD,pG];exact k5
 | _=>intro x cs k o u h hk;cases k<;>simp[gL] at hk
theorem rQ{γ:Gh}{mem:Nat→Option aI}{w:World}:∀{v:av} {cs:List Value} {k o:Nat} {u:av},aV γ mem w v .cells cs→fK v k=some (o,u) →
  o+bA u≤cs.length∧aV γ mem w u .cells ((cs.drop o).take (bA u)):=by
 intro v;induction v with
 | data t x =>
   intro cs k o u h hk;obtain⟨t',y,rfl,_,_,h1,h2⟩:=pO (w:=w) h hk;exact⟨h1,h2⟩
 | mix a b eH fF =>
   intro cs k o u h hk;obtain⟨c1,c2,rfl,h1,h2⟩:=h;cases k with
   | zero =>
     simp only[fK,jx,zT] at hk;obtain⟨rfl,rfl⟩:=hk;refine⟨by rw[oL,h1.length];omega,?_⟩;rw[DU,←h1.length,DV];exact h1
   | succ k =>
     simp only[fK] at hk;cases hf:fK b k with
     | none=>rw[hf] at hk;cases hk
     | some r =>
       rw[hf] at hk;simp only[jx,zT] at hk;obtain⟨rfl,rfl⟩:=hk;obtain⟨k4,k5⟩:=fF h2 (show fK b k=some (r.1,r.2) from hf);refine⟨by rw[oL,h1.length];omega,?_⟩;rw[←h1.length,←mD,pG];exact k5
 | _=>intro cs k o u h hk;cases k<;>simp[fK] at hk
theorem uq{γ:Gh}{mem:Nat→Option aI}{w:World}{t:Ty}{v:av}{z:t.den}{es:List Value}(h:toS t v=some z)(hv:aV γ mem w v .cells es):aM w γ.I t z es:=by
 cases v with
 | data u y =>
   obtain⟨e,e2⟩:=Ty.eY (show Ty.to u t y=some z from h);subst e;subst e2;exact hv
 | _=>cases h
theorem bind_some{α β:Type}{t:Tree α}{f:α→Tree β}{y:β}(h:(t.bind f).run=some y):∃x,t.run=some x∧(f x).run=some y:=by
 rw[Tree.run_bind] at h;exact Option.bind_eq_some_iff.1 h
theorem aR{T α:Type}{o:Option T}{k:T→Tree α}{y:α}(h:(Tree.look o k).run=some y):∃x,o=some x∧(k x).run=some y:=by
 cases o with
 | none=>cases h
 | some x=>exact⟨x,rfl,h⟩
theorem aX{α:Type}{c:Bool}{t:Tree α}{y:α}(h:(Tree.need c t).run=some y):c=true∧t.run=some y:=by
 cases c with
 | false=>cases h
 | true=>exact⟨rfl,h⟩
theorem ai{α:Type}{c:Bool}{t:Tree α}{y:α}(h:(bif c then t else .fail).run=some y):c=true∧t.run=some y:=by
 cases c with
 | false=>cases h
 | true=>exact⟨rfl,h⟩
theorem cT{α:Type}{c:Bool}{t e:Tree α}{y:α}(h:(Tree.node c t e).run=some y):(bif c then t else e).run=some y:=by
 cases c<;>exact h
section
variable {γ:Gh} {mem:Nat→Option aI} {w:World}
theorem Ag:∀{t:Ty} {x:t.den} {cs:List Value} {k o:Nat} {u:av} {y:t.den} {f:av→Tree av} {es:List Value},
  aM w γ.I t x cs→gL t x k=some (o,u)→(∀v,(f u).run=some v→aV γ mem w v .cells es)→(tZ t x k f).run=some y→es.length=bA u →
  aM w γ.I t y (splice cs o es):=by
 intro t;induction t with
 | pair a b eH fF =>
   intro x cs k o u y f es h hk hf hs hl;obtain⟨c1,c2,rfl,h1,h2⟩:=h;cases k with
   | zero =>
     simp only[gL,jx,zT] at hk;obtain⟨rfl,rfl⟩:=hk;obtain⟨v,hf',hs⟩:=bind_some hs;have he:=hf v hf';cases hv:toS a v with
     | none=>rw[hv] at hs;cases hs
     | some z =>
       rw[hv] at hs;obtain rfl:=au hs;simp only[bA] at hl;refine⟨es,c2,?_,uq hv he,h2⟩;simp only[splice,Fl,zR,lu];rw[show es.length=c1.length by rw[hl,h1.length],pG]
   | succ k =>
     simp only[gL] at hk;cases J4:gL b x.2 k with
     | none=>rw[J4] at hk;cases hk
     | some r =>
       rw[J4] at hk;simp only[jx,zT] at hk;obtain⟨rfl,rfl⟩:=hk;obtain⟨z,hq,hs⟩:=bind_some hs;obtain rfl:=au hs;have:=fF h2 (show gL b x.2 k=some (r.1,r.2) from J4) hf hq hl;refine⟨c1,splice c2 r.1 es,?_,h1,this⟩;simp only[splice,←h1.length,HL,kK]
       congr 1;congr 1;congr 1
       rw[rE,←mD,pG]
 | _=>intro x cs k o u y f es h hk;cases k<;>simp[gL] at hk
theorem uS:∀{v0:av} {cs:List Value} {k o:Nat} {u c:av} {f:av→Tree av} {es:List Value},
  aV γ mem w v0 .cells cs→fK v0 k=some (o,u)→(∀v,(f u).run=some v→aV γ mem w v .cells es)→(rH v0 k f).run=some c→es.length=bA u →
  aV γ mem w c .cells (splice cs o es):=by
 intro v0;induction v0 with
 | data t x =>
   intro cs k o u c f es h hk hf hs hl;obtain⟨y,hy,hs⟩:=bind_some hs;obtain rfl:=au hs;exact Ag h hk hf hy hl
 | mix a b eH fF =>
   intro cs k o u c f es h hk hf hs hl;obtain⟨c1,c2,rfl,h1,h2⟩:=h;cases k with
   | zero =>
     simp only[fK,jx,zT] at hk;obtain⟨rfl,rfl⟩:=hk;obtain⟨v,hf',hs⟩:=bind_some hs;have he:=hf v hf';obtain rfl:=au hs;refine⟨es,c2,?_,he,h2⟩;simp only[splice,Fl,zR,lu];rw[show es.length=c1.length by rw[hl,h1.length],pG]
   | succ k =>
     simp only[fK] at hk;cases J4:fK b k with
     | none=>rw[J4] at hk;cases hk
     | some r =>
       rw[J4] at hk;simp only[jx,zT] at hk;obtain⟨rfl,rfl⟩:=hk;obtain⟨z,hq,hs⟩:=bind_some hs;obtain rfl:=au hs;have:=fF h2 (show fK b k=some (r.1,r.2) from J4) hf hq hl;refine⟨c1,splice c2 r.1 es,?_,h1,this⟩;simp only[splice,←h1.length,HL,kK]
       congr 1;congr 1;congr 1
       rw[rE,←mD,pG]
 | _=>intro cs k o u c f es h hk;cases k<;>simp[fK] at hk
theorem kT:∀{p:List pI} {v u:av} {cs:List Value},aV γ mem w v .cells cs→(DZ p v).run=some u→bt p+bA u≤cs.length∧aV γ mem w u .cells ((cs.drop (bt p)).take (bA u)):=by
 intro p;induction p with
 | nil =>
   intro v u cs h hn;obtain rfl:=au hn;have hl:=h.length;refine⟨by simp[bt];omega,?_⟩;rw[show bt []=0 from rfl,DU,←hl,Dd];exact h
 | cons s p ih =>
   intro v u cs h hn;cases s with
   | yp k off =>
     simp only[DZ] at hn;cases hf:fK v k with
     | none=>rw[hf] at hn;cases hn
     | some r =>
       rw[hf] at hn;obtain⟨hb,hn2⟩:=ai hn;have hoff:=cB hb;obtain⟨h1,h2⟩:=rQ h (show fK v k=some (r.1,r.2) from hf);obtain⟨h3,h4⟩:=ih h2 hn2;have hl:=h2.length;simp only[bt,←hoff];rw[hl] at h3;refine⟨by omega,?_⟩;rw[Dg,Fm,mD,rD (by omega)] at h4;exact h4
   | idx i size =>
     simp only[DZ] at hn;split at hn
     ·rename_i n e l;obtain⟨hb,hn2⟩:=ai hn;have hsz:=cB hb;obtain⟨x,hx,HX⟩:=aR hn2;obtain⟨h0,hx2⟩:=ji hx;obtain⟨k1,k2,k3⟩:=h;have hr:=k3 _ x hx2;obtain⟨h3,h4⟩:=ih (v:=.data e x) (show aV γ mem w (.data e x) .cells _ from hr) HX;have hl:=hr.length;have hi:i.toNat<n:=by have:=(List.getElem?_eq_some_iff.1 hx2).1;omega
      have hm:(i.toNat+1)*e.size≤n*e.size:=jf _ hi;rw[nx] at hm;rw[hl] at h3;simp only[bt,hsz];refine⟨by omega,?_⟩;rw[Dg,Fm,mD,rD (by omega)] at h4;exact h4
     ·cases hn
theorem iZ(cs:List Value)(a b:Nat)(n:Nat)(es:List Value)(h:b+es.length≤n)(hn:a+n≤cs.length) :
  splice cs a (splice ((cs.drop a).take n) b es)=splice cs (a+b) es:=by
 have hl:((cs.drop a).take n).length=n:=by simp;omega
 have hls:(splice ((cs.drop a).take n) b es).length=n:=by rw[bB (by omega),hl]
 have e1:splice cs a (splice ((cs.drop a).take n) b es)=cs.take a++splice ((cs.drop a).take n) b es++cs.drop (a+n):=by
  rw[splice,hls]
 rw[e1];simp only[splice,kK];rw[Fm,rD (by omega),←kK,←List.take_add]
 congr 1;congr 1
 have:cs.drop (a+n)=(cs.drop a).drop n:=by rw[mD]
 rw[this,←Fb (by rw[hl];exact h),wE,mD,rE]
theorem uT{I:Nat→Nat→Prop}{e:Ty}{n:Nat}{l:List e.den}{cs es:List Value}{i:Nat}{y:e.den}(hl:l.length=n)(hc:n*e.size≤cs.length)
  (h:∀(j:Nat) (x:e.den),l[j]?=some x→aM w I e x ((cs.drop (j*e.size)).take e.size)) (hi:i<n) (hy:aM w I e y es) :
  ∀(j:Nat) (x:e.den),(l.set i y)[j]?=some x→aM w I e x (((splice cs (i*e.size) es).drop (j*e.size)).take e.size):=by
 intro j x hx;have hel:=hy.length;have hm:(i+1)*e.size≤n*e.size:=jf _ hi;rw[nx] at hm;have htl:(cs.take (i*e.size)).length=i*e.size:=by rw[gb];omega
 rw[Db] at hx;split at hx
 ·rename_i hij;subst hij;split at hx
  ·obtain rfl:=au hx;have:((splice cs (i*e.size) es).drop (i*e.size)).take e.size=es:=by
    rw[splice,kK]
    conv=>lhs;arg 2;arg 1;rw[←htl]
    rw[htl,DR htl,←hel,DV]
   rw[this];exact hy
  ·cases hx
 ·rename_i hij;have hj:j<n:=by have:=(List.getElem?_eq_some_iff.1 hx).1;omega
  have N3:(j+1)*e.size≤n*e.size:=jf _ hj;rw[nx] at N3;have key:((splice cs (i*e.size) es).drop (j*e.size)).take e.size=(cs.drop (j*e.size)).take e.size:=by
   apply zO;intro q;rw[jw,jw];split
   ·rename_i hq;rw[nk,nk,splice];rcases rF j i with h1|h1
    ·have:(j+1)*e.size≤i*e.size:=jf _ h1;rw[nx] at this;rw[kK,HM (by omega),jw,gd (by omega)]
    ·have:(i+1)*e.size≤j*e.size:=jf _ (by omega);rw[nx] at this;rw[Jj (by rw[oL];omega),nk,oL,htl]
     congr 1;omega
   ·rfl
  rw[key];exact h j x hx
theorem mM:∀{p:List pI} {v u0 u c:av} {cs es:List Value},aV γ mem w v .cells cs→(DZ p v).run=some u0→(lz p v u).run=some c→aV γ mem w u .cells es→es.length=bA u0 →
  aV γ mem w c .cells (splice cs (bt p) es):=by
 intro p;induction p with
 | nil =>
   intro v u0 u c cs es h hn hs he hl;obtain rfl:=au hn;obtain rfl:=au hs;have:=h.length;simp only[bt,splice,Fl,zR,lu];rw[Fe (by omega),wI];exact he
 | cons s p ih =>
   intro v u0 u c cs es h hn hs he hl;cases s with
   | yp k off =>
     simp only[DZ] at hn;cases hf:fK v k with
     | none=>rw[hf] at hn;cases hn
     | some r =>
       rw[hf] at hn;obtain⟨hb,hn2⟩:=ai hn;have hoff:=cB hb;obtain⟨h1,h2⟩:=rQ h (show fK v k=some (r.1,r.2) from hf);obtain⟨h3,h4⟩:=kT h2 hn2;have Bw:=h2.length;rw[Bw] at h3;have:=uS (f:=fun w=>lz p w u) h (show fK v k=some (r.1,r.2) from hf) (fun z hq=>ih (u:=u) h2 hn2 hq he hl) hs (by rw[bB (by rw[Bw,hl];exact h3),Bw]);rw[iZ cs r.1 (bt p) (bA r.2) es (by omega) h1,hoff] at this;exact this
   | idx i size =>
     simp only[DZ] at hn;split at hn
     ·rename_i n e l;obtain⟨hb,hn2⟩:=ai hn;have hsz:=cB hb;obtain⟨x,hx,HX⟩:=aR hn2;simp only[lz] at hs;obtain⟨x',hx',hs2⟩:=aR hs;obtain rfl:x=x':=au (hx.symm.trans hx');obtain⟨z,hq,hs3⟩:=bind_some hs2;cases hz:toS e z with
      | none=>rw[hz] at hs3;cases hs3
      | some y =>
        rw[hz] at hs3;obtain rfl:=au hs3;obtain⟨h0,hx2⟩:=ji hx;obtain⟨k1,k2,k3⟩:=h;have hr:=k3 _ x hx2;have hi:i.toNat<n:=by have:=(List.getElem?_eq_some_iff.1 hx2).1;omega
        have hm:(i.toNat+1)*e.size≤n*e.size:=jf _ hi;rw[nx] at hm;have K2:aV γ mem w (.data e x) .cells ((cs.drop (i.toNat*e.size)).take e.size):=hr;obtain⟨h3,h4⟩:=kT K2 HX;have hrl:=hr.length;rw[hrl] at h3;have Mh:=uq hz (ih K2 HX hq he hl);have JA:(splice ((cs.drop (i.toNat*e.size)).take e.size) (bt p) es).length=e.size:=by rw[bB (by rw[hrl,hl];exact h3),hrl]
        have e1:=iZ cs (i.toNat*e.size) (bt p) e.size es (by omega) (by omega);simp only[bt,hsz];rw[←e1];refine⟨?_,?_,?_⟩
        ·exact(@List.length_set _ (l:List e.den) _ _).trans k1
        ·rw[bB (by omega)];exact k2
        ·exact uT k1 (by omega) k3 hi Mh
     ·cases hn
end
end Go.Ge
namespace Go.Ge
open RowKit
section
variable {B:iP} {γ γ':Gh} {mem mem':Nat→Option aI} {w w':World}
theorem bn.keep{c:Nat}{bx:aI}(h:bn γ mem w c bx)(hx:Ext B γ mem w γ' mem' w')(hl:γ'.loc c=γ.loc c)
  (hb:∀blk k,γ.loc c=some (blk,k)→w'.heap[blk]?=w.heap[blk]?):bn γ' mem' w' c bx:=by
 unfold bn at h⊢;cases aJ:bx.buf with
 | true =>
   rw[aJ] at h;obtain⟨e,l,h1,h2,h3⟩:=h;refine⟨e,l,h1,h2,?_⟩;rcases h3 with ⟨h3,h4⟩|⟨blk,cap,cur,tid,fr,h3,h4,h5,cQ,h6,h7,h8,h9⟩
   ·exact .inl ⟨hl.trans h3,h4⟩
   ·exact .inr ⟨blk,cap,cur,tid,fr,hl.trans h3,(hb _ _ h3).trans h4,h5,cQ,h6,h7,h8,fun i x hi=>aM.mono hx.I hx.cells (h9 i x hi)⟩
 | false =>
   rw[aJ] at h;obtain⟨blk,cap,cur,tid,fr,h3,h4,h5,hk,h6⟩:=h;exact⟨blk,cap,cur,tid,fr,hl.trans h3,(hb _ _ h3).trans h4,h5,hk,h6.ext hx⟩
theorem cJ{a:Addr}(h:w'.heap[a.block]?=w.heap[a.block]?):w'.cell? a=w.cell? a:=by simp[World.cell?,h]
def aK(γ:Gh)(b:Nat)(L:Option (Nat×Nat)):Gh:={ γ with loc:=fun i=>if i=b then L else γ.loc i }
def bu(mem:Nat→Option aI)(b:Nat)(bx:aI):Nat→Option aI:=fun i=>bif Nat.beq i b then some bx else mem i
theorem aH(b:Nat)(bx:aI):bu mem b bx b=some bx:=by simp[bu]
theorem az{b c:Nat}(bx:aI)(h:c≠b):bu mem b bx c=mem c:=by simp[bu,dO h]
theorem jK(h:aG B γ mem w){b:Nat}{bx:aI}{L:Option (Nat×Nat)}(aC:∀bF,mem b=some bF→bF.ag<bx.ag)
  (hw:jR B w w') (hold:∀k,k<w.heap.size→w'.heap[k]?=w.heap[k]?):Ext B γ mem w (aK γ b L) (bu mem b bx) w' where
 below:=hw
 I:=fun _ _ x=>x
 kP:=fun _ _ x=>.inl x
 cells:=fun blk o x=>cJ (hold blk (h.kO blk o x))
 boxes:=fun c cx hc=>by
  by_cases e:c=b
  ·subst e;refine⟨bx,aH _ _,FH (aC _ hc),fun e=>absurd e ?_⟩;have:=aC _ hc;omega
  ·exact⟨cx,by rw[az _ e];exact hc,dB _,fun _=>⟨by simp[aK,e],rfl,rfl⟩⟩
theorem aG.add(h:aG B γ mem w){b:Nat}{bx:aI}{L:Option (Nat×Nat)}(aC:∀bF,mem b=some bF→bF.ag<bx.ag)
  (hw:jR B w w') (hold:∀k,k<w.heap.size→w'.heap[k]?=w.heap[k]?) (hL:∀blk k,L=some (blk,k)→w.heap.size≤blk∧blk<w'.heap.size)
  (ew:bn (aK γ b L) (bu mem b bx) w' b bx):aG B (aK γ b L) (bu mem b bx) w' where
 bX:=h.qu (jK (L:=L) h aC hw hold)
 base:=gK h.base hw.size
 boxes:=fun c cx hc=>by
  by_cases e:c=b
  ·subst e;rw[aH] at hc;obtain rfl:=au hc;exact ew
  ·rw[az _ e] at hc;refine(h.boxes c cx hc).keep (jK h aC hw hold) (by simp[aK,e]) fun blk k hl=>hold blk (h.fresh c blk k (by rw[hc];simp) hl).2
 inj:=fun c d blk k k' hc hd h1 h2=>by
  by_cases e:c=b
  ·by_cases e2:d=b
   ·rw[e,e2]
   ·exfalso;simp only[aK,gd e] at h1;simp only[aK,cY e2] at h2;rw[az _ e2] at hd;have:=(h.fresh d blk k' hd h2).2;have:=(hL _ _ h1).1;omega
  ·by_cases e2:d=b
   ·exfalso;simp only[aK,cY e] at h1;simp only[aK,gd e2] at h2;rw[az _ e] at hc;have:=(h.fresh c blk k hc h1).2;have:=(hL _ _ h2).1;omega
   ·simp only[aK,cY e] at h1;simp only[aK,cY e2] at h2;rw[az _ e] at hc;rw[az _ e2] at hd;exact h.inj c d blk k k' hc hd h1 h2
 fresh:=fun c blk k hc h1=>by
  by_cases e:c=b
  ·simp only[aK,gd e] at h1;obtain⟨h2,h3⟩:=hL _ _ h1;exact⟨.inl (by have:=h.base;omega),h3⟩
  ·simp only[aK,cY e] at h1;rw[az _ e] at hc;have:=h.fresh c blk k hc h1;exact⟨this.1,qe this.2 hw.size⟩
 kO:=fun blk off hi=>qe (h.kO blk off hi) hw.size
 sep:=fun c cx blk k off hc h1 hi=>by
  by_cases e:c=b
  ·exfalso;simp only[aK,gd e] at h1;have:=(hL _ _ h1).1;have:=h.kO blk off hi;omega
  ·simp only[aK,cY e] at h1;rw[az _ e] at hc;exact h.sep c cx blk k off hc h1 hi
theorem bO(w:World)(o:Obj):∀k,k<w.heap.size→(w.alloc o).heap[k]?=w.heap[k]?:=fun k hk=>Below.heap_alloc w o k hk
theorem nH(cs:Array Value):gu cs (0,0):=fun o _ h=>by omega
theorem nI(e:Ty)(cs:Array Value):HG e cs (0,0):=⟨nH cs,fun _ h=>by omega⟩
theorem aG.newVar(h:aG B γ mem w){b:Nat}{v:av}{tid:TypeId}{ag:Nat}(aC:∀bF,mem b=some bF→bF.ag<ag){cs:Array Value}(t':TypeId)(cQ:tid=0∨t'=tid)(hv:aV γ mem w v .cells cs.toList) :
  let bx:aI:={ val:=v,tid,buf:=false,ro:=false,lk:=false,ag }
  aG B (aK γ b (some (w.heap.size,0))) (bu mem b bx) (w.alloc (.cells cs t'))∧Ext B γ mem w (aK γ b (some (w.heap.size,0))) (bu mem b bx) (w.alloc (.cells cs t')):=by
 intro bx;have hw:jR B w (w.alloc (.cells cs t')):=(jR.refl _ _).alloc h.base _;have hx:=jK (L:=some (w.heap.size,0)) h (bx:=bx) aC hw (bO w _);refine⟨h.add aC hw (bO w _) (fun blk k e=>by obtain⟨rfl,rfl⟩:=bM (au e);exact⟨dB _,by simp⟩) ?_,hx⟩;exact⟨w.heap.size,0,cs,t',(0,0),by simp[aK],heap_alloc_new w _,nH cs,cQ,hv.ext hx⟩
theorem aG.FY(h:aG B γ mem w){b:Nat}{e:Ty}{l:List e.den}{tid:TypeId}{ag cap blk:Nat}(aC:∀bF,mem b=some bF→bF.ag<ag){cs:Array Value}{t':TypeId}{fr:Nat×Nat}(he:0<e.size)
  (hw:jR B w w') (hold:∀k,k<w.heap.size→w'.heap[k]?=w.heap[k]?) (hge:w.heap.size≤blk) (hnew:w'.heap[blk]?=some (.cells cs t' fr)) (E0:HG e cs fr) (cQ:tid=0∨t'=tid)
  (h1:l.length≤cap) (h2:cap≤maxLen) (h3:cs.size=cap*e.size) (h4:∀(i:Nat) (x:e.den),l[i]?=some x→aM w' γ.I e x ((cs.toList.drop (i*e.size)).take e.size)) :
  let bx:aI:={ val:=.data (.slice e) l,tid,buf:=true,ro:=false,lk:=false,ag }
  aG B (aK γ b (some (blk,cap))) (bu mem b bx) w'∧Ext B γ mem w (aK γ b (some (blk,cap))) (bu mem b bx) w':=by
 intro bx;have hlt:blk<w'.heap.size:=(Array.getElem?_eq_some_iff.1 hnew).1;have hx:=jK (L:=some (blk,cap)) h (bx:=bx) aC hw hold;refine⟨h.add aC hw hold (fun c k q=>by obtain⟨rfl,rfl⟩:=bM (au q);exact⟨hge,hlt⟩) ?_,hx⟩;exact⟨e,l,rfl,he,.inr ⟨blk,cap,cs,t',fr,by simp[aK],hnew,E0,cQ,h1,h2,h3,h4⟩⟩
theorem aG.yD(h:aG B γ mem w){b:Nat}{e:Ty}{l:List e.den}{tid:TypeId}{ag cap:Nat}(aC:∀bF,mem b=some bF→bF.ag<ag){cs:Array Value}{t':TypeId}{fr:Nat×Nat}(he:0<e.size)
  (hw:jR B w w') (hold:∀k,k<w.heap.size→w'.heap[k]?=w.heap[k]?) (hnew:w'.heap[w.heap.size]?=some (.cells cs t' fr)) (E0:HG e cs fr) (cQ:tid=0∨t'=tid)
  (h1:l.length≤cap) (h2:cap≤maxLen) (h3:cs.size=cap*e.size) (h4:∀(i:Nat) (x:e.den),l[i]?=some x→aM w γ.I e x ((cs.toList.drop (i*e.size)).take e.size)) :
  let bx:aI:={ val:=.data (.slice e) l,tid,buf:=true,ro:=false,lk:=false,ag }
  aG B (aK γ b (some (w.heap.size,cap))) (bu mem b bx) w'∧Ext B γ mem w (aK γ b (some (w.heap.size,cap))) (bu mem b bx) w' :=
 h.FY aC he hw hold (dB _) hnew E0 cQ h1 h2 h3 fun i x hi =>
  aM.mono (fun _ _ q=>q) (fun blk o q=>cJ (hold blk (h.kO blk o q))) (h4 i x hi)
theorem aG.uU(h:aG B γ mem w){b:Nat}{e:Ty}{tid:TypeId}{ag:Nat}(aC:∀bF,mem b=some bF→bF.ag<ag)(he:0<e.size) :
  let bx:aI:={ val:=.data (.slice e) ([]:List e.den),tid,buf:=true,ro:=false,lk:=false,ag }
  aG B (aK γ b none) (bu mem b bx) w∧Ext B γ mem w (aK γ b none) (bu mem b bx) w:=by
 intro bx;have hx:=jK (L:=none) h (bx:=bx) aC (jR.refl B w) (fun _ _=>rfl);refine⟨h.add aC (jR.refl B w) (fun _ _=>rfl) (fun blk k e=>by cases e) ?_,hx⟩;exact⟨e,[],rfl,he,.inl ⟨by simp[aK],rfl⟩⟩
theorem qx{bx:aI}{off:Nat}(h:BO bx off)(hro:bx.ro=false):False:=by rw[BO,hro] at h;exact absurd h.1 (by simp)
theorem aG.write(h:aG B γ mem w){b:Nat}{bx:aI}(hb:mem b=some bx)(hro:bx.ro=false){blk k:Nat}(hl:γ.loc b=some (blk,k)){cur cur':Array Value}{t:TypeId}{fr:Nat×Nat}
  (hg:w.heap[blk]?=some (.cells cur t fr)) (hs:cur'.size=cur.size) {v:av} (hrow:({ bx with val:=v }:aI).row=bx.row)
  (ew:∀w' mem',Ext B γ mem w γ mem' w'→w'.heap[blk]?=some (.cells cur' t fr)→bn γ mem' w' b { bx with val:=v }) :
  aG B γ (bu mem b { bx with val:=v }) (w.setRow blk cur')∧Ext B γ mem w γ (bu mem b { bx with val:=v }) (w.setRow blk cur'):=by
 have hf:=h.fresh b blk k (by rw[hb];simp) hl;have D6:=setRow_heap w blk cur cur' t fr hg;have lD:∀i,i≠blk→(w.setRow blk cur').heap[i]?=w.heap[i]?:=fun i hi=>setRow_other w blk i cur' (fun e=>hi e);have hx:Ext B γ mem w γ (bu mem b { bx with val:=v }) (w.setRow blk cur') :=
  { below:=⟨rfl,rfl,rfl,by simp,fun i hi=>lD i (fun e=>hi (by rw[e];exact hf.1))⟩
    I:=fun _ _ x=>x
    kP:=fun _ _ x=>.inl x
    cells:=fun c o x=>by
     by_cases e:c=blk
     ·subst e;exact(qx (h.sep b bx c k o hb hl x) hro).elim
     ·exact cJ (lD c e)
    boxes:=fun c cx hc=>by
     by_cases e:c=b
     ·subst e;obtain rfl:cx=bx:=au (hc.symm.trans hb);exact⟨_,aH _ _,dB _,fun _=>⟨rfl,rfl,hrow⟩⟩
     ·exact⟨cx,by rw[az _ e];exact hc,dB _,fun _=>⟨rfl,rfl,rfl⟩⟩ }
 refine⟨?_,hx⟩;exact
  { bX:=h.qu hx
    base:=by have:=h.base;simpa using this
    boxes:=fun c cx hc=>by
     by_cases e:c=b
     ·subst e;rw[aH] at hc;obtain rfl:=au hc;exact ew _ _ hx D6
     ·rw[az _ e] at hc;refine(h.boxes c cx hc).keep hx rfl fun bQ k' hl'=>lD bQ fun e2=>e ?_;subst e2;exact h.inj c b bQ k' k (by rw[hc];simp) (by rw[hb];simp) hl' hl
    inj:=fun c d bQ k1 k2 hc hd h1 h2=>h.inj c d bQ k1 k2 (by
     by_cases e:c=b
     ·subst e;rw[hb];simp
     ·rwa [az _ e] at hc) (by
     by_cases e:d=b
     ·subst e;rw[hb];simp
     ·rwa [az _ e] at hd) h1 h2
    fresh:=fun c bQ k' hc h1=>by
     have:=h.fresh c bQ k' (by
      by_cases e:c=b
      ·subst e;rw[hb];simp
      ·rwa [az _ e] at hc) h1
     exact⟨this.1,by simpa using this.2⟩
    kO:=fun bQ off hi=>by have:=h.kO bQ off hi;simpa using this
    sep:=fun c cx bQ k' off hc h1 hi=>by
     by_cases e:c=b
     ·subst e;rw[hl] at h1;obtain⟨rfl,rfl⟩:=bM (au h1);exact(qx (h.sep c bx blk k off hb hl hi) hro).elim
     ·rw[az _ e] at hc;exact h.sep c cx bQ k' off hc h1 hi }
def uV(γ:Gh)(b:Nat)(n:Nat):Gh:={ γ with I:=fun blk off=>γ.I blk off∨((∃k,γ.loc b=some (blk,k))∧off<n) }
theorem aG.freeze(h:aG B γ mem w){b:Nat}{bx:aI}(hb:mem b=some bx){e:Ty}{n:Nat}(hrow:bx.row=some (e,n)) :
  aG B (uV γ b (n*e.size)) (bu mem b { bx with ro:=true }) w∧Ext B γ mem w (uV γ b (n*e.size)) (bu mem b { bx with ro:=true }) w:=by
 have hx:Ext B γ mem w (uV γ b (n*e.size)) (bu mem b { bx with ro:=true }) w :=
  { below:=jR.refl _ _
    I:=fun _ _ x=>.inl x
    kP:=fun blk o x=>by
     rcases x with x|⟨⟨k,x⟩,_⟩
     ·exact .inl x
     ·exact .inr (h.fresh b blk k (by rw[hb];simp) x).1
    cells:=fun _ _ _=>rfl
    boxes:=fun c cx hc=>by
     by_cases e:c=b
     ·subst e;obtain rfl:cx=bx:=au (hc.symm.trans hb);exact⟨_,aH _ _,dB _,fun _=>⟨rfl,rfl,rfl⟩⟩
     ·exact⟨cx,by rw[az _ e];exact hc,dB _,fun _=>⟨rfl,rfl,rfl⟩⟩ }
 refine⟨?_,hx⟩;exact
  { bX:=h.qu hx
    base:=h.base
    boxes:=fun c cx hc=>by
     by_cases e:c=b
     ·subst e;rw[aH] at hc;obtain rfl:=au hc;have:=(h.boxes c bx hb).keep hx rfl (fun _ _ _=>rfl);exact this
     ·rw[az _ e] at hc;exact(h.boxes c cx hc).keep hx rfl (fun _ _ _=>rfl)
    inj:=fun c d bQ k1 k2 hc hd h1 h2=>h.inj c d bQ k1 k2 (by
     by_cases e:c=b
     ·subst e;rw[hb];simp
     ·rwa [az _ e] at hc) (by
     by_cases e:d=b
     ·subst e;rw[hb];simp
     ·rwa [az _ e] at hd) h1 h2
    fresh:=fun c bQ k' hc h1=>h.fresh c bQ k' (by
     by_cases e:c=b
     ·subst e;rw[hb];simp
     ·rwa [az _ e] at hc) h1
    kO:=fun bQ off hi=>by
     rcases hi with hi|⟨⟨k,hk⟩,_⟩
     ·exact h.kO bQ off hi
     ·exact(h.fresh b bQ k (by rw[hb];simp) hk).2
    sep:=fun c cx bQ k' off hc h1 hi=>by
     by_cases e':c=b
     ·subst e';rw[aH] at hc;obtain rfl:=au hc;rcases hi with hi|⟨⟨k,hk⟩,ho⟩
      ·obtain⟨a1,a2⟩:=h.sep c bx bQ k' off hb h1 hi;exact⟨rfl,a2⟩
      ·refine⟨rfl,fun _ u m hr=>?_⟩;have hr':bx.row=some (u,m):=hr;rw[hrow] at hr';obtain⟨rfl,rfl⟩:=bM (au hr');exact ho
     ·rw[az _ e'] at hc;rcases hi with hi|⟨⟨k,hk⟩,ho⟩
      ·exact h.sep c cx bQ k' off hc h1 hi
      ·exact absurd (h.inj c b bQ k' k (by rw[hc];simp) (by rw[hb];simp) h1 hk) e' }
end
end Go.Ge
namespace Go.Ge
open RowKit
def gv(P:Program)(B:iP)(N:Nat)(γ:Gh)(σ:St)(a:Act)(w:World)(d:Option Nat)(s:Sem Value)(σ':St):Prop :=
 ∃v w' γ',s.run P w=.ok v w'∧bE B N γ' σ' (a.put d v) w'∧Ext B γ σ.mem w γ' σ'.mem w'
section
variable {P:Program} {B:iP} {N:Nat} {γ:Gh} {σ σ':St} {a:Act} {w:World} {d:Option Nat}
theorem aL(h:bE B N γ σ a w)(hd:∀k,d=some k→k<N){s:Sem Value}{v:av}{x:Value}(hs:s.run P w=.ok x w)(hv:aV γ σ.mem w v .val [x]) :
  gv P B N γ σ a w d s (σ.aA d v) :=
 ⟨x,w,γ,hs,h.nG hd hv,by cases d<;>exact Ext.refl _ _ _ _⟩
theorem bT{β:Type}{b:Nat}{val:av}{tid:TypeId}{buf:Bool}{k:Nat→St→Tree β}{y:β}(h:(σ.ay b val tid buf k).run=some y) :
  ∃ag,(∀bF,σ.mem b=some bF→bF.ag<ag)∧(k ag (σ.aW b { val,tid,buf,ro:=false,lk:=false,ag })).run=some y:=by
 unfold St.ay at h;split at h
 ·rename_i bx hb;cases hl:bx.lk with
  | true=>rw[hl] at h;cases h
  | false =>
    rw[hl] at h;exact⟨bx.ag+1,(fun bF h0=>by rw[hb] at h0;obtain rfl:=au h0;omega),h⟩
 ·rename_i hb;exact⟨0,(fun bF h0=>by rw[hb] at h0;cases h0),h⟩
theorem ke(σ:St)(b:Nat)(bx:aI):(σ.aW b bx).mem=bu σ.mem b bx:=rfl
theorem cl{mem:Nat→Option aI}{b ag:Nat}{bx:aI}(h:mem b=some bx)(hv:bx.ag=ag){K:aI→Prop}(hk:K bx):fM mem b ag K :=
 ⟨bx,h,by omega,fun _=>hk⟩
theorem lY{cx:Ctx}(hc:dw P cx){nb:Nat}{bf:List Nat}{ty:TypeId}{x:Operand}(h:bE B N γ σ a w)(hd:∀k,d=some k→k<N)
  (hr:(eB cx nb bf d ty (aZ σ x) σ).run=some σ'):gv P B N γ σ a w d (pure (a.eval x)) σ':=by
 have hv:=h.aZ x;unfold eB at hr;split at hr
 ·rename_i hn;rw[hn] at hv;obtain⟨_,hr⟩:=ai hr;obtain rfl:=au hr;exact aL h hd rfl hv
 ·rename_i hn;rw[hn] at hv;have hx:a.eval x=.slice none 0 0:=by simpa [aV] using hv
  split at hr
  ·rename_i k e hT;cases hb:bC bf k with
   | true =>
     rw[hb] at hr;simp only[bZ] at hr;obtain⟨ag,aC,hr2⟩:=bT hr;obtain rfl:=au hr2;obtain⟨bN,h1,h2,h3,h4⟩:=(hc.T _ _ hT).slice;obtain⟨m1,m2⟩:=h.ok.uU (tid:=0) aC h4;refine⟨_,w,_,rfl,h.step m2 m1 (hd k rfl) ?_,m2⟩;rw[hx];exact⟨⟨_,rfl,rfl⟩,cl (aH _ _) rfl ⟨e,0,rfl,rfl,.inl ⟨by simp[aK],rfl⟩⟩⟩
   | false =>
     rw[hb] at hr;obtain rfl:=au hr;exact aL (d:=some k) h hd rfl (by rw[hx];exact⟨_,.inl ⟨⟨none,rfl⟩,rfl⟩,rfl⟩)
  ·obtain rfl:=au hr;exact aL h hd rfl (by rw[hx];rfl)
 ·obtain rfl:=au hr;exact aL h hd rfl hv
theorem mN{b:Bool}{v:Value}(h:aV γ σ.mem w (.data .bool b) .val [v]):v=.bool b:=by
 obtain⟨cs,h1,h2⟩:=b5.1 h;rw[h2,show cs=_ from h1];rfl
theorem jz{k:IntKind}{n:Int}{v:Value}(h:aV γ σ.mem w (.data (.int k) n) .val [v]):v=.int k n∧k.min≤n∧n≤k.max:=by
 obtain⟨cs,h1,h2⟩:=b5.1 h;rw[h2,h1.1];exact⟨rfl,h1.2⟩
theorem lE{s:List UInt8}{v:Value}(h:aV γ σ.mem w (.data .str s) .val [v]):v=.string ⟨s.toArray⟩∧s.length≤maxLen:=by
 obtain⟨cs,h1,h2⟩:=b5.1 h;rw[h2,h1.1];exact⟨rfl,h1.2⟩
theorem cX(b:Bool):aV γ σ.mem w (.data .bool b) .val [.bool b]:=⟨_,rfl,rfl⟩
theorem mkInt{k:IntKind}{n:Int}(h:k.min≤n∧n≤k.max):aV γ σ.mem w (.data (.int k) n) .val [.int k n]:=⟨_,⟨rfl,h.1,h.2⟩,rfl⟩
theorem mkStr{s:List UInt8}(h:s.length≤maxLen):aV γ σ.mem w (.data .str s) .val [.string ⟨s.toArray⟩]:=⟨_,⟨rfl,h⟩,rfl⟩
theorem uW{c x y:Operand}(h:bE B N γ σ a w)(hd:∀k,d=some k→k<N)(hr:(gB d (aZ σ c) (aZ σ x) (aZ σ y) σ).run=some σ') :
  gv P B N γ σ a w d (do pure (if ←asBool (a.eval c) then a.eval x else a.eval y)) σ':=by
 have hc:=h.aZ c;have hx:=h.aZ x;have hy:=h.aZ y;unfold gB at hr;split at hr
 ·rename_i cb hcb;rw[hcb] at hc;have HY:a.eval c=.bool cb:=mN hc;have hrun:(do pure (if ←asBool (a.eval c) then a.eval x else a.eval y):Sem Value).run P w=.ok (if(show Bool from cb)=true then a.eval x else a.eval y) w:=by
   rw[HY];cases cb<;>rfl
  split at hr
  ·rename_i t x1 u y1 hx1 hy1;rw[hx1] at hx;rw[hy1] at hy;split at hr
   ·rename_i y2 wB;obtain rfl:=au hr;obtain⟨e,e2⟩:=Ty.eY wB;subst e;subst e2;refine aL h hd hrun ?_;cases cb
    ·exact hy
    ·exact hx
   ·cases hr
  ·have hr2:=cT hr;cases cb
   ·obtain rfl:=au hr2;exact aL h hd hrun hy
   ·obtain rfl:=au hr2;exact aL h hd hrun hx
 ·cases hr
theorem cu(k:IntKind)(n:Int):k.min≤k.wrap n∧k.wrap n≤k.max:=wrap_within k n
theorem HZ{k:IntKind}{x y:Int}(h:k.min≤x∧x≤k.max):k.min≤x.tmod y∧x.tmod y≤k.max:=by
 have hmin:k.min≤0:=by cases k<;>decide
 have hmax:0≤k.max:=by cases k<;>decide
 have hab:(x.tmod y).natAbs≤x.natAbs:=by
  rw[Int.natAbs_tmod];exact Nat.mod_le _ _
 rcases Int.le_total 0 x with h0|h0
 ·have:=Int.tmod_nonneg y h0;omega
 ·have:x.tmod y≤0:=by
   have:=Int.tmod_nonneg y (show 0≤-x by omega);rw[Int.neg_tmod] at this;omega
  omega
theorem H6{k:IntKind}{x:Int}(n:Nat)(h:k.min≤x∧x≤k.max):k.min≤x.fdiv (2 ^ n)∧x.fdiv (2 ^ n)≤k.max:=by
 have hmin:k.min≤0:=by cases k<;>decide
 have hmax:0≤k.max:=by cases k<;>decide
 have hp:(0:Int)<2 ^ n:=Int.pow_pos (by decide);have e:x.fdiv (2 ^ n)=x / 2 ^ n:=Int.fdiv_eq_ediv_of_nonneg _ (by omega);rw[e];rcases Int.le_total 0 x with h0|h0
 ·have h1:=Int.ediv_nonneg h0 (Int.le_of_lt hp);have h2:=Int.ediv_le_self (2 ^ n:Int) h0;omega
 ·have h2:x / 2 ^ n<1:=Int.ediv_lt_of_lt_mul hp (by omega);have h3:x≤x / 2 ^ n:=by
   rw[Int.le_ediv_iff_mul_le hp];have h1:(1:Int)≤2 ^ n:=hp;have:=Int.mul_le_mul_of_nonpos_left h0 h1;simpa using this
  omega
theorem yE{op:BinOp}{l:Bool}(h:qi op=some l):(op=.shl∧l=true)∨(op=.shr∧l=false):=by
 cases op<;>simp[qi] at h<;>simp[h]
theorem iQ{op:BinOp}{l:Bool}(h:isEq op=some l):(op=.eql∧l=true)∨(op=.neq∧l=false):=by
 cases op<;>simp[isEq] at h<;>simp[h]
def dx(op:BinOp)(xt:TypeId)(x y:Operand)(u v:Value):Sem Value:=do eqGuard op xt x y u v;binOp op xt u v
theorem yF{op:BinOp}{k:IntKind}{n m:Int}{v:av}{xt:TypeId}{x y:Operand}(hn:k.min≤n∧n≤k.max)(hs:qi op=none)(hr:(BI op k n m).run=some v) :
  ∃r,(dx op xt x y (.int k n) (.int k m)).run P w=.ok r w∧aV γ σ.mem w v .val [r]:=by
 unfold dx;cases op<;>simp only[eqGuard_at_int,Sem.run_bind,Sem.run_pure,Result.andThen_ok]<;>simp only[BI] at hr
 case add=>obtain rfl:=au hr;exact⟨.int k (bw k n m),by simp only[binOp_add,Op.intArith,Sem.run_pure];rfl,mkInt (cu _ _)⟩
 case sub=>obtain rfl:=au hr;exact⟨.int k (eG k n m),by simp only[binOp_sub,Op.intArith,Sem.run_pure];rfl,mkInt (cu _ _)⟩
 case mul=>obtain rfl:=au hr;exact⟨.int k (gz k n m),by simp only[binOp_mul,Op.intArith,Sem.run_pure];rfl,mkInt (cu _ _)⟩
 case quo =>
  have hr2:=cT hr;cases hz:iG m 0
  ·rw[hz] at hr2;obtain rfl:=au hr2;have hm:m≠0:=by simpa [iG] using hz
   exact⟨.int k (tu k n m),by simp only[binOp_quo,Op.intDiv,cY hm,Sem.run_pure];rfl,mkInt (cu _ _)⟩
  ·rw[hz] at hr2;cases hr2
 case rem =>
  have hr2:=cT hr;cases hz:iG m 0
  ·rw[hz] at hr2;obtain rfl:=au hr2;have hm:m≠0:=by simpa [iG] using hz
   exact⟨.int k (gf n m),by simp only[binOp_rem,Op.intDiv,cY hm,Sem.run_pure];rfl,mkInt (HZ hn)⟩
  ·rw[hz] at hr2;cases hr2
 case and=>obtain rfl:=au hr;exact⟨.int k (ff k n m),by simp only[binOp_and,intBits_and,Sem.run_pure];rfl,mkInt (cu _ _)⟩
 case or=>obtain rfl:=au hr;exact⟨.int k (lQ k n m),by simp only[binOp_or,intBits_or,Sem.run_pure];rfl,mkInt (cu _ _)⟩
 case xor=>obtain rfl:=au hr;exact⟨.int k (cL k n m),by simp only[binOp_xor,intBits_xor,Sem.run_pure];rfl,mkInt (cu _ _)⟩
 case andNot=>obtain rfl:=au hr;exact⟨.int k (Jw k n m),by simp only[binOp_andNot,intBits_andNot,Sem.run_pure];rfl,mkInt (cu _ _)⟩
 case shl=>cases hs
 case shr=>cases hs
 case eql=>obtain rfl:=au hr;exact⟨.bool (iG n m),by simp[binOp,Op.intCmp,iG];rfl,cX _⟩
 case neq=>obtain rfl:=au hr;exact⟨.bool (nt (iG n m)),by simp[binOp,Op.intCmp,iG,nt];rfl,cX _⟩
 case lss=>obtain rfl:=au hr;exact⟨.bool (iH n m),by simp[binOp,Op.intCmp,iH],cX _⟩
 case leq=>obtain rfl:=au hr;exact⟨.bool (DX n m),by simp[binOp,Op.intCmp,DX],cX _⟩
 case gtr=>obtain rfl:=au hr;exact⟨.bool (iH m n),by simp[binOp,Op.intCmp,iH],cX _⟩
 case geq=>obtain rfl:=au hr;exact⟨.bool (DX m n),by simp[binOp,Op.intCmp,DX],cX _⟩
theorem dU(s:List UInt8):(⟨s.toArray⟩:ByteArray).toList=s:=by rw[ByteArray.toList_eq]
theorem BR(s t:List UInt8):(s==t)=qd s t:=by rw[Bool.eq_iff_iff];simp[qd]
theorem yG{op:BinOp}{s t:List UInt8}{v:av}{xt:TypeId}{x y:Operand}(hr:(BJ op s t).run=some v) :
  ∃r,(dx op xt x y (.string ⟨s.toArray⟩) (.string ⟨t.toArray⟩)).run P w=.ok r w∧aV γ σ.mem w v .val [r]:=by
 unfold dx;cases op<;>simp only[eqGuard_at_string,Sem.run_bind,Sem.run_pure,Result.andThen_ok]<;>simp only[BJ] at hr<;>try (cases hr;done)
 case add =>
  obtain⟨hf,hr2⟩:=aX hr;obtain rfl:=au hr2;have hl:s.length+t.length≤4294967296:=by have h2:plus (len s) (len t)≤4294967296:=BD hf;simp only[plus,len] at h2;omega
  refine⟨.string ⟨(s++t).toArray⟩,?_,mkStr (by simp only[app,oL,maxLen];omega)⟩;have hsz:∀l:List UInt8,(⟨l.toArray⟩:ByteArray).size=l.length:=fun l=>rfl;have:¬(((s.length+t.length:Nat):Int) > IntKind.i64.max):=by rw[IntKind.max_i64];omega
  simp only[binOp,Op.stringOp,hsz,this,rG,Sem.run_pure]
  congr 2
 case eql=>obtain rfl:=au hr;exact⟨.bool (qd s t),by simp only[binOp,Op.stringOp,dU,BR,Sem.run_pure],cX _⟩
 case neq=>obtain rfl:=au hr;exact⟨.bool (nt (qd s t)),by simp only[binOp,Op.stringOp,dU,BR,Sem.run_pure];rfl,cX _⟩
 case lss=>obtain rfl:=au hr;exact⟨.bool (Jv s t),by simp only[binOp,Op.stringOp,dU,BR,Sem.run_pure];rfl,cX _⟩
 case leq=>obtain rfl:=au hr;exact⟨.bool (LR (Jv s t) (qd s t)),by simp only[binOp,Op.stringOp,dU,BR,Sem.run_pure];rfl,cX _⟩
 case gtr=>obtain rfl:=au hr;exact⟨.bool (nt (LR (Jv s t) (qd s t))),by simp only[binOp,Op.stringOp,dU,BR,Sem.run_pure];rfl,cX _⟩
 case geq=>obtain rfl:=au hr;exact⟨.bool (nt (Jv s t)),by simp only[binOp,Op.stringOp,dU,BR,Sem.run_pure];rfl,cX _⟩
theorem Ah{op:BinOp}{left:Bool}{k k':IntKind}{n m:Int}{xt:TypeId}{x y:Operand}(hn:k.min≤n∧n≤k.max)(hs:qi op=some left)(h0:iH m 0=false) :
  ∃r,(dx op xt x y (.int k n) (.int k' m)).run P w=.ok r w∧aV γ σ.mem w (.data (.int k) (bif left then fI k n m else kM k n m)) .val [r]:=by
 have h1:¬m<0:=by simpa [iH] using h0
 unfold dx;rcases yE hs with ⟨rfl,rfl⟩|⟨rfl,rfl⟩
 ·exact⟨.int k (fI k n m),by simp only[eqGuard_shl,binOp_shl,Op.shift,cY h1,Sem.run_bind,Sem.run_pure,Result.andThen_ok];rfl,mkInt (cu _ _)⟩
 ·exact⟨.int k (kM k n m),by simp only[eqGuard_shr,binOp_shr,Op.shift,cY h1,Sem.run_bind,Sem.run_pure,Result.andThen_ok];rfl,mkInt (H6 _ hn)⟩
theorem ow{t:Ty}{tid:TypeId}(ht:Den P t tid){cs:Array Value}{off:Nat}(h:off+t.size≤cs.size)(h1:t.isAgg=false→t.size=1) :
  (part tid cs off).run P w=.ok (bk t ((cs.toList.drop off).take t.size)) w:=by
 unfold part;rw[Sem.run_bind,ht.agg w,Result.andThen_ok];cases FZ:t.isAgg with
 | true =>
   simp only[iE,Sem.run_bind,ht.sizeOf w,Result.andThen_ok,Sem.run_pure,bk,FZ,bZ]
   congr 2
   apply zX;simp
 | false =>
   have hs:=h1 FZ;simp only[cY (show ¬(false=true) by simp),bk,FZ,ez,hs];have hlt:off<cs.size:=by omega
   have e:(cs.toList.drop off).take 1=[cs[off]]:=by
    apply zO;intro i;rw[jw];cases i with
    | zero=>simp[hlt]
    | succ i=>simp
   rw[e];simp[hlt]
theorem jj:∀{t:Ty},t.isAgg=false→t.size=1:=by
 intro t h;induction t with
 | alt u a r eH ihr=>exact ihr h
 | arr|pair|unit=>cases h
 | _=>rfl
theorem Ai(t:Ty):1≤t.qh:=by cases t<;>simp[Ty.qh]
theorem oW{γ:Gh}{w:World}:∀(t:Ty),(∀(d:Nat) (tid:TypeId) (x y:t.den) (cx cy:List Value) (c:Bool),Den P t tid→aM w γ.I t x cx→aM w γ.I t y cy→Ty.eqv t x y=some c→t.qh<d →
   (Op.equalIn d tid (bk t cx) (bk t cy)).run P w=.ok c w) ∧
  (∀(d off:Nat) (fs:List Field) (x y:t.den) (cx cy:List Value) (xs ys:Array Value) (c:Bool),gV P t off fs→aM w γ.I t x cx→aM w γ.I t y cy→Ty.eqv t x y=some c→t.qh<d →
   xs.toList.drop off=cx→ys.toList.drop off=cy→off≤xs.size→off≤ys.size→(Op.eqFields d xs ys fs).run P w=.ok c w):=by
 intro t;induction t with
 | int k =>
   refine⟨fun d tid x y cx cy c hd hx hy he hs=>?_,fun d off fs x y cx cy xs ys c hd=>by simp[gV,cP] at hd⟩;obtain⟨d,rfl⟩:∃e,d=e+1:=⟨d-1,by omega⟩;rw[hx.1,hy.1];obtain rfl:=au he;show(Op.equalIn (d+1) tid (.int k x) (.int k y)).run P w=_
   rw[run_equalIn_int w d tid k k x y hd.int]
   congr 1
 | bool =>
   refine⟨fun d tid x y cx cy c hd hx hy he hs=>?_,fun d off fs x y cx cy xs ys c hd=>by simp[gV,cP] at hd⟩;obtain⟨d,rfl⟩:∃e,d=e+1:=⟨d-1,by omega⟩;rw[show cx=_ from hx,show cy=_ from hy];obtain rfl:=au he;exact run_equalIn_bool' w d tid x y hd.bool
 | str =>
   refine⟨fun d tid x y cx cy c hd hx hy he hs=>?_,fun d off fs x y cx cy xs ys c hd=>by simp[gV,cP] at hd⟩;obtain⟨d,rfl⟩:∃e,d=e+1:=⟨d-1,by omega⟩;rw[hx.1,hy.1];obtain rfl:=au he;have h1:=run_equalIn_string (P:=P) w d tid ⟨List.toArray (α:=UInt8) x⟩ ⟨List.toArray (α:=UInt8) y⟩ hd.str;rw[dU (show List UInt8 from x),dU (show List UInt8 from y),BR] at h1;exact h1
 | slice e ih=>exact⟨(fun d tid x y cx cy c hd hx hy he=>by cases he),(fun d off fs x y cx cy xs ys c hd=>by simp[gV,cP] at hd)⟩
 | alt u a r eH ihr=>exact⟨(fun d tid x y cx cy c hd hx hy he=>by cases he),(fun d off fs x y cx cy xs ys c hd=>by simp[gV,cP] at hd)⟩
 | oN=>exact⟨(fun d tid x y cx cy c hd hx hy he=>by cases he),(fun d off fs x y cx cy xs ys c hd=>by simp[gV,cP] at hd)⟩
 | arr n e ih =>
   refine⟨fun d tid x y cx cy c hd hx hy he hs=>?_,(fun d off fs x y cx cy xs ys c hd=>by simp[gV,cP] at hd)⟩;cases e with
   | int k =>
     obtain⟨d,rfl⟩:∃e,d=e+1:=⟨d-1,by omega⟩;obtain⟨d,rfl⟩:∃e,d=e+1:=⟨d-1,by have:(Ty.arr n (.int k)).qh=1+1:=rfl;omega⟩;obtain rfl:=au he;obtain⟨bN,k1,k2,k3⟩:=hd.arr;obtain⟨i,z,i1,i2,_,_⟩:=k2.info;have hcell:=k2.cells;show(Op.equalIn (d+1+1) tid (.agg cx.toArray) (.agg cy.toArray)).run P w=_
     rw[run_equalIn_array w (d+1) cx.toArray cy.toArray k1 i1,hcell];obtain⟨hxl,Mi,JB⟩:=hx;obtain⟨Nj,H7,KD⟩:=hy;have hz:(Ty.int k).size=1:=rfl;rw[hz] at Mi JB H7 KD⊢;rw[BF] at Mi H7;change List Int at x y;have item:∀is:List Nat,(∀i∈is,i<n)→(Op.eqItems (d+1) bN 1 cx.toArray cy.toArray is).run P w=.ok (is.all fun i=>decide (x[i]?=y[i]?)) w:=by
      intro is;induction is with
      | nil=>intro _;rfl
      | cons i is N4 =>
        intro hi;have hin:=hi i (jU ..);obtain⟨a,Nk⟩:∃a,x[i]?=some a:=⟨_,sC (by rw[show x.length=n from hxl];exact hin)⟩;obtain⟨b,Nl⟩:∃a,y[i]?=some a:=⟨_,sC (by rw[show y.length=n from Nj];exact hin)⟩;have px:=ow (w:=w) k2 (cs:=cx.toArray) (off:=i*1) (by rw[hz];simp[Mi];omega) (fun _=>hz);have py:=ow (w:=w) k2 (cs:=cy.toArray) (off:=i*1) (by rw[hz];simp[H7];omega) (fun _=>hz);have ex:=(JB i _ Nk).1;have ey:=(KD i _ Nl).1;rw[hz] at px py;rw[show cx.toArray.toList=cx from rfl,ex] at px;rw[show cy.toArray.toList=cy from rfl,ey] at py;simp only[Op.eqItems,Sem.run_bind,px,py,Result.andThen_ok];have heq:=run_equalIn_int w d bN k k a b k2.int;simp only[bk,Ty.isAgg,ez,List.headD_cons,heq,iE,Result.andThen_ok,Nk,Nl,List.all_cons];cases hb:(a==b) with
        | true =>
          have hxy:a=b:=by simpa using hb
          simp only[Bool.not_true,BC,rG,hxy,BG,Bool.true_and];exact N4 fun j hj=>hi j (jT _ hj)
        | false =>
          have hxy:¬a=b:=by simpa using hb
          simp[hxy]
     rw[item _ fun i hi=>List.mem_range.1 hi]
     congr 1
     unfold Nh;rw[Bool.eq_iff_iff,tr];simp only[List.mem_range,wG];constructor
     ·intro h;apply zO;intro i;by_cases hin:i<n
      ·exact h i hin
      ·rw[DP (by rw[show x.length=n from hxl];omega),DP (by rw[show y.length=n from Nj];omega)]
     ·intro h i _;exact congrArg (fun l=>l[i]?) h
   | _=>cases he
 | unit =>
   refine⟨(fun d tid x y cx cy c hd=>by simp[Den,cP] at hd),fun d off fs x y cx cy xs ys c hd hx hy he hs h1 h2 h3 h4=>?_⟩;cases fs with
   | nil=>obtain rfl:=au he;rfl
   | cons f r=>simp[gV,cP] at hd
 | pair a b eH fF =>
   have key:(∀(d off:Nat) (fs:List Field) (x y:(Ty.pair a b).den) (cx cy:List Value) (xs ys:Array Value) (c:Bool),gV P (.pair a b) off fs→aM w γ.I (.pair a b) x cx→aM w γ.I (.pair a b) y cy→Ty.eqv (.pair a b) x y=some c→(Ty.pair a b).qh<d+1 →
    xs.toList.drop off=cx→ys.toList.drop off=cy→off≤xs.size→off≤ys.size→(Op.eqFields d xs ys fs).run P w=.ok c w):=by
    intro d off fs x y cx cy xs ys c hd hx hy he hs h1 h2 h3 h4;obtain⟨f,r,rfl,k1,k2,k3,k4,k5⟩:=hd.cons;obtain⟨x1,x2,JB,hx1,hx2⟩:=hx;obtain⟨y1,y2,KD,hy1,wB⟩:=hy;simp only[Ty.eqv] at he;cases LU:Ty.eqv a x.1 y.1 with
    | none=>rw[LU] at he;cases he
    | some p =>
      cases Mj:Ty.eqv b x.2 y.2 with
      | none=>rw[LU,Mj] at he;cases he
      | some q =>
        rw[LU,Mj] at he;obtain rfl:=au he;have Nn:=hx1.length;have Np:=hy1.length;have lx:xs.size-off=x1.length+x2.length:=by
         have:=congrArg List.length (h1.trans JB);simpa using this
        have ly:ys.size-off=y1.length+y2.length:=by
         have:=congrArg List.length (h2.trans KD);simpa using this
        have px:=ow (w:=w) k3 (cs:=xs) (off:=f.offset) (by omega) jj;have py:=ow (w:=w) k3 (cs:=ys) (off:=f.offset) (by omega) jj;have ex:(xs.toList.drop f.offset).take a.size=x1:=by rw[k1,h1,JB,←Nn,DV]
        have ey:(ys.toList.drop f.offset).take a.size=y1:=by rw[k1,h2,KD,←Np,DV]
        rw[ex] at px;rw[ey] at py;have hsz:(Ty.pair a b).qh=a.qh+b.qh+1:=rfl;have PA:=Ai a;have hrb:=Ai b;have heq:=eH.1 d f.type x.1 y.1 x1 y1 p k3 hx1 hy1 LU (by omega);simp only[Op.eqFields,gd k2,Sem.run_bind,px,py,heq,Result.andThen_ok];cases p with
        | false=>simp[an]
        | true =>
          simp only[Bool.not_true,BC,rG];rw[fF.2 d (off+a.size) r x.2 y.2 x2 y2 xs ys q k5 hx2 wB Mj (by omega) (by rw[←mD,h1,JB,←Nn,pG]) (by rw[←mD,h2,KD,←Np,pG]) (by omega) (by omega)];simp[an]
   refine⟨fun d tid x y cx cy c hd hx hy he hs=>?_,fun d off fs x y cx cy xs ys c hd hx hy he hs=>key d off fs x y cx cy xs ys c hd hx hy he (by omega)⟩;obtain⟨d,rfl⟩:∃e,d=e+1:=⟨d-1,by omega⟩;obtain⟨fs,k1,k2,k3,k4⟩:=hd.pair;have hf:P.fieldsOf tid=fs:=by simp[Program.fieldsOf,k1]
   show(Op.equalIn (d+1) tid (.agg _) (.agg _)).run P w=_
   rw[run_equalIn_struct w d tid _ _ (by rw[hf];exact k1) k4,hf];exact key d 0 fs.toList x y cx cy _ _ c k2 hx hy he (by omega) (by simp) (by simp) (by simp) (by simp)
end
end Go.Ge
