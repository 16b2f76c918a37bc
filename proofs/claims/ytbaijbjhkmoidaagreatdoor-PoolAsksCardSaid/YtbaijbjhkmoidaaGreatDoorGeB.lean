/- A ghost interpreter of the model's code, and that it tells the truth: part 2. It says of a function of plain data what a call of it comes to. -/
import Derived.Test.YtbaijbjhkmoidaaGreatDoorGeA
import Derived.Laws.StructEq
import Derived.ChangeKeysEq
set_option linter.unusedVariables false
set_option linter.unusedSimpArgs false
set_option linter.unusedSectionVars false
namespace Go.Ge
structure Gh where
 I:Nat→Nat→Prop
 loc:Nat→Option (Nat×Nat)
def bO(t:Ty)(cs:List Value):Value:=bif t.isAgg then .agg cs.toArray else cs.headD undef
def bt(w:World)(I:Nat→Nat→Prop):(t:Ty)→t.den→List Value→Prop
 | .int k,n,cs=>cs=[.int k n]∧k.min≤(show Int from n)∧(show Int from n)≤k.max
 | .bool,b,cs=>cs=[.bool b]
 | .str,s,cs=>cs=[.string ⟨List.toArray (α:=UInt8) s⟩]∧List.length (α:=UInt8) s≤maxLen
 | .slice e,l,cs=>((∃base,cs=[.slice base 0 0])∧l=([]:List e.den)) ∨
  ∃blk off cap,cs=[.slice (some ⟨blk,off,none⟩) (List.length (α:=e.den) l) cap]∧List.length (α:=e.den) l≤cap∧cap≤maxLen ∧
   ∀(i:Nat) (x:e.den),(show List e.den from l)[i]?=some x→∃es:List Value,es.length=e.size ∧
    (∀(j:Nat) v,es[j]?=some v→w.cell? ⟨blk,off+i*e.size+j,none⟩=some v∧I blk (off+i*e.size+j))∧bt w I e x es
 | .arr n e,l,cs=>List.length (α:=e.den) l=n∧cs.length=n*e.size ∧
  ∀(i:Nat) (x:e.den),(show List e.den from l)[i]?=some x→bt w I e x ((cs.drop (i*e.size)).take e.size)
 | .pair a b,x,cs=>∃c1 c2,cs=c1++c2∧bt w I a x.1 c1∧bt w I b x.2 c2
 | .unit,_,cs=>cs=[]
 | .alt u a r,x,cs=>match(show a.den⊕r.den from x) with
   | .inl y=>r.size=1∧∃c,cs=[.iface u (bO a c)]∧bt w I a y c
   | .inr z=>bt w I r z cs
 | .td,_,cs=>cs=[.nilIface]
theorem bt.length{w:World}{I:Nat→Nat→Prop}:∀{t:Ty} {x:t.den} {cs:List Value},bt w I t x cs→cs.length=t.size:=by
 intro t;induction t with
 | int k=>intro x cs h;rw[h.1];rfl
 | bool=>intro x cs h;rw[h];rfl
 | str=>intro x cs h;rw[h.1];rfl
 | slice e ih=>intro x cs h;rcases h with ⟨⟨_,h⟩,_⟩|⟨_,_,_,h,_⟩<;>rw[h]<;>rfl
 | arr n e ih=>intro x cs h;exact h.2.1
 | pair a b gy iu=>intro x cs h;obtain⟨c1,c2,rfl,h1,h2⟩:=h;rw[pM,gy h1,iu h2];rfl
 | unit=>intro x cs h;rw[h];rfl
 | alt u a r gy ihr =>
   intro x cs h;rcases x with y|z
   ·obtain⟨h1,c,rfl,_⟩:=h;exact h1.symm
   ·exact ihr (show bt w I r z cs from h)
 | td=>intro x cs h;rw[show cs=_ from h];rfl
theorem bt.mono{w w':World}{I I':Nat→Nat→Prop}(hI:∀b o,I b o→I' b o)(hw:∀b o,I b o→w'.cell? ⟨b,o,none⟩=w.cell? ⟨b,o,none⟩) :
  ∀{t:Ty} {x:t.den} {cs:List Value},bt w I t x cs→bt w' I' t x cs:=by
 intro t;induction t with
 | int k=>intro x cs h;exact h
 | bool=>intro x cs h;exact h
 | str=>intro x cs h;exact h
 | slice e ih =>
   intro x cs h;rcases h with h|⟨blk,off,cap,h1,h2,h3,h4⟩
   ·exact .inl h
   ·refine .inr ⟨blk,off,cap,h1,h2,h3,fun i y hy=>?_⟩;obtain⟨es,he,hc,hr⟩:=h4 i y hy;exact⟨es,he,fun j v hv=>by obtain⟨a,b⟩:=hc j v hv;exact⟨by rw[hw _ _ b];exact a,hI _ _ b⟩,ih hr⟩
 | arr n e ih=>intro x cs h;exact⟨h.1,h.2.1,fun i y hy=>ih (h.2.2 i y hy)⟩
 | pair a b gy iu=>intro x cs h;obtain⟨c1,c2,h0,h1,h2⟩:=h;exact⟨c1,c2,h0,gy h1,iu h2⟩
 | unit=>intro x cs h;exact h
 | alt u a r gy ihr =>
   intro x cs h;rcases x with y|z
   ·obtain⟨h1,c,h2,h3⟩:=h;exact⟨h1,c,h2,gy h3⟩
   ·exact ihr (show bt w I r z cs from h)
 | td=>intro x cs h;exact h
theorem bt.one{w:World}{I:Nat→Nat→Prop}:∀{t:Ty} {x:t.den} {cs:List Value},bt w I t x cs→∀v∈cs,v.oneCell'=true:=by
 intro t;induction t with
 | int k=>intro x cs h v hv;rw[h.1] at hv;simp at hv;subst hv;rfl
 | bool=>intro x cs h v hv;rw[h] at hv;simp at hv;subst hv;rfl
 | str=>intro x cs h v hv;rw[h.1] at hv;simp at hv;subst hv;rfl
 | slice e ih=>intro x cs h v hv;rcases h with ⟨⟨_,h⟩,_⟩|⟨_,_,_,h,_⟩<;>rw[h] at hv<;>simp at hv<;>subst hv<;>rfl
 | arr n e ih =>
   intro x cs h v hv;obtain⟨h1,h2,h3⟩:=h;obtain⟨k,hk,hkv⟩:=FW hv;have he:0<e.size:=by
    rcases Kw e.size with h0|h0
    ·rw[h0,Nat.mul_zero] at h2;omega
    ·exact h0
   have hdiv:k / e.size<n:=by rw[KC he];omega
   have hx:∃y,(show List e.den from x)[k / e.size]?=some y:=⟨_,qV (by rw[h1];exact hdiv)⟩;obtain⟨y,hy⟩:=hx;refine ih (h3 _ y hy) v ?_;have hm:=CK k he;have hkk:k / e.size*e.size+k % e.size=k:=by rw[Nat.mul_comm];exact KL k e.size
   have:((cs.drop (k / e.size*e.size)).take e.size)[k % e.size]?=some v:=by
    rw[lU,ek hm,rz,hkk,qV hk,hkv]
   exact D5 this
 | pair a b gy iu =>
   intro x cs h v hv;obtain⟨c1,c2,rfl,h1,h2⟩:=h;rcases List.mem_append.1 hv with hv|hv
   ·exact gy h1 v hv
   ·exact iu h2 v hv
 | unit=>intro x cs h v hv;rw[h] at hv;cases hv
 | alt u a r gy ihr =>
   intro x cs h v hv;rcases x with y|z
   ·obtain⟨h1,c,rfl,h3⟩:=h;simp at hv;subst hv;rfl
   ·exact ihr (show bt w I r z cs from h) v hv
 | td=>intro x cs h v hv;rw[show cs=_ from h] at hv;simp at hv;subst hv;rfl
theorem lG{w:World}{I:Nat→Nat→Prop}:∀{t:Ty} {x:t.den} {cs:List Value},bt w I t x cs→(bO t cs).cells.toList=cs:=by
 intro t;induction t with
 | int k=>intro x cs h;unfold bO;rw[h.1];rfl
 | bool=>intro x cs h;unfold bO;rw[h];rfl
 | str=>intro x cs h;unfold bO;rw[h.1];rfl
 | slice e=>intro x cs h;unfold bO;rcases h with ⟨⟨_,h⟩,_⟩|⟨_,_,_,h,_⟩<;>rw[h]<;>rfl
 | arr n e=>intro x cs h;rfl
 | pair a b=>intro x cs h;rfl
 | unit=>intro x cs h;rfl
 | alt u a r gy ihr =>
   intro x cs h;rcases x with y|z
   ·obtain⟨h1,c,rfl,h3⟩:=h;unfold bO Ty.isAgg;cases r.isAgg<;>rfl
   ·exact ihr (show bt w I r z cs from h)
 | td=>intro x cs h;unfold bO;rw[show cs=_ from h];rfl
inductive Mode where
 | cells|val|many
def nP(base:Option Addr)(cap:Nat):Prop:=cap=0∨∃blk off,base=some ⟨blk,off,none⟩
def bR:List uh→Nat
 | []=>0
 | .CM _ off::p=>off+bR p
 | .idx i size::p=>i.toNat*size+bR p
theorem rO(p q:List uh):bR (p++q)=bR p+bR q:=by
 induction p with
 | nil=>simp[bR]
 | cons s p ih=>cases s<;>simp[bR,ih]<;>omega
section
variable (γ:Gh) (mem:Nat→Option aY) (w:World)
def u6(bx:aY)(b:Nat)(lo:Int)(base:Option Addr)(cap:Nat):Prop:=lo=0→bx.buf=true→(γ.loc b=none∧base=none∧cap=0)∨∃blk,γ.loc b=some (blk,cap)∧base=some ⟨blk,0,none⟩
def u7(I:Nat→Nat→Prop)(blk off:Nat)(cs:List Value):Prop:=∀(j:Nat) v,cs[j]?=some v→w.cell? ⟨blk,off+j,none⟩=some v∧I blk (off+j)
def iH(b aj:Nat)(K:aY→Prop):Prop:=∃bx,mem b=some bx∧aj≤bx.aj∧(bx.aj=aj→K bx)
def bH:ay→Mode→List Value→Prop
 | .undef,.val,vs=>∃v,vs=[v]
 | .undef,.cells,vs=>∃v,vs=[v]∧v.oneCell'=true
 | .undef,.many,_=>False
 | .data t x,.cells,vs=>bt w γ.I t x vs
 | .data t x,.val,vs=>∃cs,bt w γ.I t x cs∧vs=[bO t cs]
 | .data _ _,.many,_=>False
 | .mix a b,.cells,vs=>∃c1 c2,vs=c1++c2∧bH a .cells c1∧bH b .cells c2
 | .mix a b,.val,vs=>∃c1 c2,vs=[.agg (c1++c2).toArray]∧bH a .cells c1∧bH b .cells c2
 | .mix a b,.many,vs=>∃v r,vs=v::r∧bH a .val [v]∧bH b .many r
 | .nl,.many,vs=>vs=[]
 | .nl,_,_=>False
 | .om u,.val,vs=>∃arr:Array Value,vs=[.tuple arr]∧bH u .many arr.toList
 | .om _,_,_=>False
 | .kW,.many,_=>False
 | .kW,_,vs=>vs=[.pointer none]
 | .lV,.many,_=>False
 | .lV,_,vs=>vs=[.nilIface]
 | .oB _ _,.many,_=>False
 | .oB b aj,_,vs=>(∃v,vs=[v]∧v.oneCell'=true)∧iH mem b aj fun _=>∃blk cap,γ.loc b=some (blk,cap)∧(vs=[.pointer none]∨vs=[.pointer (some ⟨blk,0,none⟩)])
 | .js,.many,_=>False
 | .js,_,vs=>vs=[.slice none 0 0]
 | .cell _ _,.many,_=>False
 | .cell t x,_,vs=>∃blk off cs,vs=[.pointer (some ⟨blk,off,none⟩)]∧bt w γ.I t x cs∧u7 w γ.I blk off cs
 | .ptr _ _ _,.many,_=>False
 | .ptr b aj p,_,vs=>(∃v,vs=[v]∧v.oneCell'=true)∧iH mem b aj fun _=>∃blk cap,γ.loc b=some (blk,cap)∧vs=[.pointer (some ⟨blk,bR p,none⟩)]
 | .whole _ _,.many,_=>False
 | .whole b aj,_,vs=>(∃v,vs=[v]∧v.oneCell'=true)∧iH mem b aj fun bx=>∃e n,bx.buf=true∧bx.row=some (e,n) ∧
  ((γ.loc b=none∧vs=[.slice none 0 0])∨∃blk cap,γ.loc b=some (blk,cap)∧vs=[.slice (some ⟨blk,0,none⟩) n cap])
 | .part _ _ _ _,.many,_=>False
 | .part b aj lo n,_,vs=>(∃v,vs=[v]∧v.oneCell'=true)∧iH mem b aj fun bx=>∃e k,bx.row=some (e,k)∧0≤lo∧0≤n∧lo+n≤k ∧
  ∃base cap,vs=[.slice base n.toNat cap]∧n.toNat≤cap∧cap≤maxLen∧(nP base cap∧u6 γ bx b lo base cap)∧(n=0∨∃blk c,γ.loc b=some (blk,c)∧base=some ⟨blk,lo.toNat*e.size,none⟩)
 | .win _ _ _ _ _ _ _,.many,_=>False
 | .win b aj q e k lo n,_,vs=>(∃v,vs=[v]∧v.oneCell'=true)∧iH mem b aj fun _=>q≠[]∧∃blk c,γ.loc b=some (blk,c)∧0≤lo∧0≤n∧lo+n≤k ∧
  ∃base cap,vs=[.slice base n.toNat cap]∧n.toNat≤cap∧(n=0∨base=some ⟨blk,bR q+lo.toNat*e.size,none⟩)
 | .fn _ _,.many,_=>False
 | .fn f caps,_,vs=>∃arr:Array Value,vs=[.func (.func f) #[] arr]∧arr.size=caps.length ∧
  ∀(i:Nat) b aj,caps[i]?=some (b,aj)→iH mem b aj fun _=>∃blk cap,γ.loc b=some (blk,cap)∧arr[i]?=some (.pointer (some ⟨blk,0,none⟩))
def jm(cur:Array Value)(fr:Nat×Nat):Prop:=∀off,off<cur.size→¬(fr.1≤off∧off<fr.2)
def Ty.isInt:Ty→Bool
 | .int _=>true
 | _=>false
structure MY (e:Ty) (cur:Array Value) (fr:Nat×Nat):Prop where
 th:jm cur fr
 um:e.isInt=false→¬(fr.1≤cur.size∧cur.size<fr.2)
def bQ(b:Nat)(bx:aY):Prop :=
 match bx.buf with
 | true=>∃(e:Ty) (l:List e.den),bx.val=.data (.slice e) l∧0<e.size ∧
  ((γ.loc b=none∧l=[])∨∃blk cap cur tid fr,γ.loc b=some (blk,cap)∧w.heap[blk]?=some (.cells cur tid fr)∧MY e cur fr∧(bx.tid=0∨tid=bx.tid)∧l.length≤cap∧cap≤maxLen ∧
   cur.size=cap*e.size∧∀(i:Nat) (x:e.den),l[i]?=some x→bt w γ.I e x ((cur.toList.drop (i*e.size)).take e.size))
 | false=>∃blk cap cur tid fr,γ.loc b=some (blk,cap)∧w.heap[blk]?=some (.cells cur tid fr)∧jm cur fr∧(bx.tid=0∨tid=bx.tid)∧bH γ mem w bx.val .cells cur.toList
end
def Ga(bx:aY):Nat→Prop:=fun off=>bx.ro=true∧(bx.buf=true→∀e n,bx.row=some (e,n)→off<n*e.size)
abbrev eH:=Nat→(Obj→Prop)→Prop
def u9:eH:=fun _ _=>False
def nQ(G:eH)(w:World):Prop:=∀b Q,G b Q→∃o,w.heap[b]?=some o∧Q o
structure ld where
 lo:Nat
 X:Nat→Prop
 G:eH
def ld.has(B:ld)(k:Nat):Prop:=B.lo≤k∨B.X k
def iy(G:eH)(n:Nat):ld:=⟨n,fun _=>False,G⟩
theorem ke{G:eH}{n k:Nat}:(iy G n).has k↔n≤k:=⟨fun h=>h.elim id False.elim,.inl⟩
structure nD (B:ld) (w w':World):Prop where
 os:w'.os=w.os
 tape:w'.tape=w.tape
 output:w'.output=w.output
 size:w.heap.size≤w'.heap.size
 block:∀k,¬B.has k→w'.heap[k]?=w.heap[k]?
theorem nD.refl(B:ld)(w:World):nD B w w:=⟨rfl,rfl,rfl,kS _,fun _ _=>rfl⟩
theorem nD.trans{B:ld}{a b c:World}(h:nD B a b)(k:nD B b c):nD B a c :=
 ⟨k.os.trans h.os,k.tape.trans h.tape,k.output.trans h.output,jq h.size k.size,fun i hi=>(k.block i hi).trans (h.block i hi)⟩
theorem nD.of{B:ld}{w w':World}(h:RowKit.Below B.lo w w'):nD B w w':=⟨h.os,h.tape,h.output,h.size,fun k hk=>h.block k (HM fun q=>hk (.inl q))⟩
theorem nD.below{G:eH}{n:Nat}{w w':World}(h:nD (iy G n) w w'):RowKit.Below n w w':=⟨h.os,h.tape,h.output,h.size,fun k hk=>h.block k fun q=>by have:=ke.1 q;omega⟩
theorem nD.drew{B:ld}{a w:World}(h:nD B a w):nD B a w.drew:=⟨h.os,h.tape,h.output,h.size,h.block⟩
theorem nD.alloc{B:ld}{a w:World}(h:nD B a w)(hB:B.lo≤w.heap.size)(o:Obj):nD B a (w.alloc o):=h.trans (.of ((RowKit.Below.refl _ _).alloc hB o))
structure aV (B:ld) (γ:Gh) (mem:Nat→Option aY) (w:World):Prop where
 base:B.lo≤w.heap.size
 boxes:∀b bx,mem b=some bx→bQ γ mem w b bx
 inj:∀b c blk k k',mem b≠none→mem c≠none→γ.loc b=some (blk,k)→γ.loc c=some (blk,k')→b=c
 fresh:∀b blk k,mem b≠none→γ.loc b=some (blk,k)→B.has blk∧blk<w.heap.size
 mW:∀blk off,γ.I blk off→blk<w.heap.size
 sep:∀b bx blk k off,mem b=some bx→γ.loc b=some (blk,k)→γ.I blk off→Ga bx off
 bG:∀b Q,B.G b Q→¬B.has b∧∃o,w.heap[b]?=some o∧Q o
structure bZ (B:ld) (N:Nat) (γ:Gh) (σ:St) (a:Act) (w:World):Prop where
 slots:∀t,bH γ σ.mem w (σ.slots t) .val [a.tmps.getD t undef]
 size:a.tmps.size=N
 defers:a.defers=[]
 ok:aV B γ σ.mem w
structure Ext (B:ld) (γ:Gh) (mem:Nat→Option aY) (w:World) (γ':Gh) (mem':Nat→Option aY) (w':World):Prop where
 below:nD B w w'
 I:∀b o,γ.I b o→γ'.I b o
 mX:∀b o,γ'.I b o→γ.I b o∨B.has b
 cells:∀b o,γ.I b o→w'.cell? ⟨b,o,none⟩=w.cell? ⟨b,o,none⟩
 boxes:∀b bx,mem b=some bx→∃fM,mem' b=some fM∧bx.aj≤fM.aj∧(fM.aj=bx.aj→γ'.loc b=γ.loc b∧fM.buf=bx.buf∧fM.row=bx.row)
theorem aV.va{B:ld}{γ γ':Gh}{mem mem':Nat→Option aY}{w w':World}(h:aV B γ mem w)(x:Ext B γ mem w γ' mem' w'):∀b Q,B.G b Q→¬B.has b∧∃o,w'.heap[b]?=some o∧Q o:=fun b Q g=>by
 obtain⟨i,o,c,q⟩:=h.bG b Q g;exact⟨i,o,(x.below.block b i).trans c,q⟩
theorem aV.CT{B:ld}{γ:Gh}{mem:Nat→Option aY}{w:World}(h:aV B γ mem w):nQ B.G w:=fun b Q g=>(h.bG b Q g).2
theorem Ext.refl(B:ld)(γ:Gh)(mem:Nat→Option aY)(w:World):Ext B γ mem w γ mem w :=
 ⟨nD.refl _ _,fun _ _ h=>h,fun _ _ h=>.inl h,fun _ _ _=>rfl,fun b bx h=>⟨bx,h,kS _,fun _=>⟨rfl,rfl,rfl⟩⟩⟩
theorem Ext.trans{B:ld}{γ γ' Nh:Gh}{mem mem' OH:Nat→Option aY}{w w' w'':World}(h:Ext B γ mem w γ' mem' w')(k:Ext B γ' mem' w' Nh OH w'') :
  Ext B γ mem w Nh OH w'' where
 below:=h.below.trans k.below
 I:=fun b o x=>k.I _ _ (h.I _ _ x)
 mX:=fun b o x=>by
  rcases k.mX b o x with y|y
  ·exact h.mX b o y
  ·exact .inr y
 cells:=fun b o x=>(k.cells _ _ (h.I _ _ x)).trans (h.cells _ _ x)
 boxes:=fun b bx x=>by
  obtain⟨fM,h1,h2,h3⟩:=h.boxes b bx x;obtain⟨Qx,k1,k2,k3⟩:=k.boxes b fM h1;refine⟨Qx,k1,jq h2 k2,fun e=>?_⟩;have e1:fM.aj=bx.aj:=by omega
  have e2:Qx.aj=fM.aj:=by omega
  obtain⟨a1,a2,a3⟩:=h3 e1;obtain⟨b1,b2,b3⟩:=k3 e2;exact⟨b1.trans a1,b2.trans a2,b3.trans a3⟩
theorem iH.ext{B:ld}{γ γ':Gh}{mem mem':Nat→Option aY}{w w':World}(h:Ext B γ mem w γ' mem' w'){b aj:Nat}{K K':aY→Prop}(ho:iH mem b aj K)
  (hk:∀bx fM,mem b=some bx→mem' b=some fM→γ'.loc b=γ.loc b→fM.buf=bx.buf→fM.row=bx.row→K bx→K' fM):iH mem' b aj K':=by
 obtain⟨bx,h1,h2,h3⟩:=ho;obtain⟨fM,k1,k2,k3⟩:=h.boxes b bx h1;refine⟨fM,k1,jq h2 k2,fun e=>?_⟩;have e1:bx.aj=aj:=by omega
 obtain⟨a1,a2,a3⟩:=k3 (by omega);exact hk bx fM h1 k1 a1 a2 a3 (h3 e1)
theorem u7.ext{w w':World}{I I':Nat→Nat→Prop}(hI:∀b o,I b o→I' b o)(hw:∀b o,I b o→w'.cell? ⟨b,o,none⟩=w.cell? ⟨b,o,none⟩){blk off:Nat}{cs:List Value}
  (h:u7 w I blk off cs):u7 w' I' blk off cs :=
 fun j v hv=>by obtain⟨a,b⟩:=h j v hv;exact⟨by rw[hw _ _ b];exact a,hI _ _ b⟩
theorem bH.ext{B:ld}{γ γ':Gh}{mem mem':Nat→Option aY}{w w':World}(h:Ext B γ mem w γ' mem' w'):∀{v:ay} {m:Mode} {vs:List Value},bH γ mem w v m vs→bH γ' mem' w' v m vs:=by
 intro v;induction v with
 | undef=>intro m vs r;cases m<;>exact r
 | data t x =>
   intro m vs r;cases m with
   | cells=>exact bt.mono h.I h.cells r
   | val=>obtain⟨cs,r1,r2⟩:=r;exact⟨cs,bt.mono h.I h.cells r1,r2⟩
   | many=>exact r
 | js=>intro m vs r;cases m<;>exact r
 | kW=>intro m vs r;cases m<;>exact r
 | lV=>intro m vs r;cases m<;>exact r
 | oB b aj =>
   intro m vs r;cases m with
   | many=>exact r
   | cells=>exact⟨r.1,r.2.ext h fun bx fM _ _ hl _ _ k=>by rw[hl];exact k⟩
   | val=>exact⟨r.1,r.2.ext h fun bx fM _ _ hl _ _ k=>by rw[hl];exact k⟩
 | cell t x =>
   intro m vs r;cases m with
   | many=>exact r
   | cells=>obtain⟨blk,off,cs,r1,r2,r3⟩:=r;exact⟨blk,off,cs,r1,bt.mono h.I h.cells r2,r3.ext h.I h.cells⟩
   | val=>obtain⟨blk,off,cs,r1,r2,r3⟩:=r;exact⟨blk,off,cs,r1,bt.mono h.I h.cells r2,r3.ext h.I h.cells⟩
 | ptr b aj p =>
   intro m vs r;cases m with
   | many=>exact r
   | cells=>exact⟨r.1,r.2.ext h fun bx fM _ _ hl _ _ k=>by rw[hl];exact k⟩
   | val=>exact⟨r.1,r.2.ext h fun bx fM _ _ hl _ _ k=>by rw[hl];exact k⟩
 | whole b aj =>
   intro m vs r;cases m with
   | many=>exact r
   | cells=>exact⟨r.1,r.2.ext h fun bx fM _ _ hl hb hr k=>by rw[hl,hb,hr];exact k⟩
   | val=>exact⟨r.1,r.2.ext h fun bx fM _ _ hl hb hr k=>by rw[hl,hb,hr];exact k⟩
 | part b aj lo n =>
   intro m vs r;cases m with
   | many=>exact r
   | cells=>exact⟨r.1,r.2.ext h fun bx fM _ _ hl hb hr k=>by unfold u6 at k⊢;rw[hl,hb,hr];exact k⟩
   | val=>exact⟨r.1,r.2.ext h fun bx fM _ _ hl hb hr k=>by unfold u6 at k⊢;rw[hl,hb,hr];exact k⟩
 | win b aj q e k lo n =>
   intro m vs r;cases m with
   | many=>exact r
   | cells=>exact⟨r.1,r.2.ext h fun bx fM _ _ hl _ _ k=>by rw[hl];exact k⟩
   | val=>exact⟨r.1,r.2.ext h fun bx fM _ _ hl _ _ k=>by rw[hl];exact k⟩
 | fn f caps =>
   intro m vs r;cases m with
   | many=>exact r
   | cells=>obtain⟨arr,r1,r2,r3⟩:=r;exact⟨arr,r1,r2,fun i b aj hc=>(r3 i b aj hc).ext h fun bx fM _ _ hl _ _ k=>by rw[hl];exact k⟩
   | val=>obtain⟨arr,r1,r2,r3⟩:=r;exact⟨arr,r1,r2,fun i b aj hc=>(r3 i b aj hc).ext h fun bx fM _ _ hl _ _ k=>by rw[hl];exact k⟩
 | mix a b gy iu =>
   intro m vs r;cases m with
   | cells=>obtain⟨c1,c2,r0,r1,r2⟩:=r;exact⟨c1,c2,r0,gy r1,iu r2⟩
   | val=>obtain⟨c1,c2,r0,r1,r2⟩:=r;exact⟨c1,c2,r0,gy r1,iu r2⟩
   | many=>obtain⟨c1,c2,r0,r1,r2⟩:=r;exact⟨c1,c2,r0,gy r1,iu r2⟩
 | om u ih =>
   intro m vs r;cases m with
   | val=>obtain⟨arr,r1,r2⟩:=r;exact⟨arr,r1,ih r2⟩
   | cells=>exact r
   | many=>exact r
 | nl=>intro m vs r;cases m<;>exact r
end Go.Ge
namespace Go.Ge
def dU:Ty→List Value
 | .int k=>[.int k 0]
 | .bool=>[.bool false]
 | .str=>[.string ⟨#[]⟩]
 | .slice _=>[.slice none 0 0]
 | .arr n e=>(List.replicate n (dU e)).flatten
 | .pair a b=>dU a++dU b
 | .unit=>[]
 | .alt _ _ r=>dU r
 | .td=>[.nilIface]
theorem dx(t:Ty):(dU t).length=t.size:=by
 induction t with
 | arr n e ih=>simp[dU,Ty.size,ih]
 | pair a b gy iu=>simp[dU,Ty.size,gy,iu]
 | alt u a r gy ihr=>exact ihr
 | _=>rfl
theorem dm{α:Type}(l:List α):∀(n i:Nat),i<n→((List.replicate n l).flatten.drop (i*l.length)).take l.length=l
 | 0,i,h=>absurd h (by omega)
 | n+1,0,_=>by simp[List.replicate_succ]
 | n+1,i+1,h=>by
   rw[List.replicate_succ,List.flatten_cons,rF,HS,←qm,ue];exact dm l n i (by omega)
theorem jN(w:World)(I:Nat→Nat→Prop):∀t:Ty,bt w I t t.zero (dU t):=by
 intro t;induction t with
 | int k=>exact⟨rfl,by cases k<;>decide,by cases k<;>decide⟩
 | bool=>rfl
 | str=>exact⟨rfl,oZ _⟩
 | slice e ih=>exact .inl ⟨⟨none,rfl⟩,rfl⟩
 | arr n e ih =>
   refine⟨List.length_replicate,by rw[dx];rfl,fun i x hx=>?_⟩;have hx':(List.replicate n e.zero)[i]?=some x:=hx;rw[Ky] at hx';split at hx'
   ·rename_i hi;obtain rfl:e.zero=x:=by simpa using hx'
    have:=dm (dU e) n i hi;rw[dx] at this;show bt w I e e.zero (((List.replicate n (dU e)).flatten.drop (i*e.size)).take e.size)
    rw[this];exact ih
   ·cases hx'
 | pair a b gy iu=>exact⟨_,_,rfl,gy,iu⟩
 | unit=>rfl
 | alt u a r gy ihr=>exact ihr
 | td=>rfl
def CU:Value→Value→Bool
 | .int k n,.int k' m=>Nat.beq (qW k) (qW k')&&decide (n=m)
 | .bool a,.bool b=>a==b
 | .string a,.string b=>decide (a.data.toList=b.data.toList)
 | .slice none 0 0,.slice none 0 0=>true
 | .pointer none,.pointer none=>true
 | .nilIface,.nilIface=>true
 | _,_=>false
theorem Gb{a b:Value}(h:CU a b=true):a=b:=by
 unfold CU at h;split at h
 ·simp only[cP,A8] at h;rw[pN h.1,h.2]
 ·simpa using h
 ·rename_i a b;obtain⟨⟨a⟩⟩:=a;obtain⟨⟨b⟩⟩:=b;have h':a=b:=by simpa using h
  rw[h']
 ·rfl
 ·rfl
 ·rfl
 ·cases h
def ve:List Value→List Value→Bool
 | [],[]=>true
 | a::r,b::s=>CU a b&&ve r s
 | _,_=>false
theorem xD:∀{a b:List Value},ve a b=true→a=b
 | [],[],_=>rfl
 | a::r,b::s,h=>by simp only[ve,cP] at h;rw[Gb h.1,xD h.2]
 | [],_::_,h=>by cases h
 | _::_,[],h=>by cases h
def tD(P:Program)(tid:TypeId)(size:Nat)(zc:List Value):Bool :=
 match P.info? tid with
 | some i=>Nat.beq i.size size&&(match i.zero with|some z=>ve z.cells.toList zc|none=>false)
 | none=>false
theorem gp{P:Program}{tid:TypeId}{size:Nat}{zc:List Value}(h:tD P tid size zc=true) :
  ∃i z,P.info? tid=some i∧i.size=size∧i.zero=some z∧z.cells.toList=zc:=by
 unfold tD at h;split at h
 ·rename_i i hi;simp only[cP] at h;split at h
  ·rename_i z hz;exact⟨i,z,hi,dz h.1,hz,xD h.2⟩
  ·cases h.2
 ·cases h
def zw(P:Program)(tid:TypeId):Bool :=
 match P.info? tid with
 | some i=>Nat.ble i.bytes 32768
 | none=>false
def Ty.K3:Ty→Bool
 | .alt _ _ r=>r.K3
 | .td=>true
 | _=>false
def eE(P:Program):Ty→Bool→TypeId→Nat→List Field→Bool
 | .int k,false,tid,_,_=>(match P.underlying tid with|some (.int k')=>Nat.beq (qW k) (qW k')|_=>false)&&tD P tid 1 [.int k 0]
 | .bool,false,tid,_,_=>(match P.underlying tid with|some .bool=>true|_=>false)&&tD P tid 1 [.bool false]
 | .str,false,tid,_,_=>(match P.underlying tid with|some .string=>true|_=>false)&&tD P tid 1 [.string ⟨#[]⟩]
 | .slice e,false,tid,_,_=>(match P.underlying tid with|some (.slice cq)=>eE P e false cq 0 []&&zw P cq&&Nat.blt 0 e.size|_=>false)&&tD P tid 1 [.slice none 0 0]
 | .arr n e,false,tid,_,_=>(match P.underlying tid with|some (.array m cq)=>Nat.beq n m&&eE P e false cq 0 []&&Nat.blt 0 e.size|_=>false)&&tD P tid (n*e.size) (dU (.arr n e))&&!P.eqGuardType P.depth tid
 | .pair a b,false,tid,_,_=>(match P.underlying tid with
  | some (.struct fs)=>(match fs.toList with
    | f::r=>Nat.beq f.offset 0&&decide (f.name ≠ "_")&&eE P a false f.type 0 []&&Nat.blt 0 a.size&&eE P b true 0 a.size r
    | []=>false)
  | _=>false)&&tD P tid (a.size+b.size) (dU (.pair a b))&&!P.eqGuardType P.depth tid&&!P.stoodInHeld tid
 | .unit,false,tid,_,_=>false
 | .alt u _ r,false,tid,_,_=>eE P r false tid 0 []&&P.concrete u&&r.K3
 | .td,false,tid,_,_=>(match P.underlying tid with|some (.interface _)=>true|_=>false)&&tD P tid 1 [.nilIface]
 | .pair a b,true,_,off,f::r=>Nat.beq f.offset off&&decide (f.name ≠ "_")&&eE P a false f.type 0 []&&Nat.blt 0 a.size&&eE P b true 0 (off+a.size) r
 | .unit,true,_,_,[]=>true
 | _,_,_,_,_=>false
def Den(P:Program)(t:Ty)(tid:TypeId):Prop:=eE P t false tid 0 []=true
def jV(P:Program)(t:Ty)(off:Nat)(fs:List Field):Prop:=eE P t true 0 off fs=true
section
variable {P:Program} {tid:TypeId}
theorem Den.int{k:IntKind}(h:Den P (.int k) tid):P.underlying tid=some (.int k):=by
 simp only[Den,eE,cP] at h;have h1:=h.1;split at h1
 ·rename_i k' hk;rw[hk,pN h1]
 ·cases h1
theorem Den.bool(h:Den P .bool tid):P.underlying tid=some .bool:=by
 simp only[Den,eE,cP] at h;have h1:=h.1;split at h1
 ·rename_i hk;rw[hk]
 ·cases h1
theorem Den.str(h:Den P .str tid):P.underlying tid=some .string:=by
 simp only[Den,eE,cP] at h;have h1:=h.1;split at h1
 ·rename_i hk;rw[hk]
 ·cases h1
theorem Den.slice{e:Ty}(h:Den P (.slice e) tid):∃cq,P.underlying tid=some (.slice cq)∧Den P e cq∧zw P cq=true∧0<e.size:=by
 simp only[Den,eE,cP] at h;have h1:=h.1;split at h1
 ·rename_i cq hk;simp only[cP] at h1;exact⟨cq,hk,h1.1.1,h1.1.2,by simpa using h1.2⟩
 ·cases h1
theorem Den.arr{n:Nat}{e:Ty}(h:Den P (.arr n e) tid):∃cq,P.underlying tid=some (.array n cq)∧Den P e cq∧0<e.size:=by
 simp only[Den,eE,cP] at h;have h1:=h.1.1;split at h1
 ·rename_i m cq hk;simp only[cP] at h1;rw[dz h1.1.1];exact⟨cq,hk,h1.1.2,by simpa using h1.2⟩
 ·cases h1
theorem Den.Qy{n:Nat}{e:Ty}(h:Den P (.arr n e) tid):P.eqGuardType P.depth tid=false:=by
 simp only[Den,eE,cP,iE] at h;exact h.2
theorem Den.pair{a b:Ty}(h:Den P (.pair a b) tid):∃fs,P.underlying tid=some (.struct fs)∧jV P (.pair a b) 0 fs.toList∧P.eqGuardType P.depth tid=false∧P.stoodInHeld tid=false:=by
 simp only[Den,eE,cP] at h;obtain⟨⟨⟨h1,h2⟩,h3⟩,h4⟩:=h;split at h1
 ·rename_i fs hk;refine⟨fs,hk,?_,by simpa using h3,by simpa using h4⟩;split at h1
  ·rename_i f r hr;simp only[jV,hr,eE,oY];exact h1
  ·cases h1
 ·cases h1
theorem Den.info{t:Ty}(h:Den P t tid):∃i z,P.info? tid=some i∧i.size=t.size∧i.zero=some z∧z.cells.toList=dU t:=by
 induction t with
 | int k=>simp only[Den,eE,cP] at h;exact gp h.2
 | bool=>simp only[Den,eE,cP] at h;exact gp h.2
 | str=>simp only[Den,eE,cP] at h;exact gp h.2
 | slice e=>simp only[Den,eE,cP] at h;exact gp h.2
 | arr n e=>simp only[Den,eE,cP] at h;exact gp h.1.2
 | pair a b=>simp only[Den,eE,cP] at h;exact gp h.1.1.2
 | unit=>simp[Den,eE] at h
 | alt u a r gy ihr=>simp only[Den,eE,cP] at h;exact ihr h.1.1
 | td=>simp only[Den,eE,cP] at h;exact gp h.2
theorem Den.td(h:Den P .td tid):∃ms,P.underlying tid=some (.interface ms):=by
 simp only[Den,eE,cP] at h;have h1:=h.1;split at h1
 ·exact⟨_,by assumption⟩
 ·cases h1
theorem Den.rest{u:Nat}{a r:Ty}(h:Den P (.alt u a r) tid):Den P r tid∧P.concrete u=true:=by
 simp only[Den,eE,cP] at h;exact h.1
theorem Ty.zx:∀{t:Ty},t.K3=true→t.size=1∧t.isAgg=false:=by
 intro t;induction t with
 | alt u a r gy ihr=>intro h;exact ihr h
 | td=>intro h;exact⟨rfl,rfl⟩
 | _=>intro h;cases h
theorem Den.K4{u:Nat}{a r:Ty}(_:Den P r tid)(h:Den P (.alt u a r) tid):r.size=1:=by
 simp only[Den,eE,cP] at h;exact(Ty.zx h.2).1
theorem Den.agg{t:Ty}(h:Den P t tid)(w:World):(isAgg tid).run P w=.ok t.isAgg w:=by
 induction t with
 | alt u a r gy ihr=>exact ihr h.rest.1
 | td=>obtain⟨_,h1⟩:=h.td;unfold Go.isAgg;simp[run_underlying h1,Ty.isAgg]
 | int k=>unfold Go.isAgg;simp[run_underlying h.int,Ty.isAgg]
 | bool=>unfold Go.isAgg;simp[run_underlying h.bool,Ty.isAgg]
 | str=>unfold Go.isAgg;simp[run_underlying h.str,Ty.isAgg]
 | slice e ih=>unfold Go.isAgg;obtain⟨_,h1,_⟩:=h.slice;simp[run_underlying h1,Ty.isAgg]
 | arr n e ih=>unfold Go.isAgg;obtain⟨_,h1,_⟩:=h.arr;simp[run_underlying h1,Ty.isAgg]
 | pair a b gy iu=>unfold Go.isAgg;obtain⟨_,h1,_⟩:=h.pair;simp[run_underlying h1,Ty.isAgg]
 | unit=>simp[Den,eE] at h
theorem Den.sizeOf{t:Ty}(h:Den P t tid)(w:World):(Go.sizeOf tid).run P w=.ok t.size w:=by
 obtain⟨i,z,h1,h2,_⟩:=h.info;simp[Go.sizeOf,typeInfo,h1,h2]
theorem Den.zero{t:Ty}(h:Den P t tid)(w:World):∃z,(zeroValue tid).run P w=.ok z w∧z.cells.toList=dU t:=by
 obtain⟨i,z,h1,h2,h3,h4⟩:=h.info;exact⟨z,by simp[zeroValue,typeInfo,h1,h3],h4⟩
theorem Den.cells{t:Ty}(h:Den P t tid):P.cellsOf tid=t.size:=by
 obtain⟨i,z,h1,h2,_⟩:=h.info;simp[Program.cellsOf,h1,h2]
theorem jV.cons{a b:Ty}{off:Nat}{fs:List Field}(h:jV P (.pair a b) off fs) :
  ∃f r,fs=f::r∧f.offset=off∧f.name ≠ "_"∧Den P a f.type∧0<a.size∧jV P b (off+a.size) r:=by
 cases fs with
 | nil=>simp[jV,eE] at h
 | cons f r =>
   simp only[jV,eE,cP] at h;obtain⟨⟨⟨⟨h1,h2⟩,h3⟩,h4⟩,h5⟩:=h;exact⟨f,r,rfl,dz h1,by simpa using h2,h3,by simpa using h4,h5⟩
theorem jV.at{t:Ty}:∀{off:Nat} {fs:List Field} {k:Nat} {u:Ty} {o:Nat},jV P t off fs→nI t k=some u→gk t k=some o →
  ∃f,fs[k]?=some f∧f.offset=off+o∧Den P u f.type∧0<u.size:=by
 induction t with
 | pair a b gy iu =>
   intro off fs k u o h hu ho;obtain⟨f,r,rfl,h1,h2,h3,h4,h5⟩:=h.cons;cases k with
   | zero =>
     simp only[nI,gk,jU] at hu ho;subst hu ho;exact⟨f,rfl,by omega,h3,h4⟩
   | succ k =>
     simp only[nI,gk] at hu ho;cases hb:gk b k with
     | none=>rw[hb] at ho;cases ho
     | some o' =>
       rw[hb] at ho;simp only[wu,jU] at ho;obtain⟨f',k1,k2,k3,k4⟩:=iu h5 hu hb;exact⟨f',by simpa using k1,by omega,k3,k4⟩
 | _=>intro off fs k u o h hu ho;cases k<;>simp[nI] at hu
end
def jl.cells:jl→List Value
 | .dat t=>dU t
 | .buf _ _=>[.slice none 0 0]
 | _=>[.pointer none]
def zy:List jl→List Value
 | []=>[]
 | f::r=>f.cells++zy r
def OI:List jl→Nat
 | []=>0
 | f::r=>f.size+OI r
def B8(P:Program):Nat→List jl→List Field→Bool
 | _,[],[]=>true
 | off,f::r,g::s=>Nat.beq g.offset off&&Nat.blt 0 f.size&&(match P.info? g.type with|some i=>Nat.beq i.size f.size|none=>false)&&B8 P (off+f.size) r s
 | _,_,_=>false
def Bb(P:Program)(tid:TypeId)(fs:List jl):Bool :=
 (match P.underlying tid with|some (.struct gs)=>B8 P 0 fs gs.toList|_=>false)&&tD P tid (OI fs) (zy fs)
theorem IZ{P:Program}{tid:TypeId}{fs:List jl}(h:Bb P tid fs=true)(w:World):∃z,(zeroValue tid).run P w=.ok z w∧z.cells.toList=zy fs:=by
 simp only[Bb,cP] at h;obtain⟨i,z,h1,h2,h3,h4⟩:=gp h.2;exact⟨z,by simp[zeroValue,typeInfo,h1,h3],h4⟩
theorem K5{P:Program}:∀{fs:List jl} {gs:List Field} {off k o:Nat},B8 P off fs gs=true→qt fs k=some o→∃f i,gs[k]?=some f∧f.offset=off+o∧P.info? f.type=some i∧0<i.size:=by
 intro fs;induction fs with
 | nil=>intro gs off k o h ho;cases ho
 | cons f r ih =>
   intro gs off k o h ho;cases gs with
   | nil=>cases h
   | cons g s =>
     simp only[B8,cP] at h;obtain⟨⟨⟨h1,h2⟩,h3⟩,h4⟩:=h;cases k with
     | zero =>
       obtain rfl:=ax ho;split at h3
       ·rename_i i hi;have Qz:=dz h3;have Tj:0<f.size:=by simpa using h2
        exact⟨g,i,rfl,by rw[dz h1];rfl,hi,by omega⟩
       ·cases h3
     | succ k =>
       simp only[qt] at ho;split at ho
       ·rename_i o' ho';obtain rfl:=ax ho;obtain⟨f',i,k1,k2,k3,k4⟩:=ih h4 ho';exact⟨f',i,k1,by omega,k3,k4⟩
       ·cases ho
theorem Ni{P:Program}{tid:TypeId}{fs:List jl}{k o:Nat}(h:Bb P tid fs=true)(ho:qt fs k=some o):∃(gs:Array Field) (f:Field) (i:TypeInfo),P.underlying tid=some (.struct gs)∧gs.toList[k]?=some f∧f.offset=o∧P.info? f.type=some i∧0<i.size:=by
 simp only[Bb,cP] at h;obtain⟨h1,_⟩:=h;split at h1
 ·rename_i gs hg;obtain⟨f,i,k1,k2,k3,k4⟩:=K5 h1 ho;exact⟨gs,f,i,hg,k1,by omega,k3,k4⟩
 ·cases h1
theorem vf{P:Program}:∀{fs:List jl} {gs:List Field} {off:Nat},B8 P off fs gs=true→∃pl:List (Nat×Nat),gs.mapM (fun f=>(P.info? f.type).map fun i=>(f.offset,i.size))=some pl ∧
  ∀k o f,qt fs k=some o→fs[k]?=some f→pl[k]?=some (off+o,f.size):=by
 intro fs;induction fs with
 | nil =>
   intro gs off h;cases gs with
   | nil=>exact⟨[],rfl,fun k o f _ hf=>by cases hf⟩
   | cons g s=>cases h
 | cons f r ih =>
   intro gs off h;cases gs with
   | nil=>cases h
   | cons g s =>
     simp only[B8,cP] at h;obtain⟨⟨⟨h1,h2⟩,h3⟩,h4⟩:=h;obtain⟨pl,p1,p2⟩:=ih h4;split at h3
     ·rename_i i hi;refine⟨(g.offset,i.size)::pl,by simp[hi,p1],fun k o q ho hq=>?_⟩;cases k with
      | zero =>
        obtain rfl:=ax ho;obtain rfl:=ax hq;rw[Kz,dz h1,dz h3];rfl
      | succ k =>
        simp only[qt] at ho;split at ho
        ·rename_i o' ho';obtain rfl:=ax ho;have:=p2 k o' q ho' (by simpa using hq);rw[KA,this,wB]
        ·cases ho
     ·cases h3
structure eo (P:Program) (cx:Ctx):Prop where
 T:∀tid t,find cx.T tid=some t→Den P t tid
 lW:∀tid,b6 cx.lW tid=true→(∀w,(isAgg tid).run P w=.ok false w)∧(∀w,(Go.sizeOf tid).run P w=.ok 1 w)∧∃z,(∀w,(zeroValue tid).run P w=.ok z w)∧z.oneCell'=true
 en:∀tid,b6 cx.en tid=true→∃e,P.underlying tid=some (.pointer e)
 fns:∀f fn,find cx.fns f=some fn→P.funcs[f]?=some fn
 mU:∀tid fs,find cx.mU tid=some fs→Bb P tid fs=true
 els:∀tid e,find cx.els tid=some e→P.underlying tid=some (.slice e)
theorem fN{o:Option Ty}{t:Ty}(h:wF o t=true):o=some t:=by
 unfold wF at h;split at h
 ·rw[Ty.eq_of_beq h]
 ·cases h
theorem addr_add(b o n:Nat):Addr.add ⟨b,o,none⟩ n=⟨b,o+n,none⟩:=by
 unfold Addr.add;split<;>simp_all
def splice(l:List Value)(off:Nat)(c:List Value):List Value:=l.take off++c++l.drop (off+c.length)
theorem b5{l c:List Value}{off:Nat}(h:off+c.length≤l.length):(splice l off c).length=l.length:=by
 simp[splice];omega
theorem jm.same{cur cur':Array Value}{fr:Nat×Nat}(h:jm cur fr)(hs:cur'.size=cur.size):jm cur' fr:=fun o ho=>h o (by omega)
section
variable {P:Program}
theorem MY.same{e:Ty}{cur cur':Array Value}{fr:Nat×Nat}(h:MY e cur fr)(hs:cur'.size=cur.size):MY e cur' fr:=⟨h.th.same hs,fun he=>by rw[hs];exact h.um he⟩
theorem cN(g o:Nat)(t:TypeId)(fr:Nat×Nat):∀(vs:List Value) (i:Nat) (cur:Array Value) (w:World),w.heap[g]?=some (.cells cur t fr)→jm cur fr →
  o+i+vs.length≤cur.size→(∀v∈vs,v.oneCell'=true)→(storeCells ⟨g,o,none⟩ vs i).run P w=.ok () (w.setRow g (splice cur.toList (o+i) vs).toArray)
 | [],i,cur,w,hg,_,_,_=>by
   simp only[storeCells,splice,A9,oX,uf,A6,Array.toArray_toList];rw[setRow_self w g cur t fr hg];rfl
 | v::rest,i,cur,w,hg,Kb,hl,h1=>by
   have hi:o+i<cur.size:=by simp at hl;omega
   have hcell:w.cell? ⟨g,o+i,none⟩=some cur[o+i]:=by simp[World.cell?,hg,hi]
   have I0:w.frozen? ⟨g,o+i,none⟩=false:=by
    have:=Kb (o+i) hi;simp only[World.frozen?,hg];obtain⟨a,b⟩:=fr;simp only[OA,KB];simp only at this;omega
   have hst:(store ((⟨g,o,none⟩:Addr).add i) v).run P w=.ok () (w.setRow g (cur.setIfInBounds (o+i) v)):=by
    rw[addr_add,run_store P w _ v _ (h1 v (by simp)),hcell];simp[I0,setCell_eq_setRow w g (o+i) cur t fr v hg]
   have ih:=cN g o t fr rest (i+1) (cur.setIfInBounds (o+i) v) (w.setRow g (cur.setIfInBounds (o+i) v)) (setRow_heap w g cur _ t _ hg) (Kb.same (by simp)) (by simp at hl⊢;omega) (fun x hx=>h1 x (by simp[hx]));simp only[storeCells,Sem.run_bind,hst,Result.andThen_ok,ih,setRow_setRow]
   congr 3
   have e:=list_seg_step cur.toList (o+i) v rest (by simp at hl⊢;omega);simpa [splice,Oo,wB] using e
theorem cell_of_heap{w:World}{g:Nat}{cur:Array Value}{t:TypeId}{fr:Nat×Nat}(hg:w.heap[g]?=some (.cells cur t fr))(j:Nat):w.cell? ⟨g,j,none⟩=cur[j]?:=by
 simp[World.cell?,hg]
theorem tf{w:World}{g off n:Nat}{cur:Array Value}{t:TypeId}{fr:Nat×Nat}(hg:w.heap[g]?=some (.cells cur t fr))(h:off+n≤cur.size) :
  (loadCells ⟨g,off,none⟩ n).run P w=.ok ((cur.toList.drop off).take n).toArray w:=by
 have hl:((cur.toList.drop off).take n).length=n:=by simp;omega
 have:=run_loadCells_list (P:=P) w ⟨g,off,none⟩ ((cur.toList.drop off).take n) (fun j v hv=>by
  rw[addr_add,cell_of_heap hg];rw[lU] at hv;split at hv
  ·rw[rz] at hv;simpa using hv
  ·cases hv)
 rwa [hl] at this
theorem wM{w:World}{I:Nat→Nat→Prop}{g off:Nat}{cs:List Value}(h:u7 w I g off cs):(loadCells ⟨g,off,none⟩ cs.length).run P w=.ok cs.toArray w :=
 run_loadCells_list (P:=P) w ⟨g,off,none⟩ cs (fun j v hv=>by rw[addr_add];exact(h j v hv).1)
end
end Go.Ge
namespace Go.Ge
theorem fJ{a b:Nat}(h:a≠b):Nat.beq a b=false:=by
 cases hb:Nat.beq a b
 ·rfl
 ·exact absurd (dz hb) h
theorem K6(a:Act)(d t:Nat)(v:Value)(hd:d<a.tmps.size):(a.put (some d) v).tmps.getD t undef=if t=d then v else a.tmps.getD t undef:=by
 simp only[Act.put,FT,O6];by_cases h:d=t
 ·subst h;simp[hd]
 ·rw[cT h,cT (fun e=>h e.symm)]
theorem Ep(a:Act)(d:Option Nat)(v:Value):(a.put d v).tmps.size=a.tmps.size:=by cases d<;>simp[Act.put]
theorem put_defers(a:Act)(d:Option Nat)(v:Value):(a.put d v).defers=a.defers:=by cases d<;>rfl
section
variable {B:ld} {N:Nat} {γ γ':Gh} {σ:St} {a:Act} {w w':World} {mem':Nat→Option aY}
theorem bZ.step(h:bZ B N γ σ a w)(hx:Ext B γ σ.mem w γ' mem' w')(hm:aV B γ' mem' w'){d:Nat}(hd:d<N){v:ay}{val:Value}(hv:bH γ' mem' w' v .val [val]) :
  bZ B N γ' ({ slots:=σ.slots,mem:=mem':St }.put d v) (a.put (some d) val) w' where
 slots:=fun t=>by
  rw[K6 a d t val (by rw[h.size];exact hd)];simp only[St.put];by_cases e:t=d
  ·subst e;simpa using hv
  ·rw[cT e,fJ e];exact(h.slots t).ext hx
 size:=by rw[Ep];exact h.size
 defers:=by rw[put_defers];exact h.defers
 ok:=hm
theorem bZ.go(h:bZ B N γ σ a w)(hx:Ext B γ σ.mem w γ' mem' w')(hm:aV B γ' mem' w'):bZ B N γ' { slots:=σ.slots,mem:=mem' } a w' where
 slots:=fun t=>(h.slots t).ext hx
 size:=h.size
 defers:=h.defers
 ok:=hm
theorem bZ.aD(h:bZ B N γ σ a w)(hx:Ext B γ σ.mem w γ' mem' w')(hm:aV B γ' mem' w'){d:Option Nat}(hd:∀k,d=some k→k<N){v:ay}{val:Value}(hv:bH γ' mem' w' v .val [val]) :
  bZ B N γ' ({ slots:=σ.slots,mem:=mem':St }.aD d v) (a.put d val) w':=by
 cases d with
 | none=>exact h.go hx hm
 | some d=>exact h.step hx hm (hd d rfl) hv
theorem bZ.nR(h:bZ B N γ σ a w){d:Option Nat}(hd:∀k,d=some k→k<N){v:ay}{val:Value}(hv:bH γ σ.mem w v .val [val]) :
 bZ B N γ (σ.aD d v) (a.put d val) w:=h.aD (Ext.refl _ _ _ _) h.ok hd hv
end
theorem cC{γ:Gh}{mem:Nat→Option aY}{w:World}{t:Ty}{x:t.den}{v:Value}:bH γ mem w (.data t x) .val [v]↔∃cs,bt w γ.I t x cs∧v=bO t cs:=by
 simp only[bH,IJ,and_true]
theorem I3(γ:Gh)(mem:Nat→Option aY)(w:World)(v:Value):bH γ mem w (zi v) .val [v]:=by
 unfold zi;split
 ·rename_i k n;cases hc:(decide (k.min≤n)&&decide (n≤k.max))
  ·exact⟨_,rfl⟩
  ·simp only[cP,A8] at hc;exact⟨[.int k n],⟨rfl,hc.1,hc.2⟩,rfl⟩
 ·rename_i b;exact⟨[.bool b],rfl,rfl⟩
 ·rename_i s;cases hc:Nat.ble s.data.toList.length 4294967296
  ·exact⟨_,rfl⟩
  ·refine⟨[.string s],⟨?_,?_⟩,rfl⟩
   ·obtain⟨⟨l⟩⟩:=s;rfl
   ·have:=ya hc;simp only[maxLen];omega
 ·rfl
 ·rfl
 ·rfl
 ·exact⟨_,rfl⟩
theorem bZ.bN{B:ld}{N:Nat}{γ:Gh}{σ:St}{a:Act}{w:World}(h:bZ B N γ σ a w)(x:Operand):bH γ σ.mem w (bN σ x) .val [a.eval x]:=by
 cases x with
 | tmp t=>exact h.slots t
 | const v=>exact I3 _ _ _ v
 | global g=>exact⟨_,rfl⟩
 | func f=>exact⟨#[],rfl,rfl,fun i b aj hc=>by simp at hc⟩
theorem bH.gP{γ:Gh}{mem:Nat→Option aY}{w:World}{v:ay}{x:Value}(h:bH γ mem w v .val [x])(hv:∀u,v≠.om u)(h0:v=.undef→x.oneCell'=true):bH γ mem w v .cells x.cells.toList:=by
 cases v with
 | undef=>exact⟨x,by cases x<;>first|rfl|(have:=h0 rfl;simp[Value.oneCell'] at this),h0 rfl⟩
 | data t y=>obtain⟨cs,h1,h2⟩:=cC.1 h;subst h2;show bt _ _ _ _ _;rw[lG h1];exact h1
 | js=>obtain rfl:x=_:=by simpa [bH] using h
       rfl
 | kW=>obtain rfl:x=_:=by simpa [bH] using h
       rfl
 | lV=>obtain rfl:x=_:=by simpa [bH] using h
       rfl
 | oB b aj=>obtain⟨⟨v,h1,h2⟩,h3⟩:=h;simp at h1;subst h1;refine⟨⟨x,?_,h2⟩,?_⟩
            ·cases x<;>first|rfl|(simp[Value.oneCell'] at h2)
            ·obtain⟨bx,k1,k2,k3⟩:=h3;exact⟨bx,k1,k2,fun e=>by
              obtain⟨blk,cap,j1,j2⟩:=k3 e;refine⟨blk,cap,j1,?_⟩;rcases j2 with j2|j2
              ·simp at j2;subst j2;exact .inl rfl
              ·simp at j2;subst j2;exact .inr rfl⟩
 | cell t y=>obtain⟨blk,off,cs,h1,h2,h3⟩:=h;simp at h1;subst h1;exact⟨blk,off,cs,rfl,h2,h3⟩
 | ptr b aj p=>obtain⟨⟨v,h1,h2⟩,h3⟩:=h;simp at h1;subst h1;refine⟨⟨x,?_,h2⟩,?_⟩
               ·cases x<;>first|rfl|(simp[Value.oneCell'] at h2)
               ·obtain⟨bx,k1,k2,k3⟩:=h3;exact⟨bx,k1,k2,fun e=>by obtain⟨blk,cap,j1,j2⟩:=k3 e;simp at j2;subst j2;exact⟨blk,cap,j1,rfl⟩⟩
 | whole b aj=>obtain⟨⟨v,h1,h2⟩,h3⟩:=h;simp at h1;subst h1;refine⟨⟨x,?_,h2⟩,?_⟩
               ·cases x<;>first|rfl|(simp[Value.oneCell'] at h2)
               ·obtain⟨bx,k1,k2,k3⟩:=h3;exact⟨bx,k1,k2,fun e=>by
                 obtain⟨u,n,j1,j2,j3⟩:=k3 e;refine⟨u,n,j1,j2,?_⟩;rcases j3 with ⟨j3,j4⟩|⟨blk,cap,j3,j4⟩
                 ·simp at j4;subst j4;exact .inl ⟨j3,rfl⟩
                 ·simp at j4;subst j4;exact .inr ⟨blk,cap,j3,rfl⟩⟩
 | part b aj lo n=>obtain⟨⟨v,h1,h2⟩,h3⟩:=h;simp at h1;subst h1;refine⟨⟨x,?_,h2⟩,?_⟩
                   ·cases x<;>first|rfl|(simp[Value.oneCell'] at h2)
                   ·obtain⟨bx,k1,k2,k3⟩:=h3;exact⟨bx,k1,k2,fun e=>by
                     obtain⟨u,k,j1,j2,j3,j4,base,cap,j5,j6⟩:=k3 e;simp at j5;subst j5;exact⟨u,k,j1,j2,j3,j4,base,cap,rfl,j6⟩⟩
 | win b aj q e k lo n=>obtain⟨⟨v,h1,h2⟩,h3⟩:=h;simp at h1;subst h1;refine⟨⟨x,?_,h2⟩,?_⟩
                        ·cases x<;>first|rfl|(simp[Value.oneCell'] at h2)
                        ·obtain⟨bx,k1,k2,k3⟩:=h3;exact⟨bx,k1,k2,fun e=>by
                          obtain⟨j0,u,c,j1,j2,j3,j4,base,cap,j5,j6⟩:=k3 e;simp at j5;subst j5;exact⟨j0,u,c,j1,j2,j3,j4,base,cap,rfl,j6⟩⟩
 | fn f caps=>obtain⟨arr,h1,h2⟩:=h;simp at h1;subst h1;exact⟨arr,rfl,h2⟩
 | mix p q=>obtain⟨c1,c2,h1,h2,h3⟩:=h;simp at h1;subst h1;exact⟨c1,c2,by simp[Value.cells],h2,h3⟩
 | om u=>exact absurd rfl (hv u)
 | nl=>exact h.elim
theorem bH.length{γ:Gh}{mem:Nat→Option aY}{w:World}:∀{v:ay} {cs:List Value},bH γ mem w v .cells cs→cs.length=bY v:=by
 intro v;induction v with
 | data t x=>intro cs h;exact bt.length h
 | mix a b gy iu=>intro cs h;obtain⟨c1,c2,rfl,h1,h2⟩:=h;rw[pM,gy h1,iu h2];rfl
 | undef=>intro cs h;obtain⟨v,rfl,_⟩:=h;rfl
 | js=>intro cs h;rw[show cs=_ from h];rfl
 | kW=>intro cs h;rw[show cs=_ from h];rfl
 | lV=>intro cs h;rw[show cs=_ from h];rfl
 | oB b aj=>intro cs h;obtain⟨⟨_,rfl,_⟩,_⟩:=h;rfl
 | cell t x=>intro cs h;obtain⟨_,_,_,rfl,_⟩:=h;rfl
 | ptr b aj p=>intro cs h;obtain⟨⟨_,rfl,_⟩,_⟩:=h;rfl
 | whole b aj=>intro cs h;obtain⟨⟨_,rfl,_⟩,_⟩:=h;rfl
 | part b aj lo n=>intro cs h;obtain⟨⟨_,rfl,_⟩,_⟩:=h;rfl
 | win b aj q e k lo n=>intro cs h;obtain⟨⟨_,rfl,_⟩,_⟩:=h;rfl
 | fn f caps=>intro cs h;obtain⟨_,rfl,_⟩:=h;rfl
 | om u ih=>intro cs h;exact h.elim
 | nl=>intro cs h;exact h.elim
theorem bH.one{γ:Gh}{mem:Nat→Option aY}{w:World}:∀{v:ay} {cs:List Value},bH γ mem w v .cells cs→∀c∈cs,c.oneCell'=true:=by
 intro v;induction v with
 | data t x=>intro cs h;exact bt.one h
 | mix a b gy iu =>
   intro cs h c hc;obtain⟨c1,c2,rfl,h1,h2⟩:=h;rcases List.mem_append.1 hc with hc|hc
   ·exact gy h1 c hc
   ·exact iu h2 c hc
 | undef=>intro cs h c hc;obtain⟨v,rfl,h1⟩:=h;simp at hc;subst hc;exact h1
 | js=>intro cs h c hc;rw[show cs=_ from h] at hc;simp at hc;subst hc;rfl
 | kW=>intro cs h c hc;rw[show cs=_ from h] at hc;simp at hc;subst hc;rfl
 | lV=>intro cs h c hc;rw[show cs=_ from h] at hc;simp at hc;subst hc;rfl
 | oB b aj=>intro cs h c hc;obtain⟨⟨_,rfl,h1⟩,_⟩:=h;simp at hc;subst hc;exact h1
 | cell t x=>intro cs h c hc;obtain⟨_,_,_,rfl,_⟩:=h;simp at hc;subst hc;rfl
 | ptr b aj p=>intro cs h c hc;obtain⟨⟨_,rfl,h1⟩,_⟩:=h;simp at hc;subst hc;exact h1
 | whole b aj=>intro cs h c hc;obtain⟨⟨_,rfl,h1⟩,_⟩:=h;simp at hc;subst hc;exact h1
 | part b aj lo n=>intro cs h c hc;obtain⟨⟨_,rfl,h1⟩,_⟩:=h;simp at hc;subst hc;exact h1
 | win b aj q e k lo n=>intro cs h c hc;obtain⟨⟨_,rfl,h1⟩,_⟩:=h;simp at hc;subst hc;exact h1
 | fn f caps=>intro cs h c hc;obtain⟨_,rfl,_⟩:=h;simp at hc;subst hc;rfl
 | om u ih=>intro cs h;exact h.elim
 | nl=>intro cs h;exact h.elim
theorem lX{α:Type}{l:List α}{i:Int}{x:α}(h:idx l i=some x):0≤i∧l[i.toNat]?=some x:=by
 unfold idx at h;split at h
 ·rename_i h0;exact⟨h0,h⟩
 ·cases h
theorem uq{w:World}{I:Nat→Nat→Prop}:∀{t:Ty} {x:t.den} {cs:List Value} {k o:Nat} {u:ay},bt w I t x cs→jF t x k=some (o,u) →
  ∃(t':Ty) (y:t'.den),u=.data t' y∧nI t k=some t'∧gk t k=some o∧o+t'.size≤cs.length∧bt w I t' y ((cs.drop o).take t'.size):=by
 intro t;induction t with
 | pair a b gy iu =>
   intro x cs k o u h hk;obtain⟨c1,c2,rfl,h1,h2⟩:=h;cases k with
   | zero =>
     simp only[jF,jU,Ea] at hk;obtain⟨rfl,rfl⟩:=hk;refine⟨a,x.1,rfl,rfl,rfl,by rw[pM,h1.length];omega,?_⟩;rw[FZ,←h1.length,IM];exact h1
   | succ k =>
     simp only[jF] at hk;cases hf:jF b x.2 k with
     | none=>rw[hf] at hk;cases hk
     | some r =>
       rw[hf] at hk;simp only[jU,Ea] at hk;obtain⟨rfl,rfl⟩:=hk;obtain⟨t',y,k1,k2,k3,k4,k5⟩:=iu h2 (show jF b x.2 k=some (r.1,r.2) from hf);refine⟨t',y,k1,k2,by simp[gk,k3],by rw[pM,h1.length];omega,?_⟩;rw[←h1.length,←qm,ue];exact k5
 | _=>intro x cs k o u h hk;cases k<;>simp[jF] at hk
theorem wN{γ:Gh}{mem:Nat→Option aY}{w:World}:∀{v:ay} {cs:List Value} {k o:Nat} {u:ay},bH γ mem w v .cells cs→iF v k=some (o,u) →
  o+bY u≤cs.length∧bH γ mem w u .cells ((cs.drop o).take (bY u)):=by
 intro v;induction v with
 | data t x =>
   intro cs k o u h hk;obtain⟨t',y,rfl,_,_,h1,h2⟩:=uq (w:=w) h hk;exact⟨h1,h2⟩
 | mix a b gy iu =>
   intro cs k o u h hk;obtain⟨c1,c2,rfl,h1,h2⟩:=h;cases k with
   | zero =>
     simp only[iF,jU,Ea] at hk;obtain⟨rfl,rfl⟩:=hk;refine⟨by rw[pM,h1.length];omega,?_⟩;rw[FZ,←h1.length,IM];exact h1
   | succ k =>
     simp only[iF] at hk;cases hf:iF b k with
     | none=>rw[hf] at hk;cases hk
     | some r =>
       rw[hf] at hk;simp only[jU,Ea] at hk;obtain⟨rfl,rfl⟩:=hk;obtain⟨k4,k5⟩:=iu h2 (show iF b k=some (r.1,r.2) from hf);refine⟨by rw[pM,h1.length];omega,?_⟩;rw[←h1.length,←qm,ue];exact k5
 | _=>intro cs k o u h hk;cases k<;>simp[iF] at hk
theorem yT{γ:Gh}{mem:Nat→Option aY}{w:World}{t:Ty}{v:ay}{z:t.den}{es:List Value}(h:toS t v=some z)(hv:bH γ mem w v .cells es):bt w γ.I t z es:=by
 cases v with
 | data u y =>
   obtain⟨e,e2⟩:=Ty.gL (show Ty.to u t y=some z from h);subst e;subst e2;exact hv
 | _=>cases h
theorem bind_some{α β:Type}{t:Tree α}{f:α→Tree β}{y:β}(h:(t.bind f).run=some y):∃x,t.run=some x∧(f x).run=some y:=by
 rw[Tree.run_bind] at h;exact Option.bind_eq_some_iff.1 h
theorem bE{T α:Type}{o:Option T}{k:T→Tree α}{y:α}(h:(Tree.look o k).run=some y):∃x,o=some x∧(k x).run=some y:=by
 cases o with
 | none=>cases h
 | some x=>exact⟨x,rfl,h⟩
theorem bK{α:Type}{c:Bool}{t:Tree α}{y:α}(h:(Tree.need c t).run=some y):c=true∧t.run=some y:=by
 cases c with
 | false=>cases h
 | true=>exact⟨rfl,h⟩
theorem aq{α:Type}{c:Bool}{t:Tree α}{y:α}(h:(bif c then t else .fail).run=some y):c=true∧t.run=some y:=by
 cases c with
 | false=>cases h
 | true=>exact⟨rfl,h⟩
theorem eI{α:Type}{c:Bool}{t e:Tree α}{y:α}(h:(Tree.node c t e).run=some y):(bif c then t else e).run=some y:=by
 cases c<;>exact h
section
variable {γ:Gh} {mem:Nat→Option aY} {w:World}
theorem Er:∀{t:Ty} {x:t.den} {cs:List Value} {k o:Nat} {u:ay} {y:t.den} {f:ay→Tree ay} {es:List Value},
  bt w γ.I t x cs→jF t x k=some (o,u)→(∀v,(f u).run=some v→bH γ mem w v .cells es)→(yJ t x k f).run=some y→es.length=bY u →
  bt w γ.I t y (splice cs o es):=by
 intro t;induction t with
 | pair a b gy iu =>
   intro x cs k o u y f es h hk hf hs hl;obtain⟨c1,c2,rfl,h1,h2⟩:=h;cases k with
   | zero =>
     simp only[jF,jU,Ea] at hk;obtain⟨rfl,rfl⟩:=hk;obtain⟨v,hf',hs⟩:=bind_some hs;have he:=hf v hf';cases hv:toS a v with
     | none=>rw[hv] at hs;cases hs
     | some z =>
       rw[hv] at hs;obtain rfl:=ax hs;simp only[bY] at hl;refine⟨es,c2,?_,yT hv he,h2⟩;simp only[splice,Ec,CG,oY];rw[show es.length=c1.length by rw[hl,h1.length],ue]
   | succ k =>
     simp only[jF] at hk;cases Pf:jF b x.2 k with
     | none=>rw[Pf] at hk;cases hk
     | some r =>
       rw[Pf] at hk;simp only[jU,Ea] at hk;obtain⟨rfl,rfl⟩:=hk;obtain⟨z,hq,hs⟩:=bind_some hs;obtain rfl:=ax hs;have:=iu h2 (show jF b x.2 k=some (r.1,r.2) from Pf) hf hq hl;refine⟨c1,splice c2 r.1 es,?_,h1,this⟩;simp only[splice,←h1.length,M7,nH]
       congr 1;congr 1;congr 1
       rw[wB,←qm,ue]
 | _=>intro x cs k o u y f es h hk;cases k<;>simp[jF] at hk
theorem zz:∀{v0:ay} {cs:List Value} {k o:Nat} {u c:ay} {f:ay→Tree ay} {es:List Value},
  bH γ mem w v0 .cells cs→iF v0 k=some (o,u)→(∀v,(f u).run=some v→bH γ mem w v .cells es)→(wE v0 k f).run=some c→es.length=bY u →
  bH γ mem w c .cells (splice cs o es):=by
 intro v0;induction v0 with
 | data t x =>
   intro cs k o u c f es h hk hf hs hl;obtain⟨y,hy,hs⟩:=bind_some hs;obtain rfl:=ax hs;exact Er h hk hf hy hl
 | mix a b gy iu =>
   intro cs k o u c f es h hk hf hs hl;obtain⟨c1,c2,rfl,h1,h2⟩:=h;cases k with
   | zero =>
     simp only[iF,jU,Ea] at hk;obtain⟨rfl,rfl⟩:=hk;obtain⟨v,hf',hs⟩:=bind_some hs;have he:=hf v hf';obtain rfl:=ax hs;refine⟨es,c2,?_,he,h2⟩;simp only[splice,Ec,CG,oY];rw[show es.length=c1.length by rw[hl,h1.length],ue]
   | succ k =>
     simp only[iF] at hk;cases Pf:iF b k with
     | none=>rw[Pf] at hk;cases hk
     | some r =>
       rw[Pf] at hk;simp only[jU,Ea] at hk;obtain⟨rfl,rfl⟩:=hk;obtain⟨z,hq,hs⟩:=bind_some hs;obtain rfl:=ax hs;have:=iu h2 (show iF b k=some (r.1,r.2) from Pf) hf hq hl;refine⟨c1,splice c2 r.1 es,?_,h1,this⟩;simp only[splice,←h1.length,M7,nH]
       congr 1;congr 1;congr 1
       rw[wB,←qm,ue]
 | _=>intro cs k o u c f es h hk;cases k<;>simp[iF] at hk
theorem oC:∀{p:List uh} {v u:ay} {cs:List Value},bH γ mem w v .cells cs→(IU p v).run=some u→bR p+bY u≤cs.length∧bH γ mem w u .cells ((cs.drop (bR p)).take (bY u)):=by
 intro p;induction p with
 | nil =>
   intro v u cs h hn;obtain rfl:=ax hn;have hl:=h.length;refine⟨by simp[bR];omega,?_⟩;rw[show bR []=0 from rfl,FZ,←hl,HN];exact h
 | cons s p ih =>
   intro v u cs h hn;cases s with
   | CM k off =>
     simp only[IU] at hn;cases hf:iF v k with
     | none=>rw[hf] at hn;cases hn
     | some r =>
       rw[hf] at hn;obtain⟨hb,hn2⟩:=aq hn;have hoff:=dz hb;obtain⟨h1,h2⟩:=wN h (show iF v k=some (r.1,r.2) from hf);obtain⟨h3,h4⟩:=ih h2 hn2;have hl:=h2.length;simp only[bR,←hoff];rw[hl] at h3;refine⟨by omega,?_⟩;rw[HP,Ed,qm,wz (by omega)] at h4;exact h4
   | idx i size =>
     simp only[IU] at hn;split at hn
     ·rename_i n e l;obtain⟨hb,hn2⟩:=aq hn;have hsz:=dz hb;obtain⟨x,hx,Nj⟩:=bE hn2;obtain⟨h0,hx2⟩:=lX hx;obtain⟨k1,k2,k3⟩:=h;have hr:=k3 _ x hx2;obtain⟨h3,h4⟩:=ih (v:=.data e x) (show bH γ mem w (.data e x) .cells _ from hr) Nj;have hl:=hr.length;have hi:i.toNat<n:=by have:=(List.getElem?_eq_some_iff.1 hx2).1;omega
      have hm:(i.toNat+1)*e.size≤n*e.size:=lT _ hi;rw[rF] at hm;rw[hl] at h3;simp only[bR,hsz];refine⟨by omega,?_⟩;rw[HP,Ed,qm,wz (by omega)] at h4;exact h4
     ·cases hn
theorem lH(cs:List Value)(a b:Nat)(n:Nat)(es:List Value)(h:b+es.length≤n)(hn:a+n≤cs.length) :
  splice cs a (splice ((cs.drop a).take n) b es)=splice cs (a+b) es:=by
 have hl:((cs.drop a).take n).length=n:=by simp;omega
 have hls:(splice ((cs.drop a).take n) b es).length=n:=by rw[b5 (by omega),hl]
 have e1:splice cs a (splice ((cs.drop a).take n) b es)=cs.take a++splice ((cs.drop a).take n) b es++cs.drop (a+n):=by
  rw[splice,hls]
 rw[e1];simp only[splice,nH];rw[Ed,wz (by omega),←nH,←List.take_add]
 congr 1;congr 1
 have:cs.drop (a+n)=(cs.drop a).drop n:=by rw[qm]
 rw[this,←Kp (by rw[hl];exact h),A6,qm,wB]
theorem zB{I:Nat→Nat→Prop}{e:Ty}{n:Nat}{l:List e.den}{cs es:List Value}{i:Nat}{y:e.den}(hl:l.length=n)(hc:n*e.size≤cs.length)
  (h:∀(j:Nat) (x:e.den),l[j]?=some x→bt w I e x ((cs.drop (j*e.size)).take e.size)) (hi:i<n) (hy:bt w I e y es) :
  ∀(j:Nat) (x:e.den),(l.set i y)[j]?=some x→bt w I e x (((splice cs (i*e.size) es).drop (j*e.size)).take e.size):=by
 intro j x hx;have hel:=hy.length;have hm:(i+1)*e.size≤n*e.size:=lT _ hi;rw[rF] at hm;have htl:(cs.take (i*e.size)).length=i*e.size:=by rw[iA];omega
 rw[HL] at hx;split at hx
 ·rename_i hij;subst hij;split at hx
  ·obtain rfl:=ax hx;have:((splice cs (i*e.size) es).drop (i*e.size)).take e.size=es:=by
    rw[splice,nH]
    conv=>lhs;arg 2;arg 1;rw[←htl]
    rw[htl,IK htl,←hel,IM]
   rw[this];exact hy
  ·cases hx
 ·rename_i hij;have hj:j<n:=by have:=(List.getElem?_eq_some_iff.1 hx).1;omega
  have T4:(j+1)*e.size≤n*e.size:=lT _ hj;rw[rF] at T4;have key:((splice cs (i*e.size) es).drop (j*e.size)).take e.size=(cs.drop (j*e.size)).take e.size:=by
   apply D6;intro q;rw[lU,lU];split
   ·rename_i hq;rw[rz,rz,splice];rcases wC j i with h1|h1
    ·have:(j+1)*e.size≤i*e.size:=lT _ h1;rw[rF] at this;rw[nH,M8 (by omega),lU,ek (by omega)]
    ·have:(i+1)*e.size≤j*e.size:=lT _ (by omega);rw[rF] at this;rw[Oq (by rw[pM];omega),rz,pM,htl]
     congr 1;omega
   ·rfl
  rw[key];exact h j x hx
theorem qy:∀{p:List uh} {v u0 u c:ay} {cs es:List Value},bH γ mem w v .cells cs→(IU p v).run=some u0→(o5 p v u).run=some c→bH γ mem w u .cells es→es.length=bY u0 →
  bH γ mem w c .cells (splice cs (bR p) es):=by
 intro p;induction p with
 | nil =>
   intro v u0 u c cs es h hn hs he hl;obtain rfl:=ax hn;obtain rfl:=ax hs;have:=h.length;simp only[bR,splice,Ec,CG,oY];rw[Kr (by omega),A9];exact he
 | cons s p ih =>
   intro v u0 u c cs es h hn hs he hl;cases s with
   | CM k off =>
     simp only[IU] at hn;cases hf:iF v k with
     | none=>rw[hf] at hn;cases hn
     | some r =>
       rw[hf] at hn;obtain⟨hb,hn2⟩:=aq hn;have hoff:=dz hb;obtain⟨h1,h2⟩:=wN h (show iF v k=some (r.1,r.2) from hf);obtain⟨h3,h4⟩:=oC h2 hn2;have FP:=h2.length;rw[FP] at h3;have:=zz (f:=fun w=>o5 p w u) h (show iF v k=some (r.1,r.2) from hf) (fun z hq=>ih (u:=u) h2 hn2 hq he hl) hs (by rw[b5 (by rw[FP,hl];exact h3),FP]);rw[lH cs r.1 (bR p) (bY r.2) es (by omega) h1,hoff] at this;exact this
   | idx i size =>
     simp only[IU] at hn;split at hn
     ·rename_i n e l;obtain⟨hb,hn2⟩:=aq hn;have hsz:=dz hb;obtain⟨x,hx,Nj⟩:=bE hn2;simp only[o5] at hs;obtain⟨x',hx',hs2⟩:=bE hs;obtain rfl:x=x':=ax (hx.symm.trans hx');obtain⟨z,hq,hs3⟩:=bind_some hs2;cases hz:toS e z with
      | none=>rw[hz] at hs3;cases hs3
      | some y =>
        rw[hz] at hs3;obtain rfl:=ax hs3;obtain⟨h0,hx2⟩:=lX hx;obtain⟨k1,k2,k3⟩:=h;have hr:=k3 _ x hx2;have hi:i.toNat<n:=by have:=(List.getElem?_eq_some_iff.1 hx2).1;omega
        have hm:(i.toNat+1)*e.size≤n*e.size:=lT _ hi;rw[rF] at hm;have QA:bH γ mem w (.data e x) .cells ((cs.drop (i.toNat*e.size)).take e.size):=hr;obtain⟨h3,h4⟩:=oC QA Nj;have hrl:=hr.length;rw[hrl] at h3;have RU:=yT hz (ih QA Nj hq he hl);have Kc:(splice ((cs.drop (i.toNat*e.size)).take e.size) (bR p) es).length=e.size:=by rw[b5 (by rw[hrl,hl];exact h3),hrl]
        have e1:=lH cs (i.toNat*e.size) (bR p) e.size es (by omega) (by omega);simp only[bR,hsz];rw[←e1];refine⟨?_,?_,?_⟩
        ·exact(@List.length_set _ (l:List e.den) _ _).trans k1
        ·rw[b5 (by omega)];exact k2
        ·exact zB k1 (by omega) k3 hi RU
     ·cases hn
end
end Go.Ge
namespace Go.Ge
open RowKit
section
variable {B:ld} {γ γ':Gh} {mem mem':Nat→Option aY} {w w':World}
theorem bQ.keep{c:Nat}{bx:aY}(h:bQ γ mem w c bx)(hx:Ext B γ mem w γ' mem' w')(hl:γ'.loc c=γ.loc c)
  (hb:∀blk k,γ.loc c=some (blk,k)→w'.heap[blk]?=w.heap[blk]?):bQ γ' mem' w' c bx:=by
 unfold bQ at h⊢;cases aW:bx.buf with
 | true =>
   rw[aW] at h;obtain⟨e,l,h1,h2,h3⟩:=h;refine⟨e,l,h1,h2,?_⟩;rcases h3 with ⟨h3,h4⟩|⟨blk,cap,cur,tid,fr,h3,h4,h5,ez,h6,h7,h8,h9⟩
   ·exact .inl ⟨hl.trans h3,h4⟩
   ·exact .inr ⟨blk,cap,cur,tid,fr,hl.trans h3,(hb _ _ h3).trans h4,h5,ez,h6,h7,h8,fun i x hi=>bt.mono hx.I hx.cells (h9 i x hi)⟩
 | false =>
   rw[aW] at h;obtain⟨blk,cap,cur,tid,fr,h3,h4,h5,hk,h6⟩:=h;exact⟨blk,cap,cur,tid,fr,hl.trans h3,(hb _ _ h3).trans h4,h5,hk,h6.ext hx⟩
theorem ep{a:Addr}(h:w'.heap[a.block]?=w.heap[a.block]?):w'.cell? a=w.cell? a:=by simp[World.cell?,h]
def bh(γ:Gh)(b:Nat)(L:Option (Nat×Nat)):Gh:={ γ with loc:=fun i=>if i=b then L else γ.loc i }
def bS(mem:Nat→Option aY)(b:Nat)(bx:aY):Nat→Option aY:=fun i=>bif Nat.beq i b then some bx else mem i
theorem aU(b:Nat)(bx:aY):bS mem b bx b=some bx:=by simp[bS]
theorem aB{b c:Nat}(bx:aY)(h:c≠b):bS mem b bx c=mem c:=by simp[bS,fJ h]
theorem mY(h:aV B γ mem w){b:Nat}{bx:aY}{L:Option (Nat×Nat)}(aI:∀cc,mem b=some cc→cc.aj<bx.aj)
  (hw:nD B w w') (hold:∀k,k<w.heap.size→w'.heap[k]?=w.heap[k]?):Ext B γ mem w (bh γ b L) (bS mem b bx) w' where
 below:=hw
 I:=fun _ _ x=>x
 mX:=fun _ _ x=>.inl x
 cells:=fun blk o x=>ep (hold blk (h.mW blk o x))
 boxes:=fun c cx hc=>by
  by_cases e:c=b
  ·subst e;refine⟨bx,aU _ _,KQ (aI _ hc),fun e=>absurd e ?_⟩;have:=aI _ hc;omega
  ·exact⟨cx,by rw[aB _ e];exact hc,kS _,fun _=>⟨by simp[bh,e],rfl,rfl⟩⟩
theorem aV.add(h:aV B γ mem w){b:Nat}{bx:aY}{L:Option (Nat×Nat)}(aI:∀cc,mem b=some cc→cc.aj<bx.aj)
  (hw:nD B w w') (hold:∀k,k<w.heap.size→w'.heap[k]?=w.heap[k]?) (hL:∀blk k,L=some (blk,k)→w.heap.size≤blk∧blk<w'.heap.size)
  (gi:bQ (bh γ b L) (bS mem b bx) w' b bx):aV B (bh γ b L) (bS mem b bx) w' where
 bG:=h.va (mY (L:=L) h aI hw hold)
 base:=jq h.base hw.size
 boxes:=fun c cx hc=>by
  by_cases e:c=b
  ·subst e;rw[aU] at hc;obtain rfl:=ax hc;exact gi
  ·rw[aB _ e] at hc;refine(h.boxes c cx hc).keep (mY h aI hw hold) (by simp[bh,e]) fun blk k hl=>hold blk (h.fresh c blk k (by rw[hc];simp) hl).2
 inj:=fun c d blk k k' hc hd h1 h2=>by
  by_cases e:c=b
  ·by_cases e2:d=b
   ·rw[e,e2]
   ·exfalso;simp only[bh,ek e] at h1;simp only[bh,cT e2] at h2;rw[aB _ e2] at hd;have:=(h.fresh d blk k' hd h2).2;have:=(hL _ _ h1).1;omega
  ·by_cases e2:d=b
   ·exfalso;simp only[bh,cT e] at h1;simp only[bh,ek e2] at h2;rw[aB _ e] at hc;have:=(h.fresh c blk k hc h1).2;have:=(hL _ _ h2).1;omega
   ·simp only[bh,cT e] at h1;simp only[bh,cT e2] at h2;rw[aB _ e] at hc;rw[aB _ e2] at hd;exact h.inj c d blk k k' hc hd h1 h2
 fresh:=fun c blk k hc h1=>by
  by_cases e:c=b
  ·simp only[bh,ek e] at h1;obtain⟨h2,h3⟩:=hL _ _ h1;exact⟨.inl (by have:=h.base;omega),h3⟩
  ·simp only[bh,cT e] at h1;rw[aB _ e] at hc;have:=h.fresh c blk k hc h1;exact⟨this.1,ud this.2 hw.size⟩
 mW:=fun blk off hi=>ud (h.mW blk off hi) hw.size
 sep:=fun c cx blk k off hc h1 hi=>by
  by_cases e:c=b
  ·exfalso;simp only[bh,ek e] at h1;have:=(hL _ _ h1).1;have:=h.mW blk off hi;omega
  ·simp only[bh,cT e] at h1;rw[aB _ e] at hc;exact h.sep c cx blk k off hc h1 hi
theorem cu(w:World)(o:Obj):∀k,k<w.heap.size→(w.alloc o).heap[k]?=w.heap[k]?:=fun k hk=>Below.heap_alloc w o k hk
theorem rP(cs:Array Value):jm cs (0,0):=fun o _ h=>by omega
theorem rQ(e:Ty)(cs:Array Value):MY e cs (0,0):=⟨rP cs,fun _ h=>by omega⟩
theorem aV.newVar(h:aV B γ mem w){b:Nat}{v:ay}{tid:TypeId}{aj:Nat}(aI:∀cc,mem b=some cc→cc.aj<aj){cs:Array Value}(t':TypeId)(ez:tid=0∨t'=tid)(hv:bH γ mem w v .cells cs.toList) :
  let bx:aY:={ val:=v,tid,buf:=false,ro:=false,lk:=false,aj }
  aV B (bh γ b (some (w.heap.size,0))) (bS mem b bx) (w.alloc (.cells cs t'))∧Ext B γ mem w (bh γ b (some (w.heap.size,0))) (bS mem b bx) (w.alloc (.cells cs t')):=by
 intro bx;have hw:nD B w (w.alloc (.cells cs t')):=(nD.refl _ _).alloc h.base _;have hx:=mY (L:=some (w.heap.size,0)) h (bx:=bx) aI hw (cu w _);refine⟨h.add aI hw (cu w _) (fun blk k e=>by obtain⟨rfl,rfl⟩:=cr (ax e);exact⟨kS _,by simp⟩) ?_,hx⟩;exact⟨w.heap.size,0,cs,t',(0,0),by simp[bh],heap_alloc_new w _,rP cs,ez,hv.ext hx⟩
theorem aV.K7(h:aV B γ mem w){b:Nat}{e:Ty}{l:List e.den}{tid:TypeId}{aj cap blk:Nat}(aI:∀cc,mem b=some cc→cc.aj<aj){cs:Array Value}{t':TypeId}{fr:Nat×Nat}(he:0<e.size)
  (hw:nD B w w') (hold:∀k,k<w.heap.size→w'.heap[k]?=w.heap[k]?) (hge:w.heap.size≤blk) (hnew:w'.heap[blk]?=some (.cells cs t' fr)) (Kb:MY e cs fr) (ez:tid=0∨t'=tid)
  (h1:l.length≤cap) (h2:cap≤maxLen) (h3:cs.size=cap*e.size) (h4:∀(i:Nat) (x:e.den),l[i]?=some x→bt w' γ.I e x ((cs.toList.drop (i*e.size)).take e.size)) :
  let bx:aY:={ val:=.data (.slice e) l,tid,buf:=true,ro:=false,lk:=false,aj }
  aV B (bh γ b (some (blk,cap))) (bS mem b bx) w'∧Ext B γ mem w (bh γ b (some (blk,cap))) (bS mem b bx) w':=by
 intro bx;have hlt:blk<w'.heap.size:=(Array.getElem?_eq_some_iff.1 hnew).1;have hx:=mY (L:=some (blk,cap)) h (bx:=bx) aI hw hold;refine⟨h.add aI hw hold (fun c k q=>by obtain⟨rfl,rfl⟩:=cr (ax q);exact⟨hge,hlt⟩) ?_,hx⟩;exact⟨e,l,rfl,he,.inr ⟨blk,cap,cs,t',fr,by simp[bh],hnew,Kb,ez,h1,h2,h3,h4⟩⟩
theorem aV.CV(h:aV B γ mem w){b:Nat}{e:Ty}{l:List e.den}{tid:TypeId}{aj cap:Nat}(aI:∀cc,mem b=some cc→cc.aj<aj){cs:Array Value}{t':TypeId}{fr:Nat×Nat}(he:0<e.size)
  (hw:nD B w w') (hold:∀k,k<w.heap.size→w'.heap[k]?=w.heap[k]?) (hnew:w'.heap[w.heap.size]?=some (.cells cs t' fr)) (Kb:MY e cs fr) (ez:tid=0∨t'=tid)
  (h1:l.length≤cap) (h2:cap≤maxLen) (h3:cs.size=cap*e.size) (h4:∀(i:Nat) (x:e.den),l[i]?=some x→bt w γ.I e x ((cs.toList.drop (i*e.size)).take e.size)) :
  let bx:aY:={ val:=.data (.slice e) l,tid,buf:=true,ro:=false,lk:=false,aj }
  aV B (bh γ b (some (w.heap.size,cap))) (bS mem b bx) w'∧Ext B γ mem w (bh γ b (some (w.heap.size,cap))) (bS mem b bx) w' :=
 h.K7 aI he hw hold (kS _) hnew Kb ez h1 h2 h3 fun i x hi =>
  bt.mono (fun _ _ q=>q) (fun blk o q=>ep (hold blk (h.mW blk o q))) (h4 i x hi)
theorem aV.zC(h:aV B γ mem w){b:Nat}{e:Ty}{tid:TypeId}{aj:Nat}(aI:∀cc,mem b=some cc→cc.aj<aj)(he:0<e.size) :
  let bx:aY:={ val:=.data (.slice e) ([]:List e.den),tid,buf:=true,ro:=false,lk:=false,aj }
  aV B (bh γ b none) (bS mem b bx) w∧Ext B γ mem w (bh γ b none) (bS mem b bx) w:=by
 intro bx;have hx:=mY (L:=none) h (bx:=bx) aI (nD.refl B w) (fun _ _=>rfl);refine⟨h.add aI (nD.refl B w) (fun _ _=>rfl) (fun blk k e=>by cases e) ?_,hx⟩;exact⟨e,[],rfl,he,.inl ⟨by simp[bh],rfl⟩⟩
theorem vg{bx:aY}{off:Nat}(h:Ga bx off)(hro:bx.ro=false):False:=by rw[Ga,hro] at h;exact absurd h.1 (by simp)
theorem aV.write(h:aV B γ mem w){b:Nat}{bx:aY}(hb:mem b=some bx)(hro:bx.ro=false){blk k:Nat}(hl:γ.loc b=some (blk,k)){cur cur':Array Value}{t:TypeId}{fr:Nat×Nat}
  (hg:w.heap[blk]?=some (.cells cur t fr)) (hs:cur'.size=cur.size) {v:ay} (hrow:({ bx with val:=v }:aY).row=bx.row)
  (gi:∀w' mem',Ext B γ mem w γ mem' w'→w'.heap[blk]?=some (.cells cur' t fr)→bQ γ mem' w' b { bx with val:=v }) :
  aV B γ (bS mem b { bx with val:=v }) (w.setRow blk cur')∧Ext B γ mem w γ (bS mem b { bx with val:=v }) (w.setRow blk cur'):=by
 have hf:=h.fresh b blk k (by rw[hb];simp) hl;have I4:=setRow_heap w blk cur cur' t fr hg;have o8:∀i,i≠blk→(w.setRow blk cur').heap[i]?=w.heap[i]?:=fun i hi=>setRow_other w blk i cur' (fun e=>hi e);have hx:Ext B γ mem w γ (bS mem b { bx with val:=v }) (w.setRow blk cur') :=
  { below:=⟨rfl,rfl,rfl,by simp,fun i hi=>o8 i (fun e=>hi (by rw[e];exact hf.1))⟩
    I:=fun _ _ x=>x
    mX:=fun _ _ x=>.inl x
    cells:=fun c o x=>by
     by_cases e:c=blk
     ·subst e;exact(vg (h.sep b bx c k o hb hl x) hro).elim
     ·exact ep (o8 c e)
    boxes:=fun c cx hc=>by
     by_cases e:c=b
     ·subst e;obtain rfl:cx=bx:=ax (hc.symm.trans hb);exact⟨_,aU _ _,kS _,fun _=>⟨rfl,rfl,hrow⟩⟩
     ·exact⟨cx,by rw[aB _ e];exact hc,kS _,fun _=>⟨rfl,rfl,rfl⟩⟩ }
 refine⟨?_,hx⟩;exact
  { bG:=h.va hx
    base:=by have:=h.base;simpa using this
    boxes:=fun c cx hc=>by
     by_cases e:c=b
     ·subst e;rw[aU] at hc;obtain rfl:=ax hc;exact gi _ _ hx I4
     ·rw[aB _ e] at hc;refine(h.boxes c cx hc).keep hx rfl fun cB k' hl'=>o8 cB fun e2=>e ?_;subst e2;exact h.inj c b cB k' k (by rw[hc];simp) (by rw[hb];simp) hl' hl
    inj:=fun c d cB k1 k2 hc hd h1 h2=>h.inj c d cB k1 k2 (by
     by_cases e:c=b
     ·subst e;rw[hb];simp
     ·rwa [aB _ e] at hc) (by
     by_cases e:d=b
     ·subst e;rw[hb];simp
     ·rwa [aB _ e] at hd) h1 h2
    fresh:=fun c cB k' hc h1=>by
     have:=h.fresh c cB k' (by
      by_cases e:c=b
      ·subst e;rw[hb];simp
      ·rwa [aB _ e] at hc) h1
     exact⟨this.1,by simpa using this.2⟩
    mW:=fun cB off hi=>by have:=h.mW cB off hi;simpa using this
    sep:=fun c cx cB k' off hc h1 hi=>by
     by_cases e:c=b
     ·subst e;rw[hl] at h1;obtain⟨rfl,rfl⟩:=cr (ax h1);exact(vg (h.sep c bx blk k off hb hl hi) hro).elim
     ·rw[aB _ e] at hc;exact h.sep c cx cB k' off hc h1 hi }
def zD(γ:Gh)(b:Nat)(n:Nat):Gh:={ γ with I:=fun blk off=>γ.I blk off∨((∃k,γ.loc b=some (blk,k))∧off<n) }
theorem aV.freeze(h:aV B γ mem w){b:Nat}{bx:aY}(hb:mem b=some bx){e:Ty}{n:Nat}(hrow:bx.row=some (e,n)) :
  aV B (zD γ b (n*e.size)) (bS mem b { bx with ro:=true }) w∧Ext B γ mem w (zD γ b (n*e.size)) (bS mem b { bx with ro:=true }) w:=by
 have hx:Ext B γ mem w (zD γ b (n*e.size)) (bS mem b { bx with ro:=true }) w :=
  { below:=nD.refl _ _
    I:=fun _ _ x=>.inl x
    mX:=fun blk o x=>by
     rcases x with x|⟨⟨k,x⟩,_⟩
     ·exact .inl x
     ·exact .inr (h.fresh b blk k (by rw[hb];simp) x).1
    cells:=fun _ _ _=>rfl
    boxes:=fun c cx hc=>by
     by_cases e:c=b
     ·subst e;obtain rfl:cx=bx:=ax (hc.symm.trans hb);exact⟨_,aU _ _,kS _,fun _=>⟨rfl,rfl,rfl⟩⟩
     ·exact⟨cx,by rw[aB _ e];exact hc,kS _,fun _=>⟨rfl,rfl,rfl⟩⟩ }
 refine⟨?_,hx⟩;exact
  { bG:=h.va hx
    base:=h.base
    boxes:=fun c cx hc=>by
     by_cases e:c=b
     ·subst e;rw[aU] at hc;obtain rfl:=ax hc;have:=(h.boxes c bx hb).keep hx rfl (fun _ _ _=>rfl);exact this
     ·rw[aB _ e] at hc;exact(h.boxes c cx hc).keep hx rfl (fun _ _ _=>rfl)
    inj:=fun c d cB k1 k2 hc hd h1 h2=>h.inj c d cB k1 k2 (by
     by_cases e:c=b
     ·subst e;rw[hb];simp
     ·rwa [aB _ e] at hc) (by
     by_cases e:d=b
     ·subst e;rw[hb];simp
     ·rwa [aB _ e] at hd) h1 h2
    fresh:=fun c cB k' hc h1=>h.fresh c cB k' (by
     by_cases e:c=b
     ·subst e;rw[hb];simp
     ·rwa [aB _ e] at hc) h1
    mW:=fun cB off hi=>by
     rcases hi with hi|⟨⟨k,hk⟩,_⟩
     ·exact h.mW cB off hi
     ·exact(h.fresh b cB k (by rw[hb];simp) hk).2
    sep:=fun c cx cB k' off hc h1 hi=>by
     by_cases e':c=b
     ·subst e';rw[aU] at hc;obtain rfl:=ax hc;rcases hi with hi|⟨⟨k,hk⟩,ho⟩
      ·obtain⟨a1,a2⟩:=h.sep c bx cB k' off hb h1 hi;exact⟨rfl,a2⟩
      ·refine⟨rfl,fun _ u m hr=>?_⟩;have hr':bx.row=some (u,m):=hr;rw[hrow] at hr';obtain⟨rfl,rfl⟩:=cr (ax hr');exact ho
     ·rw[aB _ e'] at hc;rcases hi with hi|⟨⟨k,hk⟩,ho⟩
      ·exact h.sep c cx cB k' off hc h1 hi
      ·exact absurd (h.inj c b cB k' k (by rw[hc];simp) (by rw[hb];simp) h1 hk) e' }
end
end Go.Ge
namespace Go.Ge
open RowKit
def jn(P:Program)(B:ld)(N:Nat)(γ:Gh)(σ:St)(a:Act)(w:World)(d:Option Nat)(s:Sem Value)(σ':St):Prop :=
 ∃v w' γ',s.run P w=.ok v w'∧bZ B N γ' σ' (a.put d v) w'∧Ext B γ σ.mem w γ' σ'.mem w'
section
variable {P:Program} {B:ld} {N:Nat} {γ:Gh} {σ σ':St} {a:Act} {w:World} {d:Option Nat}
theorem bk(h:bZ B N γ σ a w)(hd:∀k,d=some k→k<N){s:Sem Value}{v:ay}{x:Value}(hs:s.run P w=.ok x w)(hv:bH γ σ.mem w v .val [x]) :
  jn P B N γ σ a w d s (σ.aD d v) :=
 ⟨x,w,γ,hs,h.nR hd hv,by cases d<;>exact Ext.refl _ _ _ _⟩
theorem cv{β:Type}{b:Nat}{val:ay}{tid:TypeId}{buf:Bool}{k:Nat→St→Tree β}{y:β}(h:(σ.aA b val tid buf k).run=some y) :
  ∃aj,(∀cc,σ.mem b=some cc→cc.aj<aj)∧(k aj (σ.bJ b { val,tid,buf,ro:=false,lk:=false,aj })).run=some y:=by
 unfold St.aA at h;split at h
 ·rename_i bx hb;cases hl:bx.lk with
  | true=>rw[hl] at h;cases h
  | false =>
    rw[hl] at h;exact⟨bx.aj+1,(fun cc h0=>by rw[hb] at h0;obtain rfl:=ax h0;omega),h⟩
 ·rename_i hb;exact⟨0,(fun cc h0=>by rw[hb] at h0;cases h0),h⟩
theorem nS(σ:St)(b:Nat)(bx:aY):(σ.bJ b bx).mem=bS σ.mem b bx:=rfl
theorem cZ{mem:Nat→Option aY}{b aj:Nat}{bx:aY}(h:mem b=some bx)(hv:bx.aj=aj){K:aY→Prop}(hk:K bx):iH mem b aj K :=
 ⟨bx,h,by omega,fun _=>hk⟩
theorem pW{cx:Ctx}(hc:eo P cx){nb:Nat}{bf:List Nat}{ty:TypeId}{x:Operand}(h:bZ B N γ σ a w)(hd:∀k,d=some k→k<N)
  (hr:(gm cx nb bf d ty (bN σ x) σ).run=some σ'):jn P B N γ σ a w d (pure (a.eval x)) σ':=by
 have hv:=h.bN x;unfold gm at hr;split at hr
 ·rename_i hn;rw[hn] at hv;obtain⟨_,hr⟩:=aq hr;obtain rfl:=ax hr;exact bk h hd rfl hv
 ·rename_i hn;rw[hn] at hv;have hx:a.eval x=.slice none 0 0:=by simpa [bH] using hv
  split at hr
  ·rename_i k e hT;cases hb:b6 bf k with
   | true =>
     rw[hb] at hr;simp only[jk] at hr;obtain⟨aj,aI,hr2⟩:=cv hr;obtain rfl:=ax hr2;obtain⟨cq,h1,h2,h3,h4⟩:=(hc.T _ _ hT).slice;obtain⟨m1,m2⟩:=h.ok.zC (tid:=0) aI h4;refine⟨_,w,_,rfl,h.step m2 m1 (hd k rfl) ?_,m2⟩;rw[hx];exact⟨⟨_,rfl,rfl⟩,cZ (aU _ _) rfl ⟨e,0,rfl,rfl,.inl ⟨by simp[bh],rfl⟩⟩⟩
   | false =>
     rw[hb] at hr;obtain rfl:=ax hr;exact bk (d:=some k) h hd rfl (by rw[hx];exact⟨_,.inl ⟨⟨none,rfl⟩,rfl⟩,rfl⟩)
  ·obtain rfl:=ax hr;exact bk h hd rfl (by rw[hx];rfl)
 ·obtain rfl:=ax hr;exact bk h hd rfl hv
theorem qz{b:Bool}{v:Value}(h:bH γ σ.mem w (.data .bool b) .val [v]):v=.bool b:=by
 obtain⟨cs,h1,h2⟩:=cC.1 h;rw[h2,show cs=_ from h1];rfl
theorem mK{k:IntKind}{n:Int}{v:Value}(h:bH γ σ.mem w (.data (.int k) n) .val [v]):v=.int k n∧k.min≤n∧n≤k.max:=by
 obtain⟨cs,h1,h2⟩:=cC.1 h;rw[h2,h1.1];exact⟨rfl,h1.2⟩
theorem o9{s:List UInt8}{v:Value}(h:bH γ σ.mem w (.data .str s) .val [v]):v=.string ⟨s.toArray⟩∧s.length≤maxLen:=by
 obtain⟨cs,h1,h2⟩:=cC.1 h;rw[h2,h1.1];exact⟨rfl,h1.2⟩
theorem eM(b:Bool):bH γ σ.mem w (.data .bool b) .val [.bool b]:=⟨_,rfl,rfl⟩
theorem mkInt{k:IntKind}{n:Int}(h:k.min≤n∧n≤k.max):bH γ σ.mem w (.data (.int k) n) .val [.int k n]:=⟨_,⟨rfl,h.1,h.2⟩,rfl⟩
theorem mkStr{s:List UInt8}(h:s.length≤maxLen):bH γ σ.mem w (.data .str s) .val [.string ⟨s.toArray⟩]:=⟨_,⟨rfl,h⟩,rfl⟩
theorem zE{c x y:Operand}(h:bZ B N γ σ a w)(hd:∀k,d=some k→k<N)(hr:(ju d (bN σ c) (bN σ x) (bN σ y) σ).run=some σ') :
  jn P B N γ σ a w d (do pure (if ←asBool (a.eval c) then a.eval x else a.eval y)) σ':=by
 have hc:=h.bN c;have hx:=h.bN x;have hy:=h.bN y;unfold ju at hr;split at hr
 ·rename_i cb hcb;rw[hcb] at hc;have Nk:a.eval c=.bool cb:=qz hc;have hrun:(do pure (if ←asBool (a.eval c) then a.eval x else a.eval y):Sem Value).run P w=.ok (if(show Bool from cb)=true then a.eval x else a.eval y) w:=by
   rw[Nk];cases cb<;>rfl
  split at hr
  ·rename_i t x1 u y1 hx1 hy1;rw[hx1] at hx;rw[hy1] at hy;split at hr
   ·rename_i y2 A4;obtain rfl:=ax hr;obtain⟨e,e2⟩:=Ty.gL A4;subst e;subst e2;refine bk h hd hrun ?_;cases cb
    ·exact hy
    ·exact hx
   ·cases hr
  ·have hr2:=eI hr;cases cb
   ·obtain rfl:=ax hr2;exact bk h hd hrun hy
   ·obtain rfl:=ax hr2;exact bk h hd hrun hx
 ·cases hr
theorem dQ(k:IntKind)(n:Int):k.min≤k.wrap n∧k.wrap n≤k.max:=wrap_within k n
theorem Nl{k:IntKind}{x y:Int}(h:k.min≤x∧x≤k.max):k.min≤x.tmod y∧x.tmod y≤k.max:=by
 have hmin:k.min≤0:=by cases k<;>decide
 have hmax:0≤k.max:=by cases k<;>decide
 have hab:(x.tmod y).natAbs≤x.natAbs:=by
  rw[Int.natAbs_tmod];exact Nat.mod_le _ _
 rcases Int.le_total 0 x with h0|h0
 ·have:=Int.tmod_nonneg y h0;omega
 ·have:x.tmod y≤0:=by
   have:=Int.tmod_nonneg y (show 0≤-x by omega);rw[Int.neg_tmod] at this;omega
  omega
theorem Nn{k:IntKind}{x:Int}(n:Nat)(h:k.min≤x∧x≤k.max):k.min≤x.fdiv (2 ^ n)∧x.fdiv (2 ^ n)≤k.max:=by
 have hmin:k.min≤0:=by cases k<;>decide
 have hmax:0≤k.max:=by cases k<;>decide
 have hp:(0:Int)<2 ^ n:=Int.pow_pos (by decide);have e:x.fdiv (2 ^ n)=x / 2 ^ n:=Int.fdiv_eq_ediv_of_nonneg _ (by omega);rw[e];rcases Int.le_total 0 x with h0|h0
 ·have h1:=Int.ediv_nonneg h0 (Int.le_of_lt hp);have h2:=Int.ediv_le_self (2 ^ n:Int) h0;omega
 ·have h2:x / 2 ^ n<1:=Int.ediv_lt_of_lt_mul hp (by omega);have h3:x≤x / 2 ^ n:=by
   rw[Int.le_ediv_iff_mul_le hp];have h1:(1:Int)≤2 ^ n:=hp;have:=Int.mul_le_mul_of_nonpos_left h0 h1;simpa using this
  omega
theorem CW{op:BinOp}{l:Bool}(h:uS op=some l):(op=.shl∧l=true)∨(op=.shr∧l=false):=by
 cases op<;>simp[uS] at h<;>simp[h]
theorem lf{op:BinOp}{l:Bool}(h:isEq op=some l):(op=.eql∧l=true)∨(op=.neq∧l=false):=by
 cases op<;>simp[isEq] at h<;>simp[h]
def eV(op:BinOp)(xt:TypeId)(x y:Operand)(u v:Value):Sem Value:=do eqGuard op xt x y u v;binOp op xt u v
theorem CX{op:BinOp}{k:IntKind}{n m:Int}{v:ay}{xt:TypeId}{x y:Operand}(hn:k.min≤n∧n≤k.max)(hs:uS op=none)(hr:(F4 op k n m).run=some v) :
  ∃r,(eV op xt x y (.int k n) (.int k m)).run P w=.ok r w∧bH γ σ.mem w v .val [r]:=by
 unfold eV;cases op<;>simp only[eqGuard_at_int,Sem.run_bind,Sem.run_pure,Result.andThen_ok]<;>simp only[F4] at hr
 case add=>obtain rfl:=ax hr;exact⟨.int k (bA k n m),by simp only[binOp_add,Op.intArith,Sem.run_pure];rfl,mkInt (dQ _ _)⟩
 case sub=>obtain rfl:=ax hr;exact⟨.int k (dn k n m),by simp only[binOp_sub,Op.intArith,Sem.run_pure];rfl,mkInt (dQ _ _)⟩
 case mul=>obtain rfl:=ax hr;exact⟨.int k (iB k n m),by simp only[binOp_mul,Op.intArith,Sem.run_pure];rfl,mkInt (dQ _ _)⟩
 case quo =>
  have hr2:=eI hr;cases hz:b9 m 0
  ·rw[hz] at hr2;obtain rfl:=ax hr2;have hm:m≠0:=by simpa [b9] using hz
   exact⟨.int k (ug k n m),by simp only[binOp_quo,Op.intDiv,cT hm,Sem.run_pure];rfl,mkInt (dQ _ _)⟩
  ·rw[hz] at hr2;cases hr2
 case rem =>
  have hr2:=eI hr;cases hz:b9 m 0
  ·rw[hz] at hr2;obtain rfl:=ax hr2;have hm:m≠0:=by simpa [b9] using hz
   exact⟨.int k (gJ n m),by simp only[binOp_rem,Op.intDiv,cT hm,Sem.run_pure];rfl,mkInt (Nl hn)⟩
  ·rw[hz] at hr2;cases hr2
 case and=>obtain rfl:=ax hr;exact⟨.int k (ja k n m),by simp only[binOp_and,intBits_and,Sem.run_pure];rfl,mkInt (dQ _ _)⟩
 case or=>obtain rfl:=ax hr;exact⟨.int k (pO k n m),by simp only[binOp_or,intBits_or,Sem.run_pure];rfl,mkInt (dQ _ _)⟩
 case xor=>obtain rfl:=ax hr;exact⟨.int k (ew k n m),by simp only[binOp_xor,intBits_xor,Sem.run_pure];rfl,mkInt (dQ _ _)⟩
 case andNot=>obtain rfl:=ax hr;exact⟨.int k (OE k n m),by simp only[binOp_andNot,intBits_andNot,Sem.run_pure];rfl,mkInt (dQ _ _)⟩
 case shl=>cases hs
 case shr=>cases hs
 case eql=>obtain rfl:=ax hr;exact⟨.bool (b9 n m),by simp[binOp,Op.intCmp,b9];rfl,eM _⟩
 case neq=>obtain rfl:=ax hr;exact⟨.bool (nt (b9 n m)),by simp[binOp,Op.intCmp,b9,nt];rfl,eM _⟩
 case lss=>obtain rfl:=ax hr;exact⟨.bool (fE n m),by simp[binOp,Op.intCmp,fE],eM _⟩
 case leq=>obtain rfl:=ax hr;exact⟨.bool (yI n m),by simp[binOp,Op.intCmp,yI],eM _⟩
 case gtr=>obtain rfl:=ax hr;exact⟨.bool (fE m n),by simp[binOp,Op.intCmp,fE],eM _⟩
 case geq=>obtain rfl:=ax hr;exact⟨.bool (yI m n),by simp[binOp,Op.intCmp,yI],eM _⟩
theorem fP(s:List UInt8):(⟨s.toArray⟩:ByteArray).toList=s:=by rw[ByteArray.toList_eq]
theorem Gc(s t:List UInt8):(s==t)=ig s t:=by rw[Bool.eq_iff_iff];simp[ig]
theorem CY{op:BinOp}{s t:List UInt8}{v:ay}{xt:TypeId}{x y:Operand}(hr:(F5 op s t).run=some v) :
  ∃r,(eV op xt x y (.string ⟨s.toArray⟩) (.string ⟨t.toArray⟩)).run P w=.ok r w∧bH γ σ.mem w v .val [r]:=by
 unfold eV;cases op<;>simp only[eqGuard_at_string,Sem.run_bind,Sem.run_pure,Result.andThen_ok]<;>simp only[F5] at hr<;>try (cases hr;done)
 case add =>
  obtain⟨hf,hr2⟩:=bK hr;obtain rfl:=ax hr2;have hl:s.length+t.length≤4294967296:=by have h2:plus (len s) (len t)≤4294967296:=wq hf;simp only[plus,len] at h2;omega
  refine⟨.string ⟨(s++t).toArray⟩,?_,mkStr (by simp only[app,pM,maxLen];omega)⟩;have hsz:∀l:List UInt8,(⟨l.toArray⟩:ByteArray).size=l.length:=fun l=>rfl;have:¬(((s.length+t.length:Nat):Int) > IntKind.i64.max):=by rw[IntKind.max_i64];omega
  simp only[binOp,Op.stringOp,hsz,this,wD,Sem.run_pure]
  congr 2
 case eql=>obtain rfl:=ax hr;exact⟨.bool (ig s t),by simp only[binOp,Op.stringOp,fP,Gc,Sem.run_pure],eM _⟩
 case neq=>obtain rfl:=ax hr;exact⟨.bool (nt (ig s t)),by simp only[binOp,Op.stringOp,fP,Gc,Sem.run_pure];rfl,eM _⟩
 case lss=>obtain rfl:=ax hr;exact⟨.bool (OD s t),by simp only[binOp,Op.stringOp,fP,Gc,Sem.run_pure];rfl,eM _⟩
 case leq=>obtain rfl:=ax hr;exact⟨.bool (Rt (OD s t) (ig s t)),by simp only[binOp,Op.stringOp,fP,Gc,Sem.run_pure];rfl,eM _⟩
 case gtr=>obtain rfl:=ax hr;exact⟨.bool (nt (Rt (OD s t) (ig s t))),by simp only[binOp,Op.stringOp,fP,Gc,Sem.run_pure];rfl,eM _⟩
 case geq=>obtain rfl:=ax hr;exact⟨.bool (nt (OD s t)),by simp only[binOp,Op.stringOp,fP,Gc,Sem.run_pure];rfl,eM _⟩
theorem Es{op:BinOp}{left:Bool}{k k':IntKind}{n m:Int}{xt:TypeId}{x y:Operand}(hn:k.min≤n∧n≤k.max)(hs:uS op=some left)(h0:fE m 0=false) :
  ∃r,(eV op xt x y (.int k n) (.int k' m)).run P w=.ok r w∧bH γ σ.mem w (.data (.int k) (bif left then iC k n m else ow k n m)) .val [r]:=by
 have h1:¬m<0:=by simpa [fE] using h0
 unfold eV;rcases CW hs with ⟨rfl,rfl⟩|⟨rfl,rfl⟩
 ·exact⟨.int k (iC k n m),by simp only[eqGuard_shl,binOp_shl,Op.shift,cT h1,Sem.run_bind,Sem.run_pure,Result.andThen_ok];rfl,mkInt (dQ _ _)⟩
 ·exact⟨.int k (ow k n m),by simp only[eqGuard_shr,binOp_shr,Op.shift,cT h1,Sem.run_bind,Sem.run_pure,Result.andThen_ok];rfl,mkInt (Nn _ hn)⟩
theorem sO{t:Ty}{tid:TypeId}(ht:Den P t tid){cs:Array Value}{off:Nat}(h:off+t.size≤cs.size)(h1:t.isAgg=false→t.size=1) :
  (part tid cs off).run P w=.ok (bO t ((cs.toList.drop off).take t.size)) w:=by
 unfold part;rw[Sem.run_bind,ht.agg w,Result.andThen_ok];cases hag:t.isAgg with
 | true =>
   simp only[jr,Sem.run_bind,ht.sizeOf w,Result.andThen_ok,Sem.run_pure,bO,hag,jk]
   congr 2
   apply Eg;simp
 | false =>
   have hs:=h1 hag;simp only[cT (show ¬(false=true) by simp),bO,hag,gj,hs];have hlt:off<cs.size:=by omega
   have e:(cs.toList.drop off).take 1=[cs[off]]:=by
    apply D6;intro i;rw[lU];cases i with
    | zero=>simp[hlt]
    | succ i=>simp
   rw[e];simp[hlt]
theorem lY:∀{t:Ty},t.isAgg=false→t.size=1:=by
 intro t h;induction t with
 | alt u a r gy ihr=>exact ihr h
 | arr|pair|unit=>cases h
 | _=>rfl
theorem Et(t:Ty):1≤t.uR:=by cases t<;>simp[Ty.uR]
theorem tE{γ:Gh}{w:World}:∀(t:Ty),(∀(d:Nat) (tid:TypeId) (x y:t.den) (cx cy:List Value) (c:Bool),Den P t tid→bt w γ.I t x cx→bt w γ.I t y cy→Ty.eqv t x y=some c→t.uR<d →
   (Op.equalIn d tid (bO t cx) (bO t cy)).run P w=.ok c w) ∧
  (∀(d off:Nat) (fs:List Field) (x y:t.den) (cx cy:List Value) (xs ys:Array Value) (c:Bool),jV P t off fs→bt w γ.I t x cx→bt w γ.I t y cy→Ty.eqv t x y=some c→t.uR<d →
   xs.toList.drop off=cx→ys.toList.drop off=cy→off≤xs.size→off≤ys.size→(Op.eqFields d xs ys fs).run P w=.ok c w):=by
 intro t;induction t with
 | int k =>
   refine⟨fun d tid x y cx cy c hd hx hy he hs=>?_,fun d off fs x y cx cy xs ys c hd=>by simp[jV,eE] at hd⟩;obtain⟨d,rfl⟩:∃e,d=e+1:=⟨d-1,by omega⟩;rw[hx.1,hy.1];obtain rfl:=ax he;show(Op.equalIn (d+1) tid (.int k x) (.int k y)).run P w=_
   rw[run_equalIn_int w d tid k k x y hd.int]
   congr 1
 | bool =>
   refine⟨fun d tid x y cx cy c hd hx hy he hs=>?_,fun d off fs x y cx cy xs ys c hd=>by simp[jV,eE] at hd⟩;obtain⟨d,rfl⟩:∃e,d=e+1:=⟨d-1,by omega⟩;rw[show cx=_ from hx,show cy=_ from hy];obtain rfl:=ax he;exact run_equalIn_bool' w d tid x y hd.bool
 | str =>
   refine⟨fun d tid x y cx cy c hd hx hy he hs=>?_,fun d off fs x y cx cy xs ys c hd=>by simp[jV,eE] at hd⟩;obtain⟨d,rfl⟩:∃e,d=e+1:=⟨d-1,by omega⟩;rw[hx.1,hy.1];obtain rfl:=ax he;have h1:=run_equalIn_string (P:=P) w d tid ⟨List.toArray (α:=UInt8) x⟩ ⟨List.toArray (α:=UInt8) y⟩ hd.str;rw[fP (show List UInt8 from x),fP (show List UInt8 from y),Gc] at h1;exact h1
 | slice e ih=>exact⟨(fun d tid x y cx cy c hd hx hy he=>by cases he),(fun d off fs x y cx cy xs ys c hd=>by simp[jV,eE] at hd)⟩
 | alt u a r gy ihr=>exact⟨(fun d tid x y cx cy c hd hx hy he=>by cases he),(fun d off fs x y cx cy xs ys c hd=>by simp[jV,eE] at hd)⟩
 | td=>exact⟨(fun d tid x y cx cy c hd hx hy he=>by cases he),(fun d off fs x y cx cy xs ys c hd=>by simp[jV,eE] at hd)⟩
 | arr n e ih =>
   refine⟨fun d tid x y cx cy c hd hx hy he hs=>?_,(fun d off fs x y cx cy xs ys c hd=>by simp[jV,eE] at hd)⟩;cases e with
   | int k =>
     obtain⟨d,rfl⟩:∃e,d=e+1:=⟨d-1,by omega⟩;obtain⟨d,rfl⟩:∃e,d=e+1:=⟨d-1,by have:(Ty.arr n (.int k)).uR=1+1:=rfl;omega⟩;obtain rfl:=ax he;obtain⟨cq,k1,k2,k3⟩:=hd.arr;obtain⟨i,z,i1,i2,_,_⟩:=k2.info;have hcell:=k2.cells;show(Op.equalIn (d+1+1) tid (.agg cx.toArray) (.agg cy.toArray)).run P w=_
     rw[run_equalIn_array w (d+1) cx.toArray cy.toArray k1 i1,hcell];obtain⟨hxl,RV,OJ⟩:=hx;obtain⟨Tk,Np,Qc⟩:=hy;have hz:(Ty.int k).size=1:=rfl;rw[hz] at RV OJ Np Qc⊢;rw[F0] at RV Np;change List Int at x y;have item:∀is:List Nat,(∀i∈is,i<n)→(Op.eqItems (d+1) cq 1 cx.toArray cy.toArray is).run P w=.ok (is.all fun i=>decide (x[i]?=y[i]?)) w:=by
      intro is;induction is with
      | nil=>intro _;rfl
      | cons i is T6 =>
        intro hi;have hin:=hi i (nG ..);obtain⟨a,Qd⟩:∃a,x[i]?=some a:=⟨_,qV (by rw[show x.length=n from hxl];exact hin)⟩;obtain⟨b,Tl⟩:∃a,y[i]?=some a:=⟨_,qV (by rw[show y.length=n from Tk];exact hin)⟩;have px:=sO (w:=w) k2 (cs:=cx.toArray) (off:=i*1) (by rw[hz];simp[RV];omega) (fun _=>hz);have py:=sO (w:=w) k2 (cs:=cy.toArray) (off:=i*1) (by rw[hz];simp[Np];omega) (fun _=>hz);have ex:=(OJ i _ Qd).1;have ey:=(Qc i _ Tl).1;rw[hz] at px py;rw[show cx.toArray.toList=cx from rfl,ex] at px;rw[show cy.toArray.toList=cy from rfl,ey] at py;simp only[Op.eqItems,Sem.run_bind,px,py,Result.andThen_ok];have heq:=run_equalIn_int w d cq k k a b k2.int;simp only[bO,Ty.isAgg,gj,List.headD_cons,heq,jr,Result.andThen_ok,Qd,Tl,List.all_cons];cases hb:(a==b) with
        | true =>
          have hxy:a=b:=by simpa using hb
          simp only[Bool.not_true,FY,wD,hxy,F1,Bool.true_and];exact T6 fun j hj=>hi j (nF _ hj)
        | false =>
          have hxy:¬a=b:=by simpa using hb
          simp[hxy]
     rw[item _ fun i hi=>List.mem_range.1 hi]
     congr 1
     unfold Ti;rw[Bool.eq_iff_iff,yb];simp only[List.mem_range,A8];constructor
     ·intro h;apply D6;intro i;by_cases hin:i<n
      ·exact h i hin
      ·rw[IG (by rw[show x.length=n from hxl];omega),IG (by rw[show y.length=n from Tk];omega)]
     ·intro h i _;exact congrArg (fun l=>l[i]?) h
   | _=>cases he
 | unit =>
   refine⟨(fun d tid x y cx cy c hd=>by simp[Den,eE] at hd),fun d off fs x y cx cy xs ys c hd hx hy he hs h1 h2 h3 h4=>?_⟩;cases fs with
   | nil=>obtain rfl:=ax he;rfl
   | cons f r=>simp[jV,eE] at hd
 | pair a b gy iu =>
   have key:(∀(d off:Nat) (fs:List Field) (x y:(Ty.pair a b).den) (cx cy:List Value) (xs ys:Array Value) (c:Bool),jV P (.pair a b) off fs→bt w γ.I (.pair a b) x cx→bt w γ.I (.pair a b) y cy→Ty.eqv (.pair a b) x y=some c→(Ty.pair a b).uR<d+1 →
    xs.toList.drop off=cx→ys.toList.drop off=cy→off≤xs.size→off≤ys.size→(Op.eqFields d xs ys fs).run P w=.ok c w):=by
    intro d off fs x y cx cy xs ys c hd hx hy he hs h1 h2 h3 h4;obtain⟨f,r,rfl,k1,k2,k3,k4,k5⟩:=hd.cons;obtain⟨x1,x2,OJ,hx1,hx2⟩:=hx;obtain⟨y1,y2,Qc,hy1,A4⟩:=hy;simp only[Ty.eqv] at he;cases Rv:Ty.eqv a x.1 y.1 with
    | none=>rw[Rv] at he;cases he
    | some p =>
      cases RW:Ty.eqv b x.2 y.2 with
      | none=>rw[Rv,RW] at he;cases he
      | some q =>
        rw[Rv,RW] at he;obtain rfl:=ax he;have Tm:=hx1.length;have Tn:=hy1.length;have lx:xs.size-off=x1.length+x2.length:=by
         have:=congrArg List.length (h1.trans OJ);simpa using this
        have ly:ys.size-off=y1.length+y2.length:=by
         have:=congrArg List.length (h2.trans Qc);simpa using this
        have px:=sO (w:=w) k3 (cs:=xs) (off:=f.offset) (by omega) lY;have py:=sO (w:=w) k3 (cs:=ys) (off:=f.offset) (by omega) lY;have ex:(xs.toList.drop f.offset).take a.size=x1:=by rw[k1,h1,OJ,←Tm,IM]
        have ey:(ys.toList.drop f.offset).take a.size=y1:=by rw[k1,h2,Qc,←Tn,IM]
        rw[ex] at px;rw[ey] at py;have hsz:(Ty.pair a b).uR=a.uR+b.uR+1:=rfl;have Vx:=Et a;have hrb:=Et b;have heq:=gy.1 d f.type x.1 y.1 x1 y1 p k3 hx1 hy1 Rv (by omega);simp only[Op.eqFields,ek k2,Sem.run_bind,px,py,heq,Result.andThen_ok];cases p with
        | false=>simp[an]
        | true =>
          simp only[Bool.not_true,FY,wD];rw[iu.2 d (off+a.size) r x.2 y.2 x2 y2 xs ys q k5 hx2 A4 RW (by omega) (by rw[←qm,h1,OJ,←Tm,ue]) (by rw[←qm,h2,Qc,←Tn,ue]) (by omega) (by omega)];simp[an]
   refine⟨fun d tid x y cx cy c hd hx hy he hs=>?_,fun d off fs x y cx cy xs ys c hd hx hy he hs=>key d off fs x y cx cy xs ys c hd hx hy he (by omega)⟩;obtain⟨d,rfl⟩:∃e,d=e+1:=⟨d-1,by omega⟩;obtain⟨fs,k1,k2,k3,k4⟩:=hd.pair;have hf:P.fieldsOf tid=fs:=by simp[Program.fieldsOf,k1]
   show(Op.equalIn (d+1) tid (.agg _) (.agg _)).run P w=_
   rw[run_equalIn_struct w d tid _ _ (by rw[hf];exact k1) k4,hf];exact key d 0 fs.toList x y cx cy _ _ c k2 hx hy he (by omega) (by simp) (by simp) (by simp) (by simp)
end
end Go.Ge
