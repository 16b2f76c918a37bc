import Derived.Test.YtgklgliokhbcnaaGreatDoorGeA
import Derived.Laws.StructEq
import Derived.ChangeKeysEq
set_option linter.unusedVariables false
set_option linter.unusedSimpArgs false
set_option linter.unusedSectionVars false
set_option linter.defProp false
open Option renaming some->aa,none->af
namespace Go.Ge
structure Gh where
 I:Nat->Nat->Prop
 loc:Nat->Option (Nat×Nat)
def cZ(t:Ty)(cs:List Value):Value:=bif t.isAgg then .agg cs.toArray else cs.headD undef
def bH(w:World)(I:Nat->Nat->Prop):(t:Ty)->t.den->List Value->Prop
 | .int k,n,cs=>cs=[.int k n]/\k.min<=(show Int from n)/\(show Int from n)<=k.max
 | .bool,b,cs=>cs=[.bool b]
 | .str,s,cs=>cs=[.string ⟨List.toArray (α:=UInt8) s⟩]/\List.length (α:=UInt8) s<=maxLen
 | .slice e,l,cs=>((∃base,cs=[.slice base 0 0])/\l=([]:List e.den)) \/
  ∃f off g,cs=[.slice (aa ⟨f,off,af⟩) (List.length (α:=e.den) l) g]/\List.length (α:=e.den) l<=g/\g<=maxLen /\
   ∀(i:Nat) (x:e.den),(show List e.den from l)[i]?=aa x->∃es:List Value,es.length=e.size /\
    (∀(j:Nat) v,es[j]?=aa v->w.cell? ⟨f,off+i*e.size+j,af⟩=aa v/\I f (off+i*e.size+j))/\bH w I e x es
 | .arr n e,l,cs=>List.length (α:=e.den) l=n/\cs.length=n*e.size /\
  ∀(i:Nat) (x:e.den),(show List e.den from l)[i]?=aa x->bH w I e x ((cs.drop<|i*e.size).take e.size)
 | .pair a b,x,cs=>∃h m,cs=h++m/\bH w I a x.1 h/\bH w I b x.2 m
 | .unit,_,cs=>cs=[]
 | .alt u a r,x,cs=>match(show a.den⊕r.den from x) with
   | .inl y=>r.size=1/\∃c,cs=[.iface u<|cZ a c]/\bH w I a y c
   | .inr z=>bH w I r z cs
 | .BM,_,cs=>cs=[.nilIface]
def bH.length{w I}:∀{t x cs},bH w I t x cs->cs.length=t.size:=by
 intro t;induction t with
 | int k=>intro x cs h;rw[h.1];rfl
 | bool=>intro x cs h;rw[h];rfl
 | str=>intro x cs h;rw[h.1];rfl
 | slice e l=>intro x cs h;rcases h with ⟨⟨_,h⟩,_⟩|⟨_,_,_,h,_⟩<;>rw[h]<;>rfl
 | arr n e l=>intro x cs h;exact h.2.1
 | pair a b f g=>intro x cs h;obtain⟨o,p,rfl,i,m⟩:=h;rw[jt,f i,g m];rfl
 | unit=>intro x cs h;rw[h];rfl
 | alt u a r f j =>
   intro x cs h;rcases x with y|z
   .obtain⟨i,c,rfl,_⟩:=h;exact i.symm
   .exact j h
 | BM=>intro x cs h;rw[show cs=_ from h];rfl
def bH.mono{w w' I I'}(E:∀b o,I b o->I' b o)(F:∀b o,I b o->w'.cell? ⟨b,o,af⟩=w.cell? ⟨b,o,af⟩) :
  ∀{t x cs},bH w I t x cs->bH w' I' t x cs:=by
 intro t;induction t with
 | int k=>intro x cs h;exact h
 | bool=>intro x cs h;exact h
 | str=>intro x cs h;exact h
 | slice e s =>
   intro x cs h;rcases h with h|⟨blk,off,l,g,j,m,G⟩
   .exact .inl h
   .refine .inr ⟨blk,off,l,g,j,m,λi y v=>?_⟩
    grind
 | arr n e s=>intro x cs h;exact⟨h.1,h.2.1,λi y v=>s (h.2.2 i y v)⟩
 | pair a b f p=>intro x cs h;obtain⟨A,C,D,g,j⟩:=h;exact⟨A,C,D,f g,p j⟩
 | unit=>intro x cs h;exact h
 | alt u a r f q =>
   intro x cs h;rcases x with y|z
   .obtain⟨g,c,j,m⟩:=h;exact⟨g,c,j,f m⟩
   .exact q h
 | BM=>intro x cs h;exact h
def bH.one{w I}:∀{t x cs},bH w I t x cs->∀v∈cs,v.oneCell'=true:=by
 intro t;induction t with
 | int k=>intro x cs h v f;rw[h.1] at f;simp at f;subst f;rfl
 | bool=>intro x cs h v f;rw[h] at f;simp at f;subst f;rfl
 | str=>intro x cs h v f;rw[h.1] at f;simp at f;subst f;rfl
 | slice e l=>intro x cs h v f;rcases h with ⟨⟨_,h⟩,_⟩|⟨_,_,_,h,_⟩<;>rw[h] at f<;>simp at f<;>subst f<;>rfl
 | arr n e l =>
   intro x cs h v f;obtain⟨g,p,m⟩:=h;obtain⟨k,D,q⟩:=ac0 f;have o:0<e.size:=by
    grind
   have hx:∃y,(show List e.den from x)[k / e.size]?=aa y:=⟨_,fX (by rw[g];exact(by rw[YW o];omega))⟩;obtain⟨y,s⟩:=hx;refine l (m _ y s) v ?_;have E:=BE k o;have A:k / e.size*e.size+k % e.size=k:=by rw[TQ];exact TL k e.size
   have:((cs.drop<|k / e.size*e.size).take e.size)[k % e.size]?=aa v:=by
    grind
   grind
 | pair a b i C =>
   intro x cs h v f;obtain⟨F,G,rfl,g,p⟩:=h
   grind
 | unit=>intro x cs h v f;rw[h] at f;cases f
 | alt u a r i j =>
   intro x cs h v f;rcases x with y|z
   .obtain⟨g,c,rfl,m⟩:=h;simp at f;subst f;rfl
   .exact j h v f
 | BM=>intro x cs h v f;rw[show cs=_ from h] at f;simp at f;subst f;rfl
def ub{w I}:∀{t x cs},bH w I t x cs->(cZ t cs).cells.toList=cs:=by
 intro t;induction t with
 | int k=>intro x cs h;rw[h.1];rfl
 | bool=>intro x cs h;rw[h];rfl
 | str=>intro x cs h;rw[h.1];rfl
 | slice e=>intro x cs h;rcases h with ⟨⟨_,h⟩,_⟩|⟨_,_,_,h,_⟩<;>rw[h]<;>rfl
 | arr n e=>intro x cs h;rfl
 | pair a b=>intro x cs h;rfl
 | unit=>intro x cs h;rfl
 | alt u a r g f =>
   intro x cs h;rcases x with y|z
   .obtain⟨i,c,rfl,j⟩:=h;unfold cZ Ty.isAgg;cases r.isAgg<;>rfl
   .exact f h
 | BM=>intro x cs h;rw[show cs=_ from h];rfl
inductive Mode where
 | cells|val|many
def wV(b:Option Addr)(c:Nat):Prop:=c=0\/∃e f,b=aa ⟨e,f,af⟩
def eg:List Sel->Nat
 | []=>0
 | .gB _ off::p=>off+eg p
 | .idx i size::p=>i.toNat*size+eg p
def BS p q:eg (p++q)=eg p+eg q:=by
 induction p with
 | nil=>simp[eg]
 | cons s p b=>cases s<;>simp[eg]<;>omega
section
variable (γ:Gh) (mem:Nat->Option Box) (w:World)
def FB(g:Box)(b:Nat)(h:Int)(c:Option Addr)(e:Nat):Prop:=h=0->g.buf=true->(γ.loc b=af/\c=af/\e=0)\/∃f,γ.loc b=aa (f,e)/\c=aa ⟨f,0,af⟩
def FC(I:Nat->Nat->Prop)(b c:Nat)(e:List Value):Prop:=∀(j:Nat) v,e[j]?=aa v->w.cell? ⟨b,c+j,af⟩=aa v/\I b (c+j)
def nT(b c:Nat)(K:Box->Prop):Prop:=∃e,mem b=aa e/\c<=e.aM/\(e.aM=c->K e)
def cu:ch->Mode->List Value->Prop
 | .undef,.val,vs=>∃v,vs=[v]
 | .undef,.cells,vs=>∃v,vs=[v]/\v.oneCell'=true
 | .undef,.many,_=>False
 | .data t x,.cells,vs=>bH w γ.I t x vs
 | .data t x,.val,vs=>∃cs,bH w γ.I t x cs/\vs=[cZ t cs]
 | .data _ _,.many,_=>False
 | .mix a b,.cells,vs=>∃o s,vs=o++s/\cu a .cells o/\cu b .cells s
 | .mix a b,.val,vs=>∃o s,vs=[.agg (o++s).toArray]/\cu a .cells o/\cu b .cells s
 | .mix a b,.many,vs=>∃v r,vs=v::r/\cu a .val [v]/\cu b .many r
 | .nl,.many,vs=>vs=[]
 | .nl,_,_=>False
 | .BI u,.val,vs=>∃l:Array Value,vs=[.tuple l]/\cu u .many l.toList
 | .BI _,_,_=>False
 | .uO,.many,_=>False
 | .uO,_,vs=>vs=[.pointer af]
 | .uP,.many,_=>False
 | .uP,_,vs=>vs=[.nilIface]
 | .ya _ _,.many,_=>False
 | .ya b aM,_,vs=>(∃v,vs=[v]/\v.oneCell'=true)/\nT mem b aM λ_=>∃g h,γ.loc b=aa (g,h)/\(vs=[.pointer af]\/vs=[.pointer<|some ⟨g,0,af⟩])
 | .pN,.many,_=>False
 | .pN,_,vs=>vs=[.slice af 0 0]
 | .cell _ _,.many,_=>False
 | .cell t x,_,vs=>∃g off cs,vs=[.pointer<|some ⟨g,off,af⟩]/\bH w γ.I t x cs/\FC w γ.I g off cs
 | .ptr _ _ _,.many,_=>False
 | .ptr b aM p,_,vs=>(∃v,vs=[v]/\v.oneCell'=true)/\nT mem b aM λ_=>∃g h,γ.loc b=aa (g,h)/\vs=[.pointer<|some ⟨g,eg p,af⟩]
 | .whole _ _,.many,_=>False
 | .whole b aM,_,vs=>(∃v,vs=[v]/\v.oneCell'=true)/\nT mem b aM λbx=>∃e n,bx.buf=true/\bx.row=aa (e,n) /\
  ((γ.loc b=af/\vs=[.slice af 0 0])\/∃g h,γ.loc b=aa (g,h)/\vs=[.slice (aa ⟨g,0,af⟩) n h])
 | .part _ _ _ _,.many,_=>False
 | .part b aM lo n,_,vs=>(∃v,vs=[v]/\v.oneCell'=true)/\nT mem b aM λbx=>∃e k,bx.row=aa (e,k)/\0<=lo/\0<=n/\lo+n<=k /\
  ∃j h,vs=[.slice j n.toNat h]/\n.toNat<=h/\h<=maxLen/\(wV j h/\FB γ bx b lo j h)/\(n=0\/∃g c,γ.loc b=aa (g,c)/\j=aa ⟨g,lo.toNat*e.size,af⟩)
 | .win _ _ _ _ _ _ _,.many,_=>False
 | .win b aM q e k lo n,_,vs=>(∃v,vs=[v]/\v.oneCell'=true)/\nT mem b aM λ_=>q≠[]/\∃g c,γ.loc b=aa (g,c)/\0<=lo/\0<=n/\lo+n<=k /\
  ∃j h,vs=[.slice j n.toNat h]/\n.toNat<=h/\(n=0\/j=aa ⟨g,eg q+lo.toNat*e.size,af⟩)
 | .fn _ _,.many,_=>False
 | .fn f m,_,vs=>∃l:Array Value,vs=[.func (.func f) #[] l]/\l.size=m.length /\
  ∀(i:Nat) b aM,m[i]?=aa (b,aM)->nT mem b aM λ_=>∃g h,γ.loc b=aa (g,h)/\l[i]?=aa (.pointer<|some ⟨g,0,af⟩)
def ni(c:Array Value)(e:Nat×Nat):Prop:=∀b,b<c.size->¬(e.1<=b/\b<e.2)
def Ty.isInt:Ty->Bool
 | .int _=>true
 | _=>false
structure ThB (e:Ty) (cur:Array Value) (fr:Nat×Nat):Prop where
 th:ni cur fr
 um:e.isInt=false->¬(fr.1<=cur.size/\cur.size<fr.2)
def ew(b:Nat)(bx:Box):Prop :=
 match bx.buf with
 | true=>∃(e:Ty) (l:List e.den),bx.val=.data (.slice e) l/\0<e.size /\
  ((γ.loc b=af/\l=[])\/∃g f c tid h,γ.loc b=aa (g,f)/\w.heap[g]?=aa (.cells c tid h)/\ThB e c h/\(bx.tid=0\/tid=bx.tid)/\l.length<=f/\f<=maxLen /\
   c.size=f*e.size/\∀(i:Nat) (x:e.den),l[i]?=aa x->bH w γ.I e x ((c.toList.drop<|i*e.size).take e.size))
 | false=>∃g f c tid h,γ.loc b=aa (g,f)/\w.heap[g]?=aa (.cells c tid h)/\ni c h/\(bx.tid=0\/tid=bx.tid)/\cu γ mem w bx.val .cells c.toList
end
def WW(b:Box):Nat->Prop:=λc=>b.ro=true/\(b.buf=true->∀e n,b.row=aa (e,n)->c<n*e.size)
abbrev DV:=Nat->(Obj->Prop)->Prop
def dc:DV:=λ_ _=>False
def Et(G:DV)(w:World):Prop:=∀b Q,G b Q->∃o,w.heap[b]?=aa o/\Q o
structure BT where
 lo:Nat
 X:Nat->Prop
 G:DV
def BT.has(B:BT)(k:Nat):Prop:=B.lo<=k\/B.X k
def oH(G:DV)(n:Nat):BT:=⟨n,λ_=>False,G⟩
def r5{G n k}:(oH G n).has k↔n<=k:=⟨λh=>h.elim id False.elim,.inl⟩
structure vD (B:BT) (w w':World):Prop where
 os:w'.os=w.os
 tape:w'.tape=w.tape
 output:w'.output=w.output
 size:w.heap.size<=w'.heap.size
 block:∀k,¬B.has k->w'.heap[k]?=w.heap[k]?
def vD.refl B w:vD B w w:=⟨rfl,rfl,rfl,bX _,λ_ _=>rfl⟩
def vD.trans{B a b c}(h:vD B a b)(k:vD B b c):vD B a c :=
 ⟨k.os.trans h.os,k.tape.trans h.tape,k.output.trans h.output,gi h.size k.size,λi e=>(k.block i e).trans (h.block i e)⟩
def vD.of{B w w'}(h:RowKit.Below B.lo w w'):vD B w w':=⟨h.os,h.tape,h.output,h.size,λk b=>h.block k (Y5 λq=>b (.inl q))⟩
def vD.below{G n w w'}(h:vD (oH G n) w w'):RowKit.Below n w w':=⟨h.os,h.tape,h.output,h.size,λk b=>h.block k λq=>by have:=r5.1 q;omega⟩
def vD.drew{B a w}(h:vD B a w):vD B a w.drew:=⟨h.os,h.tape,h.output,h.size,h.block⟩
def vD.alloc{B a w}(h:vD B a w)(b:B.lo<=w.heap.size) o:vD B a (w.alloc o):=h.trans (.of<|(RowKit.Below.refl _ _).alloc b o)
structure bC (B:BT) (γ:Gh) (mem:Nat->Option Box) (w:World):Prop where
 base:B.lo<=w.heap.size
 boxes:∀b bx,mem b=aa bx->ew γ mem w b bx
 inj:∀b c blk k k',mem b≠af->mem c≠af->γ.loc b=aa (blk,k)->γ.loc c=aa (blk,k')->b=c
 fresh:∀b blk k,mem b≠af->γ.loc b=aa (blk,k)->B.has blk/\blk<w.heap.size
 te:∀blk off,γ.I blk off->blk<w.heap.size
 sep:∀b bx blk k off,mem b=aa bx->γ.loc b=aa (blk,k)->γ.I blk off->WW bx off
 tf:∀b Q,B.G b Q->¬B.has b/\∃o,w.heap[b]?=aa o/\Q o
structure dm (B:BT) (N:Nat) (γ:Gh) (σ:St) (a:Act) (w:World):Prop where
 bb:∀t,cu γ σ.mem w (σ.bb t) .val [a.tmps.getD t undef]
 size:a.tmps.size=N
 defers:a.defers=[]
 ok:bC B γ σ.mem w
structure Ext (B:BT) (γ:Gh) (mem:Nat->Option Box) (w:World) (bz:Gh) (mem':Nat->Option Box) (w':World):Prop where
 below:vD B w w'
 I:∀b o,γ.I b o->bz.I b o
 qV:∀b o,bz.I b o->γ.I b o\/B.has b
 cells:∀b o,γ.I b o->w'.cell? ⟨b,o,af⟩=w.cell? ⟨b,o,af⟩
 boxes:∀b bx,mem b=aa bx->∃uS,mem' b=aa uS/\bx.aM<=uS.aM/\(uS.aM=bx.aM->bz.loc b=γ.loc b/\uS.buf=bx.buf/\uS.row=bx.row)
def bC.BU{B γ bz mem mem' w w'}(h:bC B γ mem w)(x:Ext B γ mem w bz mem' w'):∀b Q,B.G b Q->¬B.has b/\∃o,w'.heap[b]?=aa o/\Q o:=λb Q g=>by
 obtain⟨i,o,c,q⟩:=h.tf b Q g;exact⟨i,o,(x.below.block b i).trans c,q⟩
def bC.Lx{B γ mem w}(h:bC B γ mem w):Et B.G w:=λb Q g=>(h.tf b Q g).2
def Ext.refl B γ mem w:Ext B γ mem w γ mem w :=
 ⟨vD.refl _ _,λ_ _ h=>h,λ_ _ h=>.inl h,λ_ _ _=>rfl,λb bx h=>⟨bx,h,bX _,λ_=>⟨rfl,rfl,rfl⟩⟩⟩
def Ext.trans{B γ bz e mem mem' c w w' f}(h:Ext B γ mem w bz mem' w')(k:Ext B bz mem' w' e c f) :
  Ext B γ mem w e c f where
 below:=h.below.trans k.below
 I:=λb o x=>k.I _ _ (h.I _ _ x)
 qV:=λb o x=>by
  rcases k.qV b o x with y|y
  .exact h.qV b o y
  .grind
 cells:=λb o x=>(k.cells _ _<|h.I _ _ x).trans (h.cells _ _ x)
 boxes:=λb bx x=>by
  obtain⟨uS,i,j,l⟩:=h.boxes b bx x;obtain⟨g,m,n,p⟩:=k.boxes b uS i
  grind
def nT.ext{B γ bz mem mem' w w'}(h:Ext B γ mem w bz mem' w'){b aM K f}(g:nT mem b aM K)
  (m:∀c uS,mem b=aa c->mem' b=aa uS->bz.loc b=γ.loc b->uS.buf=c.buf->uS.row=c.row->K c->f uS):nT mem' b aM f:=by
 obtain⟨c,i,j,n⟩:=g;obtain⟨uS,k,l,o⟩:=h.boxes b c i;refine⟨uS,k,gi j l,λe=>?_⟩
 grind
def FC.ext{w w' I I'}(c:∀b o,I b o->I' b o)(e:∀b o,I b o->w'.cell? ⟨b,o,af⟩=w.cell? ⟨b,o,af⟩){blk off cs}
  (h:FC w I blk off cs):FC w' I' blk off cs :=
 λj v f=>by obtain⟨a,b⟩:=h j v f;exact⟨by rw[e _ _ b];exact a,c _ _ b⟩
def cu.ext{B γ bz mem mem' w w'}(h:Ext B γ mem w bz mem' w'):∀{v m vs},cu γ mem w v m vs->cu bz mem' w' v m vs:=by
 intro v;induction v with
 | undef=>intro m vs r;cases m<;>exact r
 | data t x =>
   intro m vs r;cases m with
   | cells=>exact bH.mono h.I h.cells r
   | val=>obtain⟨F,g,j⟩:=r;exact⟨F,bH.mono h.I h.cells g,j⟩
   | many=>exact r
 | pN=>intro m vs r;cases m<;>exact r
 | uO=>intro m vs r;cases m<;>exact r
 | uP=>intro m vs r;cases m<;>exact r
 | ya b aM =>
   intro m vs r;cases m with
   | many=>exact r
   | cells=>exact⟨r.1,r.2.ext h λl uS _ _ c _ _ k=>by rw[c];exact k⟩
   | val=>exact⟨r.1,r.2.ext h λl uS _ _ c _ _ k=>by rw[c];exact k⟩
 | cell t x =>
   intro m vs r;cases m with
   | many=>exact r
   | cells=>obtain⟨s,y,F,g,j,z⟩:=r;exact⟨s,y,F,g,bH.mono h.I h.cells j,z.ext h.I h.cells⟩
   | val=>obtain⟨s,y,F,g,j,z⟩:=r;exact⟨s,y,F,g,bH.mono h.I h.cells j,z.ext h.I h.cells⟩
 | ptr b aM p =>
   intro m vs r;cases m with
   | many=>exact r
   | cells=>exact⟨r.1,r.2.ext h λl uS _ _ c _ _ k=>by rw[c];exact k⟩
   | val=>exact⟨r.1,r.2.ext h λl uS _ _ c _ _ k=>by rw[c];exact k⟩
 | whole b aM =>
   intro m vs r;cases m with
   | many=>exact r
   | cells=>exact⟨r.1,r.2.ext h λl uS _ _ c A C k=>by rw[c,A,C];exact k⟩
   | val=>exact⟨r.1,r.2.ext h λl uS _ _ c A C k=>by rw[c,A,C];exact k⟩
 | part b aM lo n =>
   intro m vs r;cases m with
   | many=>exact r
   | cells=>exact⟨r.1,r.2.ext h λl uS _ _ c A C k=>by unfold FB at k⊢;rw[c,A,C];exact k⟩
   | val=>exact⟨r.1,r.2.ext h λl uS _ _ c A C k=>by unfold FB at k⊢;rw[c,A,C];exact k⟩
 | win b aM q e k lo n =>
   intro m vs r;cases m with
   | many=>exact r
   | cells=>exact⟨r.1,r.2.ext h λl uS _ _ c _ _ k=>by rw[c];exact k⟩
   | val=>exact⟨r.1,r.2.ext h λl uS _ _ c _ _ k=>by rw[c];exact k⟩
 | fn f L =>
   intro m vs r;cases m with
   | many=>exact r
   | cells=>obtain⟨o,g,j,z⟩:=r;exact⟨o,g,j,λi b aM K=>(z i b aM K).ext h λl uS _ _ c _ _ k=>by rw[c];exact k⟩
   | val=>obtain⟨o,g,j,z⟩:=r;exact⟨o,g,j,λi b aM K=>(z i b aM K).ext h λl uS _ _ c _ _ k=>by rw[c];exact k⟩
 | mix a b D E =>
   intro m vs r;cases m with
   | cells=>obtain⟨G,H,J,g,j⟩:=r;exact⟨G,H,J,D g,E j⟩
   | val=>obtain⟨G,H,J,g,j⟩:=r;exact⟨G,H,J,D g,E j⟩
   | many=>obtain⟨G,H,J,g,j⟩:=r;exact⟨G,H,J,D g,E j⟩
 | BI u M =>
   intro m vs r;cases m with
   | val=>obtain⟨o,g,j⟩:=r;exact⟨o,g,M j⟩
   | cells=>exact r
   | many=>exact r
 | nl=>intro m vs r;cases m<;>exact r
def e9:Ty->List Value
 | .int k=>[.int k 0]
 | .bool=>[.bool false]
 | .str=>[.string ⟨#[]⟩]
 | .slice _=>[.slice af 0 0]
 | .arr n e=>(List.replicate n<|e9 e).flatten
 | .pair a b=>e9 a++e9 b
 | .unit=>[]
 | .alt _ _ r=>e9 r
 | .BM=>[.nilIface]
def ea t:(e9 t).length=t.size:=by
 induction t with
 | arr n e h=>simp[e9,Ty.size,h]
 | pair a b c f=>simp[e9,Ty.size,c,f]
 | alt u a r c g=>exact g
 | _=>rfl
def e7{b:Type}(l:List b):∀n i,i<n->((List.replicate n l).flatten.drop<|i*l.length).take l.length=l
 | 0,i,h=>absurd h ag
 | n+1,0,_=>by simp[List.replicate_succ]
 | n+1,i+1,h=>by
   rw[List.replicate_succ,List.flatten_cons,Hf,Zb,<-Af,Lj];exact e7 l n i ag
def jE w I:∀t,bH w I t t.zero (e9 t):=by
 intro t;induction t with
 | int k=>exact⟨rfl,by cases k<;>decide,by cases k<;>decide⟩
 | bool=>rfl
 | str=>exact⟨rfl,pF _⟩
 | slice e j=>exact .inl ⟨⟨af,rfl⟩,rfl⟩
 | arr n e j =>
   refine⟨acV,by rw[ea];rfl,λi x l=>?_⟩;have c:(List.replicate n e.zero)[i]?=aa x:=l;rw[acT] at c;split at c
   .rename_i m;obtain rfl:e.zero=x:=by simpa using c
    have:=e7 (e9 e) n i m;rw[ea] at this;show bH w I e e.zero (((List.replicate n _).flatten.drop _).take e.size)
    grind
   .grind
 | pair a b f g=>exact⟨_,_,rfl,f,g⟩
 | unit=>rfl
 | alt u a r f h=>exact h
 | BM=>rfl
def Rs:Value->Value->Bool
 | .int k n,.int c m=>Nat.beq (Ba k) (Ba c)&&decide (n=m)
 | .bool a,.bool b=>a==b
 | .string a,.string b=>decide (a.data.toList=b.data.toList)
 | .slice af 0 0,.slice af 0 0=>true
 | .pointer af,.pointer af=>true
 | .nilIface,.nilIface=>true
 | .nilFunc,.nilFunc=>true
 | _,_=>false
def WX{a b}(h:Rs a b=true):a=b:=by
 unfold Rs at h;split at h
 .simp only[gz,Ae] at h;rw[zh h.1,h.2]
 .simpa using h
 .rename_i a b;obtain⟨⟨a⟩⟩:=a;obtain⟨⟨b⟩⟩:=b
  grind
 .rfl
 .rfl
 .rfl
 .rfl
 .cases h
def FD:List Value->List Value->Bool
 | [],[]=>true
 | a::r,b::s=>Rs a b&&FD r s
 | _,_=>false
def IV:∀{a b},FD a b=true->a=b
 | [],[],_=>rfl
 | a::r,b::s,h=>by simp only[FD,gz] at h;rw[WX h.1,IV h.2]
 | [],_::_,h=>by cases h
 | _::_,[],h=>by cases h
def DW(P:Program)(c:TypeId)(b:Nat)(e:List Value):Bool :=
 match P.info? c with
 | some i=>Nat.beq i.size b&&(match i.zero with|some z=>FD z.cells.toList e|none=>false)
 | none=>false
def km{P tid size b}(h:DW P tid size b=true) :
  ∃i z,P.info? tid=aa i/\i.size=size/\i.zero=aa z/\z.cells.toList=b:=by
 unfold DW at h;split at h
 .rename_i i c;simp only[gz] at h;split at h
  .rename_i z e;exact⟨i,z,c,gA h.1,e,IV h.2⟩
  .grind
 .cases h
def Eu(P:Program)(b:TypeId):Bool :=
 match P.info? b with
 | some i=>Nat.ble i.bytes 32768
 | none=>false
def Ty.adC:Ty->Bool
 | .alt _ _ r=>r.adC
 | .BM=>true
 | _=>false
def gj(P:Program):Ty->Bool->TypeId->Nat->List Field->Bool
 | .int k,false,tid,_,_=>(match P.underlying tid with|some (.int g)=>Nat.beq (Ba k) (Ba g)|_=>false)&&DW P tid 1 [.int k 0]
 | .bool,false,tid,_,_=>(match P.underlying tid with|some .bool=>true|_=>false)&&DW P tid 1 [.bool false]
 | .str,false,tid,_,_=>(match P.underlying tid with|some .string=>true|_=>false)&&DW P tid 1 [.string ⟨#[]⟩]
 | .slice e,false,tid,_,_=>(match P.underlying tid with|some (.slice c)=>gj P e false c 0 []&&Eu P c&&Nat.blt 0 e.size|_=>false)&&DW P tid 1 [.slice af 0 0]
 | .arr n e,false,tid,_,_=>(match P.underlying tid with|some (.array m c)=>Nat.beq n m&&gj P e false c 0 []&&Nat.blt 0 e.size|_=>false)&&DW P tid (n*e.size) (e9<|.arr n e)&&!P.eqGuardType P.depth tid
 | .pair a b,false,tid,_,_=>(match P.underlying tid with
  | some (.struct h)=>(match h.toList with
    | f::r=>Nat.beq f.offset 0&&decide (f.name ≠ "_")&&gj P a false f.type 0 []&&Nat.blt 0 a.size&&gj P b true 0 a.size r
    | []=>false)
  | _=>false)&&DW P tid (a.size+b.size) (e9<|.pair a b)&&!P.eqGuardType P.depth tid&&!P.stoodInHeld tid
 | .unit,false,tid,_,_=>false
 | .alt u _ r,false,tid,_,_=>gj P r false tid 0 []&&P.concrete u&&r.adC
 | .BM,false,tid,_,_=>(match P.underlying tid with|some (.interface _)=>true|_=>false)&&DW P tid 1 [.nilIface]
 | .pair a b,true,_,off,f::r=>Nat.beq f.offset off&&decide (f.name ≠ "_")&&gj P a false f.type 0 []&&Nat.blt 0 a.size&&gj P b true 0 (off+a.size) r
 | .unit,true,_,_,[]=>true
 | _,_,_,_,_=>false
def Den(P:Program)(t:Ty)(b:TypeId):Prop:=gj P t false b 0 []=true
def rN(P:Program)(t:Ty)(off:Nat)(b:List Field):Prop:=gj P t true 0 off b=true
section
variable {P:Program} {tid:TypeId}
def Den.int{k}(h:Den P (.int k) tid):P.underlying tid=aa (.int k):=by
 simp only[Den,gj,gz] at h;have b:=h.1;split at b
 .rename_i e c;rw[c,zh b]
 .cases b
def Den.bool(h:Den P .bool tid):P.underlying tid=aa .bool:=by
 simp only[Den,gj] at h
 grind
def Den.str(h:Den P .str tid):P.underlying tid=aa .string:=by
 simp only[Den,gj] at h
 grind
def Den.slice{e}(h:Den P (.slice e) tid):∃b,P.underlying tid=aa (.slice b)/\Den P e b/\Eu P b=true/\0<e.size:=by
 simp only[Den,gj,gz] at h;have c:=h.1;split at c
 .rename_i b f;simp at c;exact⟨b,f,c.1.1,c.1.2,by simpa using c.2⟩
 .cases c
def Den.arr{n e}(h:Den P (.arr n e) tid):∃b,P.underlying tid=aa (.array n b)/\Den P e b/\0<e.size:=by
 simp only[Den,gj,gz] at h;have c:=h.1.1;split at c
 .rename_i m b f;simp only[gz] at c;rw[gA c.1.1];exact⟨b,f,c.1.2,by simpa using c.2⟩
 .cases c
def Den.akg{n e}(h:Den P (.arr n e) tid):P.eqGuardType P.depth tid=false:=by
 simp only[Den,gj] at h
 grind
def Den.pair{a b}(h:Den P (.pair a b) tid):∃e,P.underlying tid=aa (.struct e)/\rN P (.pair a b) 0 e.toList/\P.eqGuardType P.depth tid=false/\P.stoodInHeld tid=false:=by
 simp only[Den,gj,gz] at h;obtain⟨⟨⟨c,l⟩,g⟩,i⟩:=h;split at c
 .rename_i e j;refine⟨e,j,?_,by simpa using g,by simpa using i⟩;split at c
  .rename_i f r k;simp only[rN,k,gj,BD];exact c
  .cases c
 .cases c
def Den.info{t}(h:Den P t tid):∃i z,P.info? tid=aa i/\i.size=t.size/\i.zero=aa z/\z.cells.toList=e9 t:=by
 induction t with
 | int k=>simp only[Den,gj,gz] at h;exact km h.2
 | bool=>simp only[Den,gj,gz] at h;exact km h.2
 | str=>simp only[Den,gj,gz] at h;exact km h.2
 | slice e=>simp only[Den,gj,gz] at h;exact km h.2
 | arr n e=>simp only[Den,gj,gz] at h;exact km h.1.2
 | pair a b=>simp only[Den,gj,gz] at h;exact km h.1.1.2
 | unit=>simp[Den,gj] at h
 | alt u a r f c=>simp only[Den,gj,gz] at h;exact c h.1.1
 | BM=>simp only[Den,gj,gz] at h;exact km h.2
def Den.BM(h:Den P .BM tid):∃b,P.underlying tid=aa (.interface b):=by
 simp only[Den,gj] at h
 grind
def Den.rest{u a r}(h:Den P (.alt u a r) tid):Den P r tid/\P.concrete u=true:=by
 simp only[Den,gj,gz] at h;exact h.1
def Ty.Ly:∀{t:Ty},t.adC=true->t.size=1/\t.isAgg=false:=by
 intro t;induction t with
 | alt u a r c b=>intro h;exact b h
 | BM=>intro h;exact⟨rfl,rfl⟩
 | _=>intro h;cases h
def Den.adD{u a r}(_:Den P r tid)(h:Den P (.alt u a r) tid):r.size=1:=by
 simp only[Den,gj,gz] at h;exact(Ty.Ly h.2).1
def Den.agg{t}(h:Den P t tid) w:(isAgg tid).run P w=.ok t.isAgg w:=by
 induction t with
 | alt u a r f g=>exact g h.rest.1
 | BM=>obtain⟨_,c⟩:=h.BM;unfold Go.isAgg;simp[run_underlying c,Ty.isAgg]
 | int k=>unfold Go.isAgg;simp[run_underlying h.int,Ty.isAgg]
 | bool=>unfold Go.isAgg;simp[run_underlying h.bool,Ty.isAgg]
 | str=>unfold Go.isAgg;simp[run_underlying h.str,Ty.isAgg]
 | slice e i=>unfold Go.isAgg;obtain⟨_,c,_⟩:=h.slice;simp[run_underlying c,Ty.isAgg]
 | arr n e i=>unfold Go.isAgg;obtain⟨_,c,_⟩:=h.arr;simp[run_underlying c,Ty.isAgg]
 | pair a b f j=>unfold Go.isAgg;obtain⟨_,c,_⟩:=h.pair;simp[run_underlying c,Ty.isAgg]
 | unit=>simp[Den,gj] at h
def Den.sizeOf{t}(h:Den P t tid) w:(Go.sizeOf tid).run P w=.ok t.size w:=by
 obtain⟨i,z,b,c,_⟩:=h.info;simp[Go.sizeOf,typeInfo,b,c]
def Den.zero{t}(h:Den P t tid) w:∃z,(zeroValue tid).run P w=.ok z w/\z.cells.toList=e9 t:=by
 obtain⟨i,z,b,f,c,e⟩:=h.info;exact⟨z,by simp[zeroValue,typeInfo,b,c],e⟩
def Den.cells{t}(h:Den P t tid):P.cellsOf tid=t.size:=by
 obtain⟨i,z,b,c,_⟩:=h.info;simp[Program.cellsOf,b,c]
def rN.cons{a b off c}(h:rN P (.pair a b) off c) :
  ∃f r,c=f::r/\f.offset=off/\f.name ≠ "_"/\Den P a f.type/\0<a.size/\rN P b (off+a.size) r:=by
 cases c with
 | nil=>simp[rN,gj] at h
 | cons f r =>
   simp only[rN,gj,gz] at h;obtain⟨⟨⟨⟨e,g⟩,i⟩,j⟩,k⟩:=h;exact⟨f,r,rfl,gA e,by simpa using g,i,by simpa using j,k⟩
def rN.at{t}:∀{off e k u o},rN P t off e->uR t k=aa u->iG t k=aa o ->
  ∃f,e[k]?=aa f/\f.offset=off+o/\Den P u f.type/\0<u.size:=by
 induction t with
 | pair a b i j =>
   intro off e k u o h g c;obtain⟨f,r,rfl,m,n,p,q,s⟩:=h.cons;cases k with
   | zero =>
     simp only[uR,iG] at g c
     grind
   | succ k =>
     simp only[uR,iG] at g c;cases l:iG b k with
     | none=>rw[l] at c;cases c
     | some v =>
       grind
 | _=>intro off e k u o h g c;cases k<;>simp[uR] at g
end
def DH.cells:DH->List Value
 | .dat t=>e9 t
 | .buf _ _=>[.slice af 0 0]
 | .fnc=>[.nilFunc]
 | _=>[.pointer af]
def LA:List DH->List Value
 | []=>[]
 | f::r=>f.cells++LA r
def aic:List DH->Nat
 | []=>0
 | f::r=>f.size+aic r
def PR(P:Program):Nat->List DH->List Field->Bool
 | _,[],[]=>true
 | off,f::r,g::s=>Nat.beq g.offset off&&Nat.blt 0 f.size&&(match P.info? g.type with|some i=>Nat.beq i.size f.size|none=>false)&&PR P (off+f.size) r s
 | _,_,_=>false
def Om(P:Program)(b:TypeId)(c:List DH):Bool :=
 (match P.underlying b with|some (.struct gs)=>PR P 0 c gs.toList|_=>false)&&DW P b (aic c) (LA c)
def aaB{P tid b}(h:Om P tid b=true) w:∃z,(zeroValue tid).run P w=.ok z w/\z.cells.toList=LA b:=by
 simp only[Om,gz] at h;obtain⟨i,z,c,g,e,f⟩:=km h.2;exact⟨z,by simp[zeroValue,typeInfo,c,e],f⟩
def adE{P}:∀{b gs off k o},PR P off b gs=true->wS b k=aa o->∃f i,gs[k]?=aa f/\f.offset=off+o/\P.info? f.type=aa i/\0<i.size:=by
 intro b;induction b with
 | nil=>intro gs off k o h c;cases c
 | cons f r j =>
   intro gs off k o h c;cases gs with
   | nil=>cases h
   | cons g s =>
     simp only[PR,gz] at h;obtain⟨⟨⟨l,m⟩,e⟩,n⟩:=h;cases k with
     | zero =>
       obtain rfl:=aF c;split at e
       .simp_all
       .cases e
     | succ k =>
       simp only[wS] at c
       grind
def agr{P tid c k o}(h:Om P tid c=true)(e:wS c k=aa o):∃(gs:Array Field) (f:Field) (i:TypeInfo),P.underlying tid=aa (.struct gs)/\gs.toList[k]?=aa f/\f.offset=o/\P.info? f.type=aa i/\0<i.size:=by
 simp only[Om,gz] at h;obtain⟨b,_⟩:=h;split at b
 .rename_i gs g;obtain⟨f,i,j,l,m,n⟩:=adE b e
  grind
 .cases b
def FE{P}:∀{b gs off},PR P off b gs=true->∃c,gs.mapM (λf=>(P.info? f.type).map λi=>(f.offset,i.size))=aa c /\
  ∀k o f,wS b k=aa o->b[k]?=aa f->c[k]?=aa (off+o,f.size):=by
 intro b;induction b with
 | nil =>
   intro gs off h;cases gs with
   | nil=>exact⟨[],rfl,λk o f _ l=>by cases l⟩
   | cons g s=>cases h
 | cons f r m =>
   intro gs off h;cases gs with
   | nil=>cases h
   | cons g s =>
     simp only[PR,gz] at h;obtain⟨⟨⟨u,v⟩,e⟩,n⟩:=h;obtain⟨c,p,x⟩:=m n;split at e
     .rename_i i t;refine⟨(g.offset,i.size)::c,by simp[t,p],λk o q j y=>?_⟩;cases k with
      | zero =>
        obtain rfl:=aF j;simp_all
      | succ k =>
        simp only[wS] at j
        grind
     .cases e
structure fi (P:Program) (cx:Ctx):Prop where
 T:∀tid t,find cx.T tid=aa t->Den P t tid
 uQ:∀tid,cU cx.uQ tid=true->(∀w,(isAgg tid).run P w=.ok false w)/\(∀w,(Go.sizeOf tid).run P w=.ok 1 w)/\∃z,(∀w,(zeroValue tid).run P w=.ok z w)/\z.oneCell'=true
 DI:∀tid,cU cx.DI tid=true->∃e,P.underlying tid=aa (.pointer e)
 fns:∀f fn,find cx.fns f=aa fn->P.funcs[f]?=aa fn
 vO:∀tid fs,find cx.vO tid=aa fs->Om P tid fs=true
 els:∀tid e,find cx.els tid=aa e->P.underlying tid=aa (.slice e)
def jF{o t}(h:Hh o t=true):o=aa t:=by
 unfold Hh at h;split at h
 .rw[Ty.eq_of_beq h]
 .cases h
def addr_add b o n:Addr.add ⟨b,o,af⟩ n=⟨b,o+n,af⟩:=by
 unfold Addr.add;split<;>simp_all
def ba(l:List Value)(b:Nat)(c:List Value):List Value:=l.take b++c++l.drop (b+c.length)
def bP{l c off}(h:off+c.length<=l.length):(ba l off c).length=l.length:=by
 simp[ba];omega
def ni.same{cur cur' b}(h:ni cur b)(c:cur'.size=cur.size):ni cur' b:=λo e=>h o ag
section
variable {P:Program}
def ThB.same{e cur cur' b}(h:ThB e cur b)(c:cur'.size=cur.size):ThB e cur' b:=⟨h.th.same c,λf=>by rw[c];exact h.um f⟩
def dx g o t f:∀l i b w,w.heap[g]?=aa (.cells b t f)->ni b f ->
  o+i+l.length<=b.size->(∀v∈l,v.oneCell'=true)->(storeCells ⟨g,o,af⟩ l i).run P w=.ok () (w.setRow g (ba b.toList (o+i) l).toArray)
 | [],i,b,w,h,_,_,_=>by
   simp only[storeCells,ba,vl,pM,Fm,Fk,Array.toArray_toList];rw[setRow_self w g b t f h];rfl
 | v::rest,i,b,w,h,j,n,p=>by
   have hi:o+i<b.size:=by simp at n;omega
   have c:w.cell? ⟨g,o+i,af⟩=aa b[o+i]:=by simp[World.cell?,h]
   have k:w.frozen? ⟨g,o+i,af⟩=false:=by
    have:=j _ hi;simp only[World.frozen?]
    grind
   have m:(store ((⟨g,o,af⟩:Addr).add i) v).run P w=.ok () (w.setRow g<|b.setIfInBounds (o+i) v):=by
    rw[addr_add,run_store P w _ v _ (p v aS),c];simp[k,setCell_eq_setRow w g _ b t f v h]
   simp only[storeCells,Sem.run_bind,m,Result.andThen_ok,(dx g o t f rest (i+1) (b.setIfInBounds (o+i) v) _ (setRow_heap w g b _ t _ h) (j.same aS) (by simp at n⊢;omega) λx q=>p x (by simp[q])),setRow_setRow]
   congr 3
   have e:=list_seg_step b.toList _ v rest ag;simpa [ba,En] using e
def cell_of_heap{w:World}{g cur t b}(c:w.heap[g]?=aa (.cells cur t b)) j:w.cell? ⟨g,j,af⟩=cur[j]?:=by
 simp[World.cell?,c]
def DK{w g off n cur t c}(e:w.heap[g]?=aa (.cells cur t c))(h:off+n<=cur.size) :
  (loadCells ⟨g,off,af⟩ n).run P w=.ok ((cur.toList.drop off).take n).toArray w:=by
 have:=run_loadCells_list (P:=P) w ⟨g,off,af⟩ ((cur.toList.drop off).take n) (λj v b=>by
  rw[addr_add,cell_of_heap e];rw[jq] at b;split at b
  .grind
  .cases b)
 grind
def Hp{w I g off cs}(h:FC w I g off cs):(loadCells ⟨g,off,af⟩ cs.length).run P w=.ok cs.toArray w :=
 run_loadCells_list w ⟨g,off,af⟩ cs (λj v b=>by rw[addr_add];exact(h j v b).1)
end
def iJ{a b:Nat}(h:a≠b):Nat.beq a b=false:=by
 cases c:Nat.beq a b
 .rfl
 .simp_all
def adF(a:Act) d t v (hd:d<a.tmps.size):(a.put (aa d) v).tmps.getD t undef=if t=d then v else a.tmps.getD t undef:=by
 simp only[Act.put,Tt]
 grind
def T7(a:Act)(d:Option Nat) v:(a.put d v).tmps.size=a.tmps.size:=by cases d<;>simp[Act.put]
def put_defers(a:Act)(d:Option Nat) v:(a.put d v).defers=a.defers:=by cases d<;>rfl
section
variable {B:BT} {N:Nat} {γ bz:Gh} {σ:St} {a:Act} {w w':World} {mem':Nat->Option Box}
def dm.step(h:dm B N γ σ a w)(b:Ext B γ σ.mem w bz mem' w')(c:bC B bz mem' w'){d}(f:d<N){v val}(g:cu bz mem' w' v .val [val]) :
  dm B N bz ({ bb:=σ.bb,mem:=mem':St }.put d v) (a.put (aa d) val) w' where
 bb:=λt=>by
  rw[adF a d t val<|by rw[h.size];exact f];simp only[St.put];by_cases e:t=d
  .simp_all
  .rw[aJ e,iJ e];exact(h.bb t).ext b
 size:=by rw[T7];exact h.size
 defers:=by exact h.defers
 ok:=c
def dm.go(h:dm B N γ σ a w)(b:Ext B γ σ.mem w bz mem' w')(c:bC B bz mem' w'):dm B N bz { bb:=σ.bb,mem:=mem' } a w' where
 bb:=λt=>(h.bb t).ext b
 size:=h.size
 defers:=h.defers
 ok:=c
def dm.bt(h:dm B N γ σ a w)(b:Ext B γ σ.mem w bz mem' w')(c:bC B bz mem' w'){d}(e:∀k,d=aa k->k<N){v val}(f:cu bz mem' w' v .val [val]) :
  dm B N bz ({ bb:=σ.bb,mem:=mem':St }.bt d v) (a.put d val) w':=by
 cases d with
 | none=>exact h.go b c
 | some d=>exact h.step b c (e d rfl) f
def dm.wW(h:dm B N γ σ a w){d}(b:∀k,d=aa k->k<N){v val}(c:cu γ σ.mem w v .val [val]) :
 dm B N γ (σ.bt d v) (a.put d val) w:=h.bt (Ext.refl _ _ _ _) h.ok b c
end
def ej{γ mem w t x v}:cu γ mem w (.data t x) .val [v]↔∃cs,bH w γ.I t x cs/\v=cZ t cs:=by
 simp only[cu,ac8,TT]
def aaC γ mem w v:cu γ mem w (Ln v) .val [v]:=by
 unfold Ln;split
 .rename_i k n;cases c:(decide (k.min<=n)&&decide (n<=k.max))
  .exact⟨_,rfl⟩
  .simp at c;exact⟨[.int k n],⟨rfl,c.1,c.2⟩,rfl⟩
 .rename_i b;exact⟨[.bool b],rfl,rfl⟩
 .rename_i s;cases c:Nat.ble s.data.toList.length 4294967296
  .exact⟨_,rfl⟩
  .refine⟨[.string s],⟨?_,?_⟩,rfl⟩
   .grind
   .have:=JH c;simp only[maxLen];omega
 .rfl
 .rfl
 .rfl
 .exact⟨_,rfl⟩
def dm.cW{B N γ σ a w}(h:dm B N γ σ a w) x:cu γ σ.mem w (cW σ x) .val [a.eval x]:=by
 cases x with
 | tmp t=>exact h.bb t
 | const v=>exact aaC _ _ _ v
 | global g=>exact⟨_,rfl⟩
 | func f=>exact⟨#[],rfl,rfl,λi b c e=>by simp at e⟩
def cu.jS{γ mem w v x}(h:cu γ mem w v .val [x])(O:∀u,v≠.BI u)(K:v=.undef->x.oneCell'=true):cu γ mem w v .cells x.cells.toList:=by
 cases v with
 | undef=>exact⟨x,by cases x<;>first|rfl|(have:=K rfl;simp[Value.oneCell'] at this),K rfl⟩
 | data t y=>obtain⟨L,g,i⟩:=ej.1 h;subst i;rw[ub g];exact g
 | pN=>obtain rfl:x=_:=by simpa [cu] using h
       rfl
 | uO=>obtain rfl:x=_:=by simpa [cu] using h
       rfl
 | uP=>obtain rfl:x=_:=by simpa [cu] using h
       rfl
 | ya b aM=>obtain⟨⟨v,g,i⟩,o⟩:=h;simp at g;subst g;refine⟨⟨x,?_,i⟩,?_⟩
            .cases x<;>first|rfl|(simp[Value.oneCell'] at i)
            .obtain⟨s,z,A,C⟩:=o;exact⟨s,z,A,λe=>by
              obtain⟨m,j,D,l⟩:=C e;refine⟨m,j,D,?_⟩;rcases l with l|l
              .simp at l;subst l;exact .inl rfl
              .simp at l;subst l;exact .inr rfl⟩
 | cell t y=>obtain⟨m,H,L,g,i,o⟩:=h;simp at g;subst g;exact⟨m,H,L,rfl,i,o⟩
 | ptr b aM p=>obtain⟨⟨v,g,i⟩,o⟩:=h;simp at g;subst g;refine⟨⟨x,?_,i⟩,?_⟩
               .cases x<;>first|rfl|(simp[Value.oneCell'] at i)
               .obtain⟨s,z,A,C⟩:=o;exact⟨s,z,A,λe=>by obtain⟨m,j,D,l⟩:=C e;simp at l;subst l;exact⟨m,j,D,rfl⟩⟩
 | whole b aM=>obtain⟨⟨v,g,i⟩,o⟩:=h;simp at g;subst g;refine⟨⟨x,?_,i⟩,?_⟩
               .cases x<;>first|rfl|(simp[Value.oneCell'] at i)
               .obtain⟨s,z,A,C⟩:=o;exact⟨s,z,A,λe=>by
                 obtain⟨u,n,D,l,E⟩:=C e;refine⟨u,n,D,l,?_⟩;rcases E with ⟨E,F⟩|⟨m,j,E,F⟩
                 .simp at F;subst F;exact .inl ⟨E,rfl⟩
                 .simp at F;subst F;exact .inr ⟨m,j,E,rfl⟩⟩
 | part b aM lo n=>obtain⟨⟨v,g,i⟩,o⟩:=h;simp at g;subst g;refine⟨⟨x,?_,i⟩,?_⟩
                   .cases x<;>first|rfl|(simp[Value.oneCell'] at i)
                   .obtain⟨s,z,A,C⟩:=o;exact⟨s,z,A,λe=>by
                     obtain⟨u,k,D,l,E,F,r,j,G,I⟩:=C e;simp at G;subst G;exact⟨u,k,D,l,E,F,r,j,rfl,I⟩⟩
 | win b aM q e k lo n=>obtain⟨⟨v,g,i⟩,o⟩:=h;simp at g;subst g;refine⟨⟨x,?_,i⟩,?_⟩
                        .cases x<;>first|rfl|(simp[Value.oneCell'] at i)
                        .obtain⟨s,z,A,C⟩:=o;exact⟨s,z,A,λe=>by
                          obtain⟨Q,u,c,D,l,E,F,r,j,G,I⟩:=C e;simp at G;subst G;exact⟨Q,u,c,D,l,E,F,r,j,rfl,I⟩⟩
 | fn f M=>obtain⟨J,g,i⟩:=h;simp at g;subst g;exact⟨J,rfl,i⟩
 | mix p q=>obtain⟨R,S,g,i,o⟩:=h;simp at g;subst g;exact⟨R,S,by simp[Value.cells],i,o⟩
 | BI u=>exact absurd rfl (O u)
 | nl=>exact h.elim
def cu.length{γ mem w}:∀{v cs},cu γ mem w v .cells cs->cs.length=dS v:=by
 intro v;induction v with
 | data t x=>intro cs h;exact bH.length h
 | mix a b c g=>intro cs h;obtain⟨m,o,rfl,j,l⟩:=h;rw[jt,c j,g l];rfl
 | undef=>intro cs h;obtain⟨v,rfl,_⟩:=h;rfl
 | pN=>intro cs h;rw[show cs=_ from h];rfl
 | uO=>intro cs h;rw[show cs=_ from h];rfl
 | uP=>intro cs h;rw[show cs=_ from h];rfl
 | ya b aM=>intro cs h;obtain⟨⟨_,rfl,_⟩,_⟩:=h;rfl
 | cell t x=>intro cs h;obtain⟨_,_,_,rfl,_⟩:=h;rfl
 | ptr b aM p=>intro cs h;obtain⟨⟨_,rfl,_⟩,_⟩:=h;rfl
 | whole b aM=>intro cs h;obtain⟨⟨_,rfl,_⟩,_⟩:=h;rfl
 | part b aM lo n=>intro cs h;obtain⟨⟨_,rfl,_⟩,_⟩:=h;rfl
 | win b aM q e k lo n=>intro cs h;obtain⟨⟨_,rfl,_⟩,_⟩:=h;rfl
 | fn f i=>intro cs h;obtain⟨_,rfl,_⟩:=h;rfl
 | BI u r=>intro cs h;exact h.elim
 | nl=>intro cs h;exact h.elim
def cu.one{γ mem w}:∀{v cs},cu γ mem w v .cells cs->∀c∈cs,c.oneCell'=true:=by
 intro v;induction v with
 | data t x=>intro cs h;exact bH.one h
 | mix a b l m =>
   intro cs h c g;obtain⟨o,r,rfl,i,s⟩:=h
   grind
 | undef=>intro cs h c g;obtain⟨v,rfl,i⟩:=h;simp at g;subst g;exact i
 | pN=>intro cs h c g;rw[show cs=_ from h] at g;simp at g;subst g;rfl
 | uO=>intro cs h c g;rw[show cs=_ from h] at g;simp at g;subst g;rfl
 | uP=>intro cs h c g;rw[show cs=_ from h] at g;simp at g;subst g;rfl
 | ya b aM=>intro cs h c g;obtain⟨⟨_,rfl,i⟩,_⟩:=h;simp at g;subst g;exact i
 | cell t x=>intro cs h c g;obtain⟨_,_,_,rfl,_⟩:=h;simp at g;subst g;rfl
 | ptr b aM p=>intro cs h c g;obtain⟨⟨_,rfl,i⟩,_⟩:=h;simp at g;subst g;exact i
 | whole b aM=>intro cs h c g;obtain⟨⟨_,rfl,i⟩,_⟩:=h;simp at g;subst g;exact i
 | part b aM lo n=>intro cs h c g;obtain⟨⟨_,rfl,i⟩,_⟩:=h;simp at g;subst g;exact i
 | win b aM q e k lo n=>intro cs h c g;obtain⟨⟨_,rfl,i⟩,_⟩:=h;simp at g;subst g;exact i
 | fn f j=>intro cs h c g;obtain⟨_,rfl,_⟩:=h;simp at g;subst g;rfl
 | BI u y=>intro cs h;exact h.elim
 | nl=>intro cs h;exact h.elim
def uT{α}{l:List α}{i x}(h:idx l i=aa x):0<=i/\l[i.toNat]?=aa x:=by
 unfold idx at h
 grind
def Ev{w I}:∀{t x cs k o u},bH w I t x cs->yK t x k=aa (o,u) ->
  ∃(c:Ty) (y:c.den),u=.data c y/\uR t k=aa c/\iG t k=aa o/\o+c.size<=cs.length/\bH w I c y ((cs.drop o).take c.size):=by
 intro t;induction t with
 | pair a b j g =>
   intro x cs k o u h e;obtain⟨s,v,rfl,f,l⟩:=h;cases k with
   | zero =>
     obtain⟨rfl,rfl⟩:=e;refine⟨a,x.1,rfl,rfl,rfl,by rw[jt,f.length];omega,?_⟩;rw[DG,<-f.length,TO];exact f
   | succ k =>
     simp only[yK] at e;cases i:yK b x.2 k with
     | none=>rw[i] at e;cases e
     | some r =>
       rw[i] at e;obtain⟨rfl,rfl⟩:=e;obtain⟨c,y,m,n,p,z,q⟩:=g l i;refine⟨c,y,m,n,by simp[iG,p],by rw[jt,f.length];omega,?_⟩;rw[<-f.length,<-Af,Lj];exact q
 | _=>intro x cs k o u h e;cases k<;>simp[yK] at e
def zp{γ mem w}:∀{v cs k o u},cu γ mem w v .cells cs->vB v k=aa (o,u) ->
  o+dS u<=cs.length/\cu γ mem w u .cells ((cs.drop o).take<|dS u):=by
 intro v;induction v with
 | data t x =>
   intro cs k o u h c;obtain⟨m,y,rfl,_,_,e,f⟩:=Ev h c;exact⟨e,f⟩
 | mix a b j g =>
   intro cs k o u h c;obtain⟨n,p,rfl,e,f⟩:=h;cases k with
   | zero =>
     obtain⟨rfl,rfl⟩:=c;refine⟨by rw[jt,e.length];omega,?_⟩;rw[DG,<-e.length,TO];exact e
   | succ k =>
     simp only[vB] at c;cases i:vB b k with
     | none=>rw[i] at c;cases c
     | some r =>
       rw[i] at c;obtain⟨rfl,rfl⟩:=c;obtain⟨q,l⟩:=g f i;refine⟨by rw[jt,e.length];omega,?_⟩;rw[<-e.length,<-Af,Lj];exact l
 | _=>intro cs k o u h c;cases k<;>simp[vB] at c
def KH{γ mem w t v z es}(h:toS t v=aa z)(b:cu γ mem w v .cells es):bH w γ.I t z es:=by
 cases v with
 | data u y =>
   obtain⟨e,c⟩:=Ty.lO h;subst e;subst c;exact b
 | _=>cases h
def bind_some{α β}{t:Tree α}{f:α->Tree β}{y}(h:(t.bind f).run=aa y):∃x,t.run=aa x/\(f x).run=aa y:=by
 rw[Tree.run_bind] at h;exact BC.1 h
def cd{T α o}{k:T->Tree α}{y}(h:(Tree.look o k).run=aa y):∃x,o=aa x/\(k x).run=aa y:=by
 cases o with
 | none=>cases h
 | some x=>exact⟨x,rfl,h⟩
def cQ{α c}{t:Tree α}{y}(h:(Tree.jw c t).run=aa y):c=true/\t.run=aa y:=by
 cases c with
 | false=>cases h
 | true=>exact⟨rfl,h⟩
def ay{α c}{t:Tree α}{y}(h:(bif c then t else .fail).run=aa y):c=true/\t.run=aa y:=by
 cases c with
 | false=>cases h
 | true=>exact⟨rfl,h⟩
def gG{α c}{t e:Tree α}{y}(h:(Tree.node c t e).run=aa y):(bif c then t else e).run=aa y:=by
 cases c<;>exact h
section
variable {γ:Gh} {mem:Nat->Option Box} {w:World}
def T8:∀{t x cs k o u y f es},
  bH w γ.I t x cs->yK t x k=aa (o,u)->(∀v,(f u).run=aa v->cu γ mem w v .cells es)->(Rj t x k f).run=aa y->es.length=dS u ->
  bH w γ.I t y (ba cs o es):=by
 intro t;induction t with
 | pair a b s g =>
   intro x cs k o u y f es h c m hs i;obtain⟨n,p,rfl,j,q⟩:=h;cases k with
   | zero =>
     obtain⟨rfl,rfl⟩:=c;obtain⟨v,l,hs⟩:=bind_some hs;cases hv:toS a v with
     | none=>rw[hv] at hs;cases hs
     | some z =>
       rw[hv] at hs;obtain rfl:=aF hs;simp only[dS] at i;refine⟨es,p,?_,KH hv (m v l),q⟩;simp only[ba,ade,JJ,BD];rw[show es.length=n.length by rw[i,j.length],Lj]
   | succ k =>
     simp only[yK] at c;cases e:yK b x.2 k with
     | none=>rw[e] at c;cases c
     | some r =>
       rw[e] at c;obtain⟨rfl,rfl⟩:=c;obtain⟨z,A,hs⟩:=bind_some hs;obtain rfl:=aF hs;have:=g q e m A i;refine⟨n,ba p r.1 es,?_,j,this⟩;simp only[ba,<-j.length,acR,vL];rw[En,<-Af,Lj]
 | _=>intro x cs k o u y f es h c;cases k<;>simp[yK] at c
def Am:∀{i cs k o u c f es},
  cu γ mem w i .cells cs->vB i k=aa (o,u)->(∀v,(f u).run=aa v->cu γ mem w v .cells es)->(Eo i k f).run=aa c->es.length=dS u ->
  cu γ mem w c .cells (ba cs o es):=by
 intro i;induction i with
 | data t x =>
   intro cs k o u c f es h e j hs l;obtain⟨y,C,hs⟩:=bind_some hs;obtain rfl:=aF hs;exact T8 h e j C l
 | mix a b D m =>
   intro cs k o u c f es h e j hs l;obtain⟨q,s,rfl,n,A⟩:=h;cases k with
   | zero =>
     obtain⟨rfl,rfl⟩:=e;obtain⟨v,p,hs⟩:=bind_some hs;obtain rfl:=aF hs;refine⟨es,s,?_,(j v p),A⟩;simp only[ba,ade,JJ,BD];rw[show es.length=q.length by rw[l,n.length],Lj]
   | succ k =>
     simp only[vB] at e;cases g:vB b k with
     | none=>rw[g] at e;cases e
     | some r =>
       rw[g] at e;obtain⟨rfl,rfl⟩:=e;obtain⟨z,E,hs⟩:=bind_some hs;obtain rfl:=aF hs;have:=m A g j E l;refine⟨q,ba s r.1 es,?_,n,this⟩;simp only[ba,<-n.length,acR,vL];rw[En,<-Af,Lj]
 | _=>intro cs k o u c f es h e;cases k<;>simp[vB] at e
def yd:∀{p v u cs},cu γ mem w v .cells cs->(nav p v).run=aa u->eg p+dS u<=cs.length/\cu γ mem w u .cells ((cs.drop<|eg p).take<|dS u):=by
 intro p;induction p with
 | nil =>
   intro v u cs h hn;obtain rfl:=aF hn;have g:=h.length;refine⟨by simp[eg];omega,?_⟩;rw[show eg []=0 from rfl,DG,<-g,yI];exact h
 | cons s p q =>
   intro v u cs h hn;cases s with
   | gB k off =>
     simp only[nav] at hn;cases j:vB v k with
     | none=>rw[j] at hn;cases hn
     | some r =>
       rw[j] at hn;obtain⟨m,b⟩:=ay hn;obtain⟨E,t⟩:=zp h j;obtain⟨z,c⟩:=q t b;have g:=t.length;simp only[eg,<-(gA m)];refine⟨ag,?_⟩;rw[Y9,Oj,Af,wO ag] at c;exact c
   | idx i size =>
     simp only[nav] at hn;split at hn
     .rename_i n e l;obtain⟨m,b⟩:=ay hn;obtain⟨x,A,o⟩:=cd b;obtain⟨F,f⟩:=uT A;obtain⟨G,H,C⟩:=h;have y:=C _ x f;obtain⟨z,c⟩:=q (v:=.data e x) y o;have g:=y.length;have hi:i.toNat<n:=by have:=(hR.1 f).1;omega
      have D:_*e.size<=n*e.size:=gN _ hi;rw[Hf] at D;simp only[eg,(gA m)];refine⟨ag,?_⟩;rw[Y9,Oj,Af,wO ag] at c;exact c
     .cases hn
def uc cs a b n es (h:b+es.length<=n) (hn:a+n<=cs.length) :
  ba cs a (ba ((cs.drop a).take n) b es)=ba cs (a+b) es:=by
 have e:((cs.drop a).take n).length=n:=cJ;have c:(ba ((cs.drop a).take n) b es).length=n:=by rw[bP ag,e]
 have f:ba cs a (ba ((cs.drop a).take n) b es)=cs.take a++ba ((cs.drop a).take n) b es++cs.drop (a+n):=by
  rw[ba,c]
 rw[f];simp only[ba,vL];rw[Oj,wO ag,<-vL,<-List.take_add];have:cs.drop (a+n)=(cs.drop a).drop n:=by rw[Af]
 rw[this,<-aav (by rw[e];exact h),Fk,Af,En]
def LB{I e n}{l:List e.den}{cs es i y}(r:l.length=n)(s:n*e.size<=cs.length)
  (h:∀j x,l[j]?=aa x->bH w I e x ((cs.drop<|j*e.size).take e.size)) (k:i<n) (m:bH w I e y es) :
  ∀j x,(l.set i y)[j]?=aa x->bH w I e x (((ba cs (i*e.size) es).drop<|j*e.size).take e.size):=by
 intro j x b;have o:=m.length;have t:_*e.size<=n*e.size:=gN _ k;rw[List.getElem?_set] at b;split at b
 .rename_i c;split at b
  .obtain rfl:=aF b;have:((ba cs (i*e.size) es).drop<|i*e.size).take e.size=es:=by
    rw[ba]
    grind
   grind
  .cases b
 .rename_i c;have p:j<n:=by have:=(hR.1 b).1;omega
  have f:_*e.size<=n*e.size:=gN _ p;rw[Hf] at f;have key:((ba cs (i*e.size) es).drop<|j*e.size).take e.size=(cs.drop<|j*e.size).take e.size:=by
   apply DE;intro q;rw[jq,jq];split
   .rename_i u;rw[tu,tu,ba];rcases rR j i with g|g
    .have:_*e.size<=i*e.size:=gN _ g
     grind
    .have:(i+1)*e.size<=j*e.size:=gN _ ag
     grind
   .rfl
  grind
def An:∀{p v D u c cs es},cu γ mem w v .cells cs->(nav p v).run=aa D->(Ag p v u).run=aa c->cu γ mem w u .cells es->es.length=dS D ->
  cu γ mem w c .cells (ba cs (eg p) es):=by
 intro p;induction p with
 | nil =>
   intro v D u c cs es h hn hs F o;obtain rfl:=aF hn;obtain rfl:=aF hs;have:=h.length;simp only[eg,ba]
   grind
 | cons s p M =>
   intro v D u c cs es h hn hs F o;cases s with
   | gB k off =>
     simp only[nav] at hn;cases E:vB v k with
     | none=>rw[E] at hn;cases hn
     | some r =>
       rw[E] at hn;obtain⟨G,b⟩:=ay hn;obtain⟨T,H⟩:=zp h E;obtain⟨q,U⟩:=yd H b;have j:=H.length;rw[j] at q;have:=Am (f:=λw=>Ag p w u) h E (λz I=>M H b I F o) hs (by rw[bP<|by rw[j,o];exact q,j]);rw[uc cs r.1 _ _ es ag T,(gA G)] at this;exact this
   | idx i size =>
     simp only[nav] at hn;split at hn
     .rename_i n e l;obtain⟨G,b⟩:=ay hn;obtain⟨x,O,t⟩:=cd b;obtain⟨V,J,K⟩:=cd hs;obtain rfl:x=V:=aF (O.symm.trans J);obtain⟨z,I,g⟩:=bind_some K;cases L:toS e z with
      | none=>rw[L] at g;cases g
      | some y =>
        rw[L] at g;obtain rfl:=aF g;obtain⟨Z,A⟩:=uT O;obtain⟨Q,W,R⟩:=h;have S:=R _ x A;have hi:i.toNat<n:=by have:=(hR.1 A).1;omega
        have X:_*e.size<=n*e.size:=gN _ hi;rw[Hf] at X;have C:cu γ mem w (.data e x) .cells _:=S;obtain⟨q,U⟩:=yd C t;have m:=S.length;rw[m] at q;have Y:(ba ((cs.drop<|i.toNat*e.size).take e.size) (eg p) es).length=e.size:=by rw[bP<|by rw[m,o];exact q,m]
        simp only[eg,(gA G)];rw[<-(uc cs _ _ e.size es ag ag)];refine⟨(@List.length_set _ l _ _).trans Q,?_,LB Q ag R hi (KH L<|M C t I F o)⟩
        .rw[bP ag];exact W
     .cases hn
end
open RowKit
section
variable {B:BT} {γ bz:Gh} {mem mem':Nat->Option Box} {w w':World}
def ew.keep{c p}(h:ew γ mem w c p)(q:Ext B γ mem w bz mem' w')(r:bz.loc c=γ.loc c)
  (v:∀b k,γ.loc c=aa (b,k)->w'.heap[b]?=w.heap[b]?):ew bz mem' w' c p:=by
 unfold ew at h⊢;cases g:p.buf with
 | true =>
   rw[g] at h;obtain⟨e,l,y,z,f⟩:=h;refine⟨e,l,y,z,?_⟩;rcases f with ⟨f,n⟩|⟨b,j,m,tid,s,f,n,t,o,u,A,C,D⟩
   .exact .inl ⟨r.trans f,n⟩
   .exact .inr ⟨b,j,m,tid,s,r.trans f,(v _ _ f).trans n,t,o,u,A,C,λi x E=>bH.mono q.I q.cells (D i x E)⟩
 | false =>
   rw[g] at h;obtain⟨b,j,m,tid,s,f,n,t,F,u⟩:=h;exact⟨b,j,m,tid,s,r.trans f,(v _ _ f).trans n,t,F,u.ext q⟩
def dH{a}(h:w'.heap[a.block]?=w.heap[a.block]?):w'.cell? a=w.cell? a:=by simp[World.cell?,h]
def bK(c:Gh)(b:Nat)(L:Option (Nat×Nat)):Gh:={ c with loc:=λi=>if i=b then L else c.loc i }
def dd(c:Nat->Option Box)(b:Nat)(bx:Box):Nat->Option Box:=λi=>bif Nat.beq i b then aa bx else c i
def bB b bx:dd mem b bx b=aa bx:=by simp[dd]
def aZ{b c} e (h:c≠b):dd mem b e c=mem c:=by simp[dd,iJ h]
def vQ(h:bC B γ mem w){b bx L}(f:∀g,mem b=aa g->g.aM<bx.aM)
  (m:vD B w w') (i:∀k,k<w.heap.size->w'.heap[k]?=w.heap[k]?):Ext B γ mem w (bK γ b L) (dd mem b bx) w' where
 below:=m
 I:=λ_ _ x=>x
 qV:=λ_ _ x=>.inl x
 cells:=λj o x=>dH (i j<|h.te j o x)
 boxes:=λc cx l=>by
  by_cases e:c=b
  .subst e;refine⟨bx,bB _ _,Nat.le_of_lt (f _ l),λe=>absurd e ?_⟩;have:=f _ l;omega
  .exact⟨cx,by rw[aZ _ e];exact l,bX _,λ_=>⟨by simp[bK,e],rfl,rfl⟩⟩
def bC.add(h:bC B γ mem w){b bx L}(m:∀p,mem b=aa p->p.aM<bx.aM)
  (q:vD B w w') (j:∀k,k<w.heap.size->w'.heap[k]?=w.heap[k]?) (r:∀f k,L=aa (f,k)->w.heap.size<=f/\f<w'.heap.size)
  (u:ew (bK γ b L) (dd mem b bx) w' b bx):bC B (bK γ b L) (dd mem b bx) w' where
 tf:=h.BU (vQ (L:=L) h m q j)
 base:=gi h.base q.size
 boxes:=λc cx g=>by
  by_cases e:c=b
  .subst e;rw[bB] at g;obtain rfl:=aF g;exact u
  .rw[aZ _ e] at g;refine(h.boxes c cx g).keep (vQ h m q j) (by simp[bK,e]) λf k x=>j f (h.fresh c f k (by rw[g];simp) x).2
 inj:=λc d f k v g s i n=>by
  by_cases e:c=b
  .by_cases o:d=b
   .rw[e,o]
   .exfalso;simp only[bK,aN e] at i;simp only[bK,aJ o] at n;rw[aZ _ o] at s;have:=(h.fresh d f v s n).2;have:=(r _ _ i).1;omega
  .by_cases o:d=b
   .exfalso;simp only[bK,aJ e] at i;simp only[bK,aN o] at n;rw[aZ _ e] at g;have:=(h.fresh c f k g i).2;have:=(r _ _ n).1;omega
   .simp only[bK,aJ e] at i;simp only[bK,aJ o] at n;rw[aZ _ e] at g;rw[aZ _ o] at s;exact h.inj c d f k v g s i n
 fresh:=λc f k g i=>by
  by_cases e:c=b
  .simp only[bK,aN e] at i;obtain⟨n,y⟩:=r _ _ i;exact⟨.inl (by have:=h.base;omega),y⟩
  .simp only[bK,aJ e] at i;rw[aZ _ e] at g;have:=h.fresh c f k g i;exact⟨this.1,zf this.2 q.size⟩
 te:=λf l t=>zf (h.te f l t) q.size
 sep:=λc cx f k l g i t=>by
  by_cases e:c=b
  .exfalso;simp only[bK,aN e] at i;have:=(r _ _ i).1;have:=h.te f l t;omega
  .simp only[bK,aJ e] at i;rw[aZ _ e] at g;exact h.sep c cx f k l g i t
def da(w:World) o:∀k,k<w.heap.size->(w.alloc o).heap[k]?=w.heap[k]?:=λk b=>Below.heap_alloc w o k b
def uU cs:ni cs (0,0):=λo _ h=>ag
def wX e cs:ThB e cs (0,0):=⟨uU cs,λ_ h=>ag⟩
def bC.newVar(h:bC B γ mem w){b v tid aM}(c:∀f,mem b=aa f->f.aM<aM){cs} g (i:tid=0\/g=tid) (hv:cu γ mem w v .cells cs.toList) :
  let bx:Box:={ val:=v,tid,buf:=false,ro:=false,lk:=false,aM }
  bC B (bK γ b<|some (w.heap.size,0)) (dd mem b bx) (w.alloc<|.cells cs g)/\Ext B γ mem w (bK γ b<|some (w.heap.size,0)) (dd mem b bx) (w.alloc<|.cells cs g):=by
 intro bx;have j:vD B w (w.alloc<|.cells cs g):=(vD.refl _ _).alloc h.base _;have hx:=vQ (L:=aa (w.heap.size,0)) h (bx:=bx) c j (da w _);refine⟨h.add c j (da w _) (λl k e=>by obtain⟨rfl,rfl⟩:=eh (aF e);exact⟨bX _,aS⟩) ?_,hx⟩;exact⟨w.heap.size,0,cs,g,_,by simp[bK],heap_alloc_new w _,uU cs,i,hv.ext hx⟩
def bC.adG(h:bC B γ mem w){b e}{l:List e.den}{tid aM cap blk}(f:∀m,mem b=aa m->m.aM<aM){cs o p}(v:0<e.size)
  (u:vD B w w') (g:∀k,k<w.heap.size->w'.heap[k]?=w.heap[k]?) (r:w.heap.size<=blk) (j:w'.heap[blk]?=aa (.cells cs o p)) (s:ThB e cs p) (n:tid=0\/o=tid)
  (y:l.length<=cap) (z:cap<=maxLen) (A:cs.size=cap*e.size) (C:∀i x,l[i]?=aa x->bH w' γ.I e x ((cs.toList.drop<|i*e.size).take e.size)) :
  let t:Box:={ val:=.data (.slice e) l,tid,buf:=true,ro:=false,lk:=false,aM }
  bC B (bK γ b<|some (blk,cap)) (dd mem b t) w'/\Ext B γ mem w (bK γ b<|some (blk,cap)) (dd mem b t) w':=by
 intro t;refine⟨h.add f u g (λc k q=>by obtain⟨rfl,rfl⟩:=eh (aF q);exact⟨r,((wL.1 j).1)⟩) ?_,(vQ h f u g)⟩;exact⟨e,l,rfl,v,.inr ⟨blk,cap,cs,o,p,by simp[bK],j,s,n,y,z,A,C⟩⟩
def bC.LC(h:bC B γ mem w){b e}{l:List e.den}{tid aM cap}(f:∀g,mem b=aa g->g.aM<aM){cs p r}(s:0<e.size)
  (t:vD B w w') (c:∀k,k<w.heap.size->w'.heap[k]?=w.heap[k]?) (j:w'.heap[w.heap.size]?=aa (.cells cs p r)) (n:ThB e cs r) (m:tid=0\/p=tid)
  (u:l.length<=cap) (v:cap<=maxLen) (y:cs.size=cap*e.size) (z:∀i x,l[i]?=aa x->bH w γ.I e x ((cs.toList.drop<|i*e.size).take e.size)) :
  let bx:Box:={ val:=.data (.slice e) l,tid,buf:=true,ro:=false,lk:=false,aM }
  bC B (bK γ b<|some (w.heap.size,cap)) (dd mem b bx) w'/\Ext B γ mem w (bK γ b<|some (w.heap.size,cap)) (dd mem b bx) w' :=
 h.adG f s t c (bX _) j n m u v y λi x A =>
  bH.mono (λ_ _ q=>q) (λblk o q=>dH (c blk<|h.te blk o q)) (z i x A)
def bC.Hq(h:bC B γ mem w){b e tid aM}(c:∀f,mem b=aa f->f.aM<aM)(i:0<e.size) :
  let g:Box:={ val:=.data (.slice e) ([]),tid,buf:=true,ro:=false,lk:=false,aM }
  bC B (bK γ b af) (dd mem b g) w/\Ext B γ mem w (bK γ b af) (dd mem b g) w:=by
 intro g;refine⟨h.add c (vD.refl B w) (λ_ _=>rfl) (λj k e=>by cases e) ?_,(vQ h c (vD.refl B w) λ_ _=>rfl)⟩;exact⟨e,[],rfl,i,.inl ⟨by simp[bK],rfl⟩⟩
def FF{c off}(h:WW c off)(b:c.ro=false):False:=by rw[WW,b] at h;exact absurd h.1 aS
def bC.write(h:bC B γ mem w){b bx}(m:mem b=aa bx)(q:bx.ro=false){blk k}(r:γ.loc b=aa (blk,k)){cur cur' t y}
  (C:w.heap[blk]?=aa (.cells cur t y)) (J:cur'.size=cur.size) {v} (s:({ bx with val:=v }:Box).row=bx.row)
  (z:∀w' mem',Ext B γ mem w γ mem' w'->w'.heap[blk]?=aa (.cells cur' t y)->ew γ mem' w' b { bx with val:=v }) :
  bC B γ (dd mem b { bx with val:=v }) (w.setRow blk cur')/\Ext B γ mem w γ (dd mem b { bx with val:=v }) (w.setRow blk cur'):=by
 have g:=λi n=>setRow_other w blk i cur' (n);have hx:Ext B γ mem w γ (dd mem b { bx with val:=v }) (w.setRow blk cur') :=
  { below:=⟨rfl,rfl,rfl,aS,λi n=>g i λe=>n (by rw[e];exact(h.fresh b blk k (by rw[m];simp) r).1)⟩
    I:=λ_ _ x=>x
    qV:=λ_ _ x=>.inl x
    cells:=λc o x=>by
     by_cases e:c=blk
     .subst e;exact(FF (h.sep b bx c k o m r x) q).elim
     .exact dH (g c e)
    boxes:=λc cx j=>by
     by_cases e:c=b
     .subst e;obtain rfl:cx=bx:=aF (j.symm.trans m);exact⟨_,bB _ _,bX _,λ_=>⟨rfl,rfl,s⟩⟩
     .exact⟨cx,by rw[aZ _ e];exact j,bX _,λ_=>⟨rfl,rfl,rfl⟩⟩ }
 refine⟨?_,hx⟩;exact
  { tf:=h.BU hx
    base:=by have:=h.base;simpa using this
    boxes:=λc cx j=>by
     by_cases e:c=b
     .subst e;rw[bB] at j;obtain rfl:=aF j;exact z _ _ hx (setRow_heap w blk cur cur' t y C)
     .rw[aZ _ e] at j;refine(h.boxes c cx j).keep hx rfl λf u A=>g f λD=>e ?_;subst D;exact h.inj c b f u k (by rw[j];simp) (by rw[m];simp) A r
    inj:=λc d f E F j G p H=>h.inj c d f E F (by
     by_cases e:c=b
     .subst e;rw[m];simp
     .rwa [aZ _ e] at j) (by
     by_cases e:d=b
     .subst e;rw[m];simp
     .rwa [aZ _ e] at G) p H
    fresh:=λc f u j p=>by
     have:=h.fresh c f u (by
      by_cases e:c=b
      .subst e;rw[m];simp
      .rwa [aZ _ e] at j) p
     exact⟨this.1,by simpa using this.2⟩
    te:=λf l n=>by have:=h.te f l n;simpa using this
    sep:=λc cx f u l j p n=>by
     by_cases e:c=b
     .subst e;rw[r] at p;obtain⟨rfl,rfl⟩:=eh (aF p);exact(FF (h.sep c bx blk k l m r n) q).elim
     .rw[aZ _ e] at j;exact h.sep c cx f u l j p n }
def LD(f:Gh)(b:Nat)(n:Nat):Gh:={ f with I:=λc e=>f.I c e\/((∃k,f.loc b=aa (c,k))/\e<n) }
def bC.freeze(h:bC B γ mem w){b j}(l:mem b=aa j){e n}(r:j.row=aa (e,n)) :
  bC B (LD γ b<|n*e.size) (dd mem b { j with ro:=true }) w/\Ext B γ mem w (LD γ b<|n*e.size) (dd mem b { j with ro:=true }) w:=by
 have hx:Ext B γ mem w (LD γ b<|n*e.size) (dd mem b { j with ro:=true }) w :=
  { below:=vD.refl _ _
    I:=λ_ _ x=>.inl x
    qV:=λy o x=>by
     rcases x with x|⟨⟨k,x⟩,_⟩
     .exact .inl x
     .exact .inr (h.fresh b y k (by rw[l];simp) x).1
    cells:=λ_ _ _=>rfl
    boxes:=λc cx g=>by
     by_cases e:c=b
     .subst e;obtain rfl:cx=j:=aF (g.symm.trans l);exact⟨_,bB _ _,bX _,λ_=>⟨rfl,rfl,rfl⟩⟩
     .exact⟨cx,by rw[aZ _ e];exact g,bX _,λ_=>⟨rfl,rfl,rfl⟩⟩ }
 refine⟨?_,hx⟩;exact
  { tf:=h.BU hx
    base:=h.base
    boxes:=λc cx g=>by
     by_cases e:c=b
     .subst e;rw[bB] at g;obtain rfl:=aF g;have:=(h.boxes c j l).keep hx rfl (λ_ _ _=>rfl);exact this
     .rw[aZ _ e] at g;exact(h.boxes c cx g).keep hx rfl (λ_ _ _=>rfl)
    inj:=λc d f C D g E q F=>h.inj c d f C D (by
     by_cases e:c=b
     .subst e;rw[l];simp
     .rwa [aZ _ e] at g) (by
     by_cases e:d=b
     .subst e;rw[l];simp
     .rwa [aZ _ e] at E) q F
    fresh:=λc f s g q=>h.fresh c f s (by
     by_cases e:c=b
     .subst e;rw[l];simp
     .rwa [aZ _ e] at g) q
    te:=λf p i=>by
     rcases i with i|⟨⟨k,v⟩,_⟩
     .exact h.te f p i
     .exact(h.fresh b f k (by rw[l];simp) v).2
    sep:=λc cx f s p g q i=>by
     by_cases z:c=b
     .subst z;rw[bB] at g;obtain rfl:=aF g;rcases i with i|⟨⟨k,v⟩,A⟩
      .obtain⟨J,G⟩:=h.sep c j f s p l q i;exact⟨rfl,G⟩
      .refine⟨rfl,λ_ u m H=>?_⟩;have t:j.row=aa (u,m):=H;rw[r] at t;obtain⟨rfl,rfl⟩:=eh (aF t);exact A
     .rw[aZ _ z] at g;rcases i with i|⟨⟨k,v⟩,A⟩
      .exact h.sep c cx f s p g q i
      .exact absurd (h.inj c b f s k (by rw[g];simp) (by rw[l];simp) q v) z }
end
end Go.Ge
namespace Go.Ge
open RowKit
def nU(P:Program)(B:BT)(N:Nat)(γ:Gh)(c:St)(a:Act)(w:World)(d:Option Nat)(s:Sem Value)(b:St):Prop :=
 ∃v w' bz,s.run P w=.ok v w'/\dm B N bz b (a.put d v) w'/\Ext B γ c.mem w bz b.mem w'
section
variable {P:Program} {B:BT} {N:Nat} {γ:Gh} {σ aQ:St} {a:Act} {w:World} {d:Option Nat}
def bM(h:dm B N γ σ a w)(b:∀k,d=aa k->k<N){s v x}(c:s.run P w=.ok x w)(e:cu γ σ.mem w v .val [x]) :
  nU P B N γ σ a w d s (σ.bt d v) :=
 ⟨x,w,γ,c,h.wW b e,by cases d<;>exact Ext.refl _ _ _ _⟩
def dQ{β b val tid buf}{k:Nat->St->Tree β}{y}(h:(σ.bu b val tid buf k).run=aa y) :
  ∃aM,(∀c,σ.mem b=aa c->c.aM<aM)/\(k aM<|σ.cr b { val,tid,buf,ro:=false,lk:=false,aM }).run=aa y:=by
 unfold St.bu at h;split at h
 .rename_i bx f;cases e:bx.lk with
  | true=>rw[e] at h;cases h
  | false =>
    grind
 .grind
def wY(c:St) b e:(c.cr b e).mem=dd c.mem b e:=rfl
def fY{mem b aM bx}(h:mem b=aa bx)(e:bx.aM=aM){K}(c:K bx):nT mem b aM K :=
 ⟨bx,h,ag,λ_=>c⟩
def zq{cx}(l:fi P cx){nb bf ty x}(h:dm B N γ σ a w)(c:∀k,d=aa k->k<N)
  (b:(kk cx nb bf d ty (cW σ x) σ).run=aa aQ):nU P B N γ σ a w d (pure<|a.eval x) aQ:=by
 have hv:=h.cW x;unfold kk at b;split at b
 .rename_i hn;rw[hn] at hv;obtain⟨_,b⟩:=ay b;obtain rfl:=aF b;exact bM h c rfl hv
 .rename_i hn;rw[hn] at hv;have hx:a.eval x=.slice af 0 0:=by simpa [cu] using hv
  split at b
  .rename_i k e m;cases i:cU bf k with
   | true =>
     rw[i] at b;simp at b;obtain⟨n,f,g⟩:=dQ b;obtain rfl:=aF g;obtain⟨o,q,r,s,p⟩:=(l.T _ _ m).slice;obtain⟨m1,j⟩:=h.ok.Hq f p;refine⟨_,w,_,rfl,h.step j m1 (c k rfl) ?_,j⟩;rw[hx];exact⟨⟨_,rfl,rfl⟩,fY (bB _ _) rfl ⟨e,0,rfl,rfl,.inl ⟨by simp[bK],rfl⟩⟩⟩
   | false =>
     rw[i] at b;obtain rfl:=aF b;exact bM h c rfl (by rw[hx];exact⟨_,.inl ⟨⟨af,rfl⟩,rfl⟩,rfl⟩)
  .obtain rfl:=aF b;exact bM h c rfl (by rw[hx];rfl)
 .obtain rfl:=aF b;exact bM h c rfl hv
def Ao{b:Bool}{v}(h:cu γ σ.mem w (.data .bool b) .val [v]):v=.bool b:=by
 obtain⟨c,e,f⟩:=ej.1 h;rw[f,show c=_ from e];rfl
def vm{k}{n:Int}{v}(h:cu γ σ.mem w (.data (.int k) n) .val [v]):v=.int k n/\k.min<=n/\n<=k.max:=by
 obtain⟨e,b,c⟩:=ej.1 h;rw[c,b.1];exact⟨rfl,b.2⟩
def yP{s:bg}{v}(h:cu γ σ.mem w (.data .str s) .val [v]):v=.string ⟨s.toArray⟩/\s.length<=maxLen:=by
 obtain⟨cs,b,c⟩:=ej.1 h;rw[c,b.1];exact⟨rfl,b.2⟩
def gQ(b:Bool):cu γ σ.mem w (.data .bool b) .val [.bool b]:=⟨_,rfl,rfl⟩
def mkInt{k:IntKind}{n}(h:k.min<=n/\n<=k.max):cu γ σ.mem w (.data (.int k) n) .val [.int k n]:=⟨_,⟨rfl,h.1,h.2⟩,rfl⟩
def mkStr{s:bg}(h:s.length<=maxLen):cu γ σ.mem w (.data .str s) .val [.string ⟨s.toArray⟩]:=⟨_,⟨rfl,h⟩,rfl⟩
def LF{c x y}(h:dm B N γ σ a w)(j:∀k,d=aa k->k<N)(f:(pO d (cW σ c) (cW σ x) (cW σ y) σ).run=aa aQ) :
  nU P B N γ σ a w d (do pure (if <-asBool (a.eval c) then a.eval x else a.eval y)) aQ:=by
 have p:=h.cW c;have hx:=h.cW x;have hy:=h.cW y;unfold pO at f;split at f
 .rename_i i l;rw[l] at p;have b:(do pure (if <-asBool (a.eval c) then a.eval x else a.eval y):Sem Value).run P w=.ok (if(show Bool from i)=true then a.eval x else a.eval y) w:=by
   rw[(Ao p)];cases i<;>rfl
  split at f
  .rename_i t r u s m n;rw[m] at hx;rw[n] at hy;split at f
   .rename_i v o;obtain rfl:=aF f;obtain⟨e,q⟩:=Ty.lO o;subst e;subst q;refine bM h j b ?_;cases i
    .exact hy
    .exact hx
   .cases f
  .have g:=gG f;cases i
   .obtain rfl:=aF g;exact bM h j b hy
   .obtain rfl:=aF g;exact bM h j b hx
 .cases f
def fJ(k:IntKind) n:k.min<=k.wrap n/\k.wrap n<=k.max:=wrap_within k n
def agt{k:IntKind}{x y:Int}(h:k.min<=x/\x<=k.max):k.min<=x.tmod y/\x.tmod y<=k.max:=by
 have b:k.min<=0:=by cases k<;>decide
 have c:0<=k.max:=by cases k<;>decide
 have f:(x.tmod y).natAbs<=x.natAbs:=by
  rw[Int.natAbs_tmod];apply Nat.mod_le
 rcases Int.le_total 0 x with e|e
 .have:=Int.tmod_nonneg y e;omega
 .have:x.tmod y<=0:=by
   have:=Int.tmod_nonneg y (show 0<=-x by omega);simp_all
  omega
def agu{k:IntKind}{x} n (h:k.min<=x/\x<=k.max):k.min<=x.fdiv (2 ^ n)/\x.fdiv (2 ^ n)<=k.max:=by
 have f:k.min<=0:=by cases k<;>decide
 have g:0<=k.max:=by cases k<;>decide
 have b:(0:Int)<2 ^ n:=Int.pow_pos aD;have e:x.fdiv _=x / 2 ^ n:=ahZ _ ag;rcases Int.le_total 0 x with c|c
 .have j:=Int.ediv_nonneg c (Int.le_of_lt b);have i:=Int.ediv_le_self (2 ^ n) c;omega
 .have i:x / 2 ^ n<1:=Int.ediv_lt_of_lt_mul b ag;have l:x<=x / 2 ^ n:=by
   rw[Int.le_ediv_iff_mul_le b];have:=Int.mul_le_mul_of_nonpos_left c b
   grind
  omega
def Rt{op l}(h:Fs op=aa l):(op=.shl/\l=true)\/(op=.shr/\l=false):=by
 cases op<;>simp[Fs] at h<;>simp[h]
def tB{op l}(h:isEq op=aa l):(op=.eql/\l=true)\/(op=.neq/\l=false):=by
 cases op<;>simp[isEq] at h<;>simp[h]
def hS(b:BinOp)(c:TypeId)(x y:Operand)(u v:Value):Sem Value:=do eqGuard b c x y u v;binOp b c u v
def Ru{op k n m v g x y}(h:k.min<=n/\n<=k.max)(f:Fs op=af)(c:(WM op k n m).run=aa v) :
  ∃r,(hS op g x y (.int k n)<|.int k m).run P w=.ok r w/\cu γ σ.mem w v .val [r]:=by
 unfold hS;cases op<;>simp only[eqGuard_at_int]<;>simp only[WM] at c
 case add=>obtain rfl:=aF c;exact⟨.int k _,by simp only[binOp_add];rfl,mkInt (fJ _ _)⟩
 case sub=>obtain rfl:=aF c;exact⟨.int k _,by simp only[binOp_sub];rfl,mkInt (fJ _ _)⟩
 case mul=>obtain rfl:=aF c;exact⟨.int k _,by simp only[binOp_mul];rfl,mkInt (fJ _ _)⟩
 case quo =>
  have b:=gG c;cases e:aG m 0
  .rw[e] at b;obtain rfl:=aF b;exact⟨.int k _,by simp only[binOp_quo,Op.intDiv,aJ (by simpa [aG] using e)];rfl,mkInt (fJ _ _)⟩
  .rw[e] at b;cases b
 case rem =>
  have b:=gG c;cases e:aG m 0
  .rw[e] at b;obtain rfl:=aF b;exact⟨.int k _,by simp only[binOp_rem,Op.intDiv,aJ (by simpa [aG] using e)];rfl,mkInt (agt h)⟩
  .rw[e] at b;cases b
 case and=>obtain rfl:=aF c;exact⟨.int k _,by simp only[binOp_and];rfl,mkInt (fJ _ _)⟩
 case or=>obtain rfl:=aF c;exact⟨.int k _,by simp only[binOp_or];rfl,mkInt (fJ _ _)⟩
 case xor=>obtain rfl:=aF c;exact⟨.int k _,by simp only[binOp_xor];rfl,mkInt (fJ _ _)⟩
 case andNot=>obtain rfl:=aF c;exact⟨.int k _,by simp only[binOp_andNot];rfl,mkInt (fJ _ _)⟩
 case shl=>cases f
 case shr=>cases f
 case eql=>obtain rfl:=aF c;exact⟨.bool _,by simp[binOp];rfl,gQ _⟩
 case neq=>obtain rfl:=aF c;exact⟨.bool _,by simp[binOp,nt];rfl,gQ _⟩
 case lss=>obtain rfl:=aF c;exact⟨.bool _,by simp[binOp,Op.intCmp,aU],gQ _⟩
 case leq=>obtain rfl:=aF c;exact⟨.bool _,by simp[binOp,Op.intCmp,cw],gQ _⟩
 case gtr=>obtain rfl:=aF c;exact⟨.bool _,by simp[binOp,Op.intCmp,aU],gQ _⟩
 case geq=>obtain rfl:=aF c;exact⟨.bool _,by simp[binOp,Op.intCmp,cw],gQ _⟩
def jT s:(⟨s.toArray⟩:ByteArray).toList=s:=by rw[ByteArray.toList_eq]
def aaD s t:(s==t)=br s t:=by rw[Rg];simp[br]
def Rv{op s t v f x y}(b:(WN op s t).run=aa v) :
  ∃r,(hS op f x y (.string ⟨s.toArray⟩)<|.string ⟨t.toArray⟩).run P w=.ok r w/\cu γ σ.mem w v .val [r]:=by
 unfold hS;cases op<;>simp only[eqGuard_at_string,Sem.run_bind,Sem.run_pure,Result.andThen_ok]<;>simp only[WN] at b<;>try (cases b;done)
 case add =>
  obtain⟨g,c⟩:=cQ b;obtain rfl:=aF c;have i:s.length+t.length<=4294967296:=by have h:=fU g;simp only[plus,len] at h;omega
  refine⟨.string ⟨(s++t).toArray⟩,?_,mkStr (by simp only[app,jt,maxLen];omega)⟩;have e:∀l:bg,(⟨l.toArray⟩:ByteArray).size=l.length:=λl=>rfl;have:¬(((s.length+t.length:Nat):Int) > IntKind.i64.max):=by rw[IntKind.max_i64];omega
  simp only[binOp,Op.stringOp,e,this]
  congr 2
 case eql=>obtain rfl:=aF b;exact⟨.bool _,by simp only[binOp,Op.stringOp,jT,aaD,Sem.run_pure],gQ _⟩
 case neq=>obtain rfl:=aF b;exact⟨.bool<|nt _,by simp only[binOp,Op.stringOp,jT,aaD,Sem.run_pure];rfl,gQ _⟩
 case lss=>obtain rfl:=aF b;exact⟨.bool _,by simp only[binOp,Op.stringOp,jT,aaD,Sem.run_pure];rfl,gQ _⟩
 case leq=>obtain rfl:=aF b;exact⟨.bool _,by simp only[binOp,Op.stringOp,jT,aaD,Sem.run_pure];rfl,gQ _⟩
 case gtr=>obtain rfl:=aF b;exact⟨.bool<|nt _,by simp only[binOp,Op.stringOp,jT,aaD,Sem.run_pure];rfl,gQ _⟩
 case geq=>obtain rfl:=aF b;exact⟨.bool _,by simp only[binOp,Op.stringOp,jT];rfl,gQ _⟩
def T9{op left k c n m e x y}(f:k.min<=n/\n<=k.max)(g:Fs op=aa left)(h:aU m 0=false) :
  ∃r,(hS op e x y (.int k n)<|.int c m).run P w=.ok r w/\cu γ σ.mem w (.data (.int k)<|bif left then nO k n m else jv k n m) .val [r]:=by
 have b:¬m<0:=by simpa [aU] using h
 unfold hS;rcases Rt g with ⟨rfl,rfl⟩|⟨rfl,rfl⟩
 .exact⟨.int k _,by simp only[ binOp_shl,Op.shift,aJ b];rfl,mkInt (fJ _ _)⟩
 .exact⟨.int k _,by simp only[ binOp_shr,Op.shift,aJ b];rfl,mkInt (agu _ f)⟩
def CY{t tid}(c:Den P t tid){cs off}(h:off+t.size<=cs.size)(f:t.isAgg=false->t.size=1) :
  (part tid cs off).run P w=.ok (cZ t<|(cs.toList.drop off).take t.size) w:=by
 unfold part;rw[Sem.run_bind,c.agg w];cases b:t.isAgg with
 | true =>
   simp only[x9,Sem.run_bind,c.sizeOf w,Result.andThen_ok,Sem.run_pure,cZ,b]
   congr 2
   grind
 | false =>
   have hs:=f b;simp only[ cZ];have g:off<cs.size:=ag;have e:(cs.toList.drop off).take 1=[cs[off]]:=by
    apply DE
    grind
   simp_all
def uV:∀{t:Ty},t.isAgg=false->t.size=1:=by
 intro t h;induction t with
 | alt u a r c b=>exact b h
 | arr|pair|unit=>cases h
 | _=>rfl
def DX{γ:Gh}{w:World}:∀(t:Ty),(∀(d:Nat) (tid:TypeId) (x y:t.den) (cx cy:List Value) (c:Bool),Den P t tid->bH w γ.I t x cx->bH w γ.I t y cy->Ty.eqv t x y=aa c->t.JK<d ->
   (Op.equalIn d tid (cZ t cx)<|cZ t cy).run P w=.ok c w) /\
  (∀(d off:Nat) (o:List Field) (x y:t.den) (cx cy:List Value) (l m:Array Value) (c:Bool),rN P t off o->bH w γ.I t x cx->bH w γ.I t y cy->Ty.eqv t x y=aa c->t.JK<d ->
   l.toList.drop off=cx->m.toList.drop off=cy->off<=l.size->off<=m.size->(Op.eqFields d l m o).run P w=.ok c w):=by
 intro t;induction t with
 | int k =>
   refine⟨λd tid x y cx cy c g s v j hs=>?_,λd off o x y cx cy l m c g=>by simp[rN,gj] at g⟩;obtain⟨d,rfl⟩:∃e,d=e+1:=⟨d-1,ag⟩;rw[s.1,v.1];obtain rfl:=aF j;show(Op.equalIn (d+1) tid (.int k x)<|.int k y).run P w=_
   rw[run_equalIn_int w d tid k k x y g.int]
   congr 1
 | bool =>
   refine⟨λd tid x y cx cy c g s v j hs=>?_,λd off o x y cx cy l m c g=>by simp[rN,gj] at g⟩;obtain⟨d,rfl⟩:∃e,d=e+1:=⟨d-1,ag⟩;rw[show cx=_ from s,show cy=_ from v];obtain rfl:=aF j;exact run_equalIn_bool' w d tid x y g.bool
 | str =>
   refine⟨λd tid x y cx cy c g s v j hs=>?_,λd off o x y cx cy l m c g=>by simp[rN,gj] at g⟩;obtain⟨d,rfl⟩:∃e,d=e+1:=⟨d-1,ag⟩;rw[s.1,v.1];obtain rfl:=aF j;have F:=run_equalIn_string w d tid ⟨List.toArray x⟩ ⟨List.toArray y⟩ g.str;rw[jT<|show bg from x,jT (show bg from y),aaD] at F;exact F
 | slice e ih=>exact⟨(λd tid x y cx cy c g s v j=>by cases j),(λd off o x y cx cy l m c g=>by simp[rN,gj] at g)⟩
 | alt u a r R ihr=>exact⟨(λd tid x y cx cy c g s v j=>by cases j),(λd off o x y cx cy l m c g=>by simp[rN,gj] at g)⟩
 | BM=>exact⟨(λd tid x y cx cy c g s v j=>by cases j),(λd off o x y cx cy l m c g=>by simp[rN,gj] at g)⟩
 | arr n e ih =>
   refine⟨λd tid x y cx cy c g s v j hs=>?_,(λd off o x y cx cy l m c g=>by simp[rN,gj] at g)⟩;cases e with
   | int k =>
     obtain⟨d,rfl⟩:∃e,d=e+1:=⟨d-1,ag⟩;obtain⟨d,rfl⟩:∃e,d=e+1:=⟨d-1,by have:(Ty.arr n<|.int k).JK=1+1:=rfl;omega⟩;obtain rfl:=aF j;obtain⟨S,G,D,T⟩:=g.arr;obtain⟨i,z,i1,i2,_,_⟩:=D.info;have H:=D.cells;show(Op.equalIn _ tid (.agg cx.toArray)<|.agg cy.toArray).run P w=_
     rw[run_equalIn_array w _ cx.toArray cy.toArray G i1,H];obtain⟨U,bF,A⟩:=s;obtain⟨V,hyc,C⟩:=v;have hz:(Ty.int k).size=1:=rfl;rw[hz] at bF A hyc C⊢;change List Int at x y;have item:∀M,(∀i∈M,i<n)->(Op.eqItems (d+1) S 1 cx.toArray cy.toArray M).run P w=.ok (M.all λi=>decide (x[i]?=y[i]?)) w:=by
      intro M;induction M with
      | nil=>intro _;rfl
      | cons i M ihs =>
        intro hi;have J:=hi i (qT ..);obtain⟨a,hxi⟩:∃a,x[i]?=aa a:=⟨_,fX (by rw[show x.length=n from U];exact J)⟩;obtain⟨b,hyi⟩:∃a,y[i]?=aa a:=⟨_,fX (by rw[show y.length=n from V];exact J)⟩;have O:=CY (w:=w) D (cs:=cx.toArray) (off:=i*1) cJ (λ_=>hz);have Q:=CY (w:=w) D (cs:=cy.toArray) (off:=i*1) cJ (λ_=>hz);have ex:=(A i _ hxi).1;have ey:=(C i _ hyi).1;rw[hz] at O Q;rw[ ex] at O;rw[ ey] at Q;simp only[Op.eqItems,Sem.run_bind,O,Q,Result.andThen_ok];have K:=run_equalIn_int w d S k k a b D.int;simp only[cZ,Ty.isAgg,BF,List.headD_cons,K,Result.andThen_ok];cases hb:(a==b) with
        | true =>
          grind
        | false =>
          simp_all
     rw[item _ λi hi=>Lk.1 hi]
     congr 1
     unfold eqL;rw[Rg];simp only[ Ae];constructor
     .intro h;apply DE;intro i;by_cases J:i<n
      .grind
      .rw[yH<|by rw[show x.length=n from U];omega,yH (by rw[show y.length=n from V];omega)]
     .grind
   | _=>cases j
 | unit =>
   refine⟨(λd tid x y cx cy c g=>by simp[Den,gj] at g),λd off o x y cx cy l m c g s v j hs F h2 h3 h4=>?_⟩;cases o with
   | nil=>obtain rfl:=aF j;rfl
   | cons f r=>simp[rN,gj] at g
 | pair a b R ihb =>
   have key:(∀d off o (x y:(Ty.pair a b).den) cx cy l m c,rN P (.pair a b) off o->bH w γ.I _ x cx->bH w γ.I _ y cy->Ty.eqv _ x y=aa c->(Ty.pair a b).JK<d+1 ->
    l.toList.drop off=cx->m.toList.drop off=cy->off<=l.size->off<=m.size->(Op.eqFields d l m o).run P w=.ok c w):=by
    intro d off o x y cx cy l m c g s v j hs F h2 h3 h4;obtain⟨f,r,rfl,G,D,T,k4,k5⟩:=g.cons;obtain⟨x1,x2,A,W,ye⟩:=s;obtain⟨y1,y2,C,X,hy2⟩:=v;simp only[Ty.eqv] at j;cases E:Ty.eqv a x.1 y.1 with
    | none=>rw[E] at j;cases j
    | some p =>
      cases L:Ty.eqv b x.2 y.2 with
      | none=>rw[E,L] at j;cases j
      | some q =>
        rw[E,L] at j;obtain rfl:=aF j;have Y:=W.length;have Z:=X.length;have lx:l.size-off=x1.length+x2.length:=by
         have:=congrArg List.length (F.trans A);simpa using this
        have ly:m.size-off=y1.length+y2.length:=by
         have:=congrArg List.length (h2.trans C);simpa using this
        have O:=CY (w:=w) T (cs:=l) (off:=f.offset) ag uV;have Q:=CY (w:=w) T (cs:=m) (off:=f.offset) ag uV;have ex:(l.toList.drop f.offset).take a.size=x1:=by rw[G,F,A,<-Y,TO]
        have ey:(m.toList.drop f.offset).take a.size=y1:=by rw[G,h2,C,<-Z,TO]
        rw[ex] at O;rw[ey] at Q;have WG:(Ty.pair a b).JK=a.JK+b.JK+1:=rfl;have K:=R.1 d f.type x.1 y.1 x1 y1 p T W X E ag;simp only[Op.eqFields,aN D,Sem.run_bind,O,Q,K,Result.andThen_ok];cases p with
        | false=>simp[an]
        | true =>
          simp;rw[ihb.2 d _ r x.2 y.2 x2 y2 l m q k5 ye hy2 L ag (by rw[<-Af,F,A,<-Y,Lj]) (by rw[<-Af,h2,C,<-Z,Lj]) ag ag];simp[an]
   refine⟨λd tid x y cx cy c g s v j hs=>?_,λd off o x y cx cy l m c g s v j hs=>key d off o x y cx cy l m c g s v j ag⟩;obtain⟨d,rfl⟩:∃e,d=e+1:=⟨d-1,ag⟩;obtain⟨o,G,D,T,k4⟩:=g.pair;have hf:P.fieldsOf tid=o:=by simp[Program.fieldsOf,G]
   show(Op.equalIn _ tid (.agg _)<|.agg _).run P w=_
   rw[run_equalIn_struct w d tid _ _ (by rw[hf];exact G) k4,hf];exact key d 0 o.toList x y cx cy _ _ c D s v j ag aS aS aS aS
end
end Go.Ge
namespace Go.Ge
open RowKit
section
variable {P:Program} {B:BT} {N:Nat} {γ:Gh} {σ aQ:St} {a:Act} {w:World} {d:Option Nat} {cx:Ctx}
def LG b c {e x y} (f:P.underlying e=aa .bool) :
  (hS .eql e x y (.bool b)<|.bool c).run P w=.ok (.bool<|eqB b c) w/\(hS .neq e x y (.bool b)<|.bool c).run P w=.ok (.bool<|nt<|eqB b c) w:=by
 constructor<;>simp only[hS,eqGuard_at_bool,binOp,Op.equal,Op.maxDepth,Sem.run_bind,Sem.run_pure,Result.andThen_ok,(run_equalIn_bool' w 9999 e b c f)]<;>rfl
def Ua{c e}(f:P.underlying c=aa (.pointer e)) a b (h:a=af\/b=af) n :
  (Op.equalIn (n+1) c (.pointer a)<|.pointer b).run P w=.ok (a.isNone&&b.isNone) w:=by
 cases a with
 | none=>cases b<;>simp only[Op.equalIn,Sem.run_bind,run_underlying f,Result.andThen_ok]<;>rfl
 | some a=>cases b with
   | none=>simp only[Op.equalIn,Sem.run_bind,run_underlying f];rfl
   | some b=>simp at h
def yQ{c e x y}(f:P.underlying c=aa (.pointer e)) a b (h:a=af\/b=af) :
  (hS .eql c x y (.pointer a)<|.pointer b).run P w=.ok (.bool<|a.isNone&&b.isNone) w/\(hS .neq c x y (.pointer a)<|.pointer b).run P w=.ok (.bool<|!(a.isNone&&b.isNone)) w:=by
 constructor<;>simp only[hS,eqGuard_at_pointer,binOp,Op.equal,Op.maxDepth,Sem.run_bind,Sem.run_pure,Result.andThen_ok,(Ua f a b h 9999)]
def aaE(I:fi P cx){op}{j:TypeId}{x y u v p q r}(E:cu γ σ.mem w p .val [u])(F:cu γ σ.mem w q .val [v])
  (o:(bin (find cx.T j) (cU cx.DI j) op p q).run=aa r):∃z,(hS op j x y u v).run P w=.ok z w/\cu γ σ.mem w r .val [z]:=by
 unfold bin at o;split at o
 ·
  obtain⟨rfl,J⟩:=vm E;obtain⟨rfl,U⟩:=vm F;split at o
  .rename_i left hs;have f:=gG o;rename_i k n k' m _;cases K:aU m 0
   .rw[K] at f;obtain rfl:=aF f;exact T9 J hs K
   .rw[K] at f;cases f
  .rename_i hs;obtain⟨s,f⟩:=ay o;have V:=zh s;subst V;exact Ru J hs f
 ·
  obtain⟨rfl,J⟩:=yP E;obtain⟨rfl,U⟩:=yP F;exact Rv o
 ·
  rename_i b c;obtain rfl:=Ao E;obtain rfl:=Ao F;obtain⟨s,f⟩:=ay o;have A:=I.T _ _ (jF s);have e:=LG (w:=w) b c (x:=x) (y:=y) A.bool;split at f
  .rename_i t;obtain rfl:=aF f;rcases tB t with ⟨rfl,_⟩|⟨_,h⟩
   .exact⟨.bool _,e.1,gQ _⟩
   .cases h
  .rename_i t;obtain rfl:=aF f;rcases tB t with ⟨_,h⟩|⟨rfl,_⟩
   .cases h
   .exact⟨.bool _,e.2,gQ _⟩
  .cases f
 ·
  rename_i ta tb L W X;obtain⟨s,f⟩:=ay o;simp only[gz] at s;have A:=I.T _ _ (jF s.1);split at f
  .rename_i Y e C t;obtain⟨M,O⟩:=Ty.lO C;subst M;subst O;split at f
   .rename_i c D;obtain rfl:=aF f;obtain⟨g,Q,rfl⟩:=ej.1 E;obtain⟨i,R,rfl⟩:=ej.1 F;have G:=(DX (P:=P) (γ:=γ) (w:=w) _).1 10000 j L _ g i c A Q R D (by have:=JH s.2;omega);obtain⟨fs,j1,j2,Z,j4⟩:=A.pair;have H:∀op,(eqGuard op j x y (.agg g.toArray)<|.agg i.toArray).run P w=.ok () w:=λop=>run_eqGuard_agg w op j x y _ _ Z;rcases tB t with ⟨rfl,rfl⟩|⟨rfl,rfl⟩
    .refine⟨.bool c,?_,gQ _⟩;show(hS .eql j x y (.agg _)<|.agg _).run P w=_
     simp only[hS,Sem.run_bind,H,Result.andThen_ok];have l:(Op.equalIn 10000 j (.agg g.toArray)<|.agg i.toArray).run P w=.ok c w:=G;rw[run_eql_struct,l];rfl
    .refine⟨.bool<|nt c,?_,gQ _⟩;show(hS .neq j x y (.agg _)<|.agg _).run P w=_
     simp only[hS,Sem.run_bind,H,Result.andThen_ok];have l:(Op.equalIn 10000 j (.agg g.toArray)<|.agg i.toArray).run P w=.ok c w:=G;rw[run_neq_struct,l];rfl
   .cases f
  .cases f
 ·
  rename_i nn ee L W X;obtain⟨s,f⟩:=ay o;simp only[gz] at s;have A:=I.T _ _ (jF s.1);split at f
  .rename_i Y e C t;obtain⟨M,O⟩:=Ty.lO C;subst M;subst O;split at f
   .rename_i c D;obtain rfl:=aF f;obtain⟨g,Q,rfl⟩:=ej.1 E;obtain⟨i,R,rfl⟩:=ej.1 F;have G:=(DX _).1 10000 j L _ g i c A Q R D (by have:=JH s.2;omega);have H:∀op,(eqGuard op j x y (.agg g.toArray)<|.agg i.toArray).run P w=.ok () w:=λop=>run_eqGuard_agg w op j x y _ _ A.akg;rcases tB t with ⟨rfl,rfl⟩|⟨rfl,rfl⟩
    .refine⟨.bool c,?_,gQ _⟩;show(hS .eql j x y (.agg _)<|.agg _).run P w=_
     simp only[hS,Sem.run_bind,H,Result.andThen_ok];have l:(Op.equalIn 10000 j (.agg g.toArray)<|.agg i.toArray).run P w=.ok c w:=G;rw[run_eql_struct,l];rfl
    .refine⟨.bool _,?_,gQ _⟩;show(hS .neq j x y (.agg _)<|.agg _).run P w=_
     simp only[hS,Sem.run_bind,H,Result.andThen_ok];have l:(Op.equalIn 10000 j (.agg g.toArray)<|.agg i.toArray).run P w=.ok c w:=G;rw[run_neq_struct,l];rfl
   .cases f
  .cases f
 ·
  obtain rfl:u=_:=by simpa [cu] using E
  obtain rfl:v=_:=by simpa [cu] using F
  split at o
  .rename_i e hp t;obtain rfl:=aF o;obtain⟨el,S⟩:=I.DI _ hp;have q:=yQ (w:=w) (x:=x) (y:=y) S af af (.inl rfl);rcases tB t with ⟨rfl,rfl⟩|⟨rfl,rfl⟩
   .exact⟨_,q.1,gQ _⟩
   .exact⟨_,q.2,gQ _⟩
  .cases o
 .cases o
def kQ{b aM}(h:live σ b aM=true):∃c,σ.mem b=aa c/\c.aM=aM:=by
 unfold live at h;split at h
 .rename_i c e;exact⟨c,e,gA h⟩
 .cases h
def bk{mem b aM bx}(e:mem b=aa bx)(f:bx.aM=aM){K}(h:nT mem b aM K):K bx:=by
 obtain⟨g,c,j,i⟩:=h;rw[e] at c;obtain rfl:=aF c;exact i f
def WY(m:fi P cx){op}{n:TypeId}{x y u v p q r}(o:cu γ σ.mem w p .val [u])(s:cu γ σ.mem w q .val [v])
  (l:(adr σ (find cx.T n) (cU cx.DI n) op p q).run=aa r):∃z,(hS op n x y u v).run P w=.ok z w/\cu γ σ.mem w r .val [z]:=by
 unfold adr at l;split at l
 .rename_i b t p;obtain⟨h,c⟩:=ay l;simp only[gz] at h;obtain⟨D,i,f⟩:=kQ h.1;obtain⟨j,A,_,g⟩:=bk i f o.2;obtain rfl:u=_:=by simpa using g
  obtain rfl:v=_:=by simpa [cu] using s
  obtain⟨E,k⟩:=m.DI _ h.2;have q:=yQ (P:=P) (w:=w) (x:=x) (y:=y) k (aa ⟨j,eg p,af⟩) af (.inr rfl);split at c
  .rename_i e C;obtain rfl:=aF c;rcases tB C with ⟨rfl,rfl⟩|⟨rfl,rfl⟩
   .exact⟨_,q.1,gQ _⟩
   .exact⟨_,q.2,gQ _⟩
  .cases c
 .rename_i b t p;obtain⟨h,c⟩:=ay l;simp at h;obtain⟨D,i,f⟩:=kQ h.1;obtain⟨j,A,_,g⟩:=bk i f s.2;obtain rfl:v=_:=by simpa using g
  obtain rfl:u=_:=by simpa [cu] using o
  obtain⟨E,k⟩:=m.DI _ h.2;have q:=yQ (w:=w) (x:=x) (y:=y) k af (aa ⟨j,eg p,af⟩) (.inl rfl);split at c
  .rename_i e C;obtain rfl:=aF c;rcases tB C with ⟨rfl,rfl⟩|⟨rfl,rfl⟩
   .exact⟨_,q.1,gQ _⟩
   .exact⟨_,q.2,gQ _⟩
  .cases c
 .exact aaE m o s l
def adH{op u p r}(c:cu γ σ.mem w p .val [u])(b:(un op p).run=aa r):∃z,(Op.unary op u).run P w=.ok z w/\cu γ σ.mem w r .val [z]:=by
 unfold un at b;split at b
 .obtain rfl:=Ao c;obtain rfl:=aF b;exact⟨_,rfl,gQ _⟩
 .obtain⟨rfl,e⟩:=vm c;obtain rfl:=aF b;exact⟨_,rfl,mkInt (fJ _ _)⟩
 .obtain⟨rfl,e⟩:=vm c;obtain rfl:=aF b;rename_i k n;refine⟨_,?_,mkInt (fJ _ _)⟩;cases f:k.signed<;>simp[Op.unary,Op.intBits,fN,f]
 .cases b
def adI(K:bC B γ σ.mem w){b n}(L:σ.mem b=aa n){blk cap}(A:γ.loc b=aa (blk,cap)){p v}(j:(agn n.buf p n.val).run=aa v) :
  ∃c tid m,w.heap[blk]?=aa (.cells c tid m)/\ni c m/\eg p+dS v<=c.size/\cu γ σ.mem w v .cells ((c.toList.drop<|eg p).take<|dS v):=by
 have f:=K.boxes b n L;unfold ew at f;cases h:n.buf with
 | false =>
   rw[h] at f j;obtain⟨o,q,c,tid,m,y,H,g,r,C⟩:=f;rw[A] at y;obtain⟨rfl,rfl⟩:=eh (aF y);obtain⟨I,z⟩:=yd C j;exact⟨c,tid,m,H,g,by simpa using I,z⟩
 | true =>
   rw[h] at f j;obtain⟨e,l,y,H,g⟩:=f;rw[y] at j;rcases g with ⟨g,_⟩|⟨o,q,c,tid,m,g,C,M,r,S,T,U,O⟩
   .rw[A] at g;cases g
   .rw[A] at g;obtain⟨rfl,rfl⟩:=eh (aF g);cases p with
    | nil=>cases j
    | cons s p =>
      cases s with
      | gB k off=>cases j
      | idx i size =>
        obtain⟨D,E⟩:=ay j;have t:=gA D;obtain⟨x,Q,F⟩:=cd E;obtain⟨V,u⟩:=uT Q;have J:=O _ x u;have R:=J.length;have hi:=(hR.1 u).1;have G:(i.toNat+1)*e.size<=cap*e.size:=gN _ ag;rw[Hf] at G;obtain⟨I,z⟩:=yd (v:=.data e x) J F;refine⟨c,tid,m,C,M.th,?_,?_⟩
        .simp only[eg,t];omega
        .rw[Y9,Oj,Af,wO ag] at z;simp only[ t];exact z
def zr{t tid}(i:Den P t tid){blk off x cs}(g:bH w γ.I t x cs)(b:(loadCells ⟨blk,off,af⟩ cs.length).run P w=.ok cs.toArray w)
  (e:∀j v,cs[j]?=aa v->w.cell? ⟨blk,off+j,af⟩=aa v):(loadVar tid ⟨blk,off,af⟩).run P w=.ok (cZ t cs) w:=by
 unfold loadVar;rw[Sem.run_bind,i.agg w];have h:=g.length;cases f:t.isAgg with
 | true =>
   simp only[x9,Sem.run_bind,i.sizeOf w,Result.andThen_ok,<-h,b,Sem.run_pure,cZ,f,wP]
 | false =>
   rw[(uV f)] at h;obtain⟨c,rfl⟩:=YU.1 h;have:=e 0 c rfl;simp at this;simp[cZ,f,this]
def LH:∀{u v},Ze u v=true->dS v=u.size:=by
 intro u;induction u with
 | pair a b f e =>
   intro v h;cases v with
   | data t x=>obtain rfl:=Ty.eq_of_beq h;rfl
   | mix p q =>
     obtain⟨c,g⟩:=Bool.and_eq_true_iff.1 h;have i:dS p=a.size:=by
      unfold TZ at c;split at c
      .rfl
      .obtain rfl:=Ty.eq_of_beq c;rfl
      .cases c
     show dS p+dS q=a.size+b.size
     rw[i,e g]
   | _=>cases h
 | _ =>
   intro v h;cases v with
   | data t x=>obtain rfl:=Ty.eq_of_beq h;rfl
   | _=>cases h
def PT{u v}(b:TZ u v=true):dS v=u.size:=by
 unfold TZ at b;split at b
 .rfl
 .obtain rfl:=Ty.eq_of_beq b;rfl
 .cases b
def Ub(q:fi P cx){ty x}(h:dm B N γ σ a w)(r:(mq cx d ty (cW σ x) σ).run=aa aQ) :
  ∃u m E,aQ=σ.bt d u/\a.eval x=.pointer (aa E)/\(loadVar ty E).run P w=.ok m w/\cu γ σ.mem w u .val [m]:=by
 have hv:=h.cW x;unfold mq at r;split at r
 .rename_i u y L;rw[L] at hv;obtain⟨J,s⟩:=ay r;obtain rfl:=aF s;have K:=q.T _ _ (jF J);obtain⟨F,off,cs,C,W,X⟩:=hv;obtain C:a.eval x=_:=by simpa using C
  have M:=zr K W (Hp X) (λj v D=>(X j v D).1);exact⟨_,_,_,rfl,C,M,cs,W,rfl⟩
 .rename_i b aM p L;rw[L] at hv;split at r
  .rename_i bx J;obtain⟨G,s⟩:=ay r;obtain⟨v,hn,O⟩:=bind_some s;obtain⟨g,Q⟩:=ay O;obtain rfl:=aF Q;obtain⟨F,cap,M,l⟩:=bk J (gA G) hv.2;obtain l:a.eval x=_:=by simpa using l
   obtain⟨H,tid,fr,Y,g2,g3,t⟩:=adI h.ok J M hn;have z:=DK (P:=P) Y g3;have A:=t.length;have i:∀j R,((H.toList.drop _).take<|dS v)[j]?=aa R->w.cell? ⟨F,eg p+j,af⟩=aa R:=λj R D=>by
    rw[cell_of_heap Y];rw[jq] at D;split at D
    .simpa using D
    .cases D
   have single:∀(o:(isAgg ty).run P w=.ok false w) (C:dS v=1) (n:∀c,cu γ σ.mem w v .cells [c]->cu γ σ.mem w v .val [c]),
     ∃u m E,σ.bt d v=σ.bt d u/\a.eval x=.pointer (aa E)/\(loadVar ty E).run P w=.ok m w/\cu γ σ.mem w u .val [m]:=by
    intro o C n;rw[C] at A t i;obtain⟨c,S⟩:=YU.1 A;rw[S] at t i;have:=i 0 c rfl;simp at this;refine⟨_,c,_,rfl,l,?_,n c t⟩;simp[loadVar,o,this]
   cases v with
   | mix Z q' =>
     simp only[CU] at g;split at g
     .rename_i u U;have K:=q.T _ _ U;have V:Ty.isAgg u=true:=by
       cases u with
       | pair a b=>rfl
       | _=>cases g
      refine⟨_,.agg ((H.toList.drop<|eg p).take<|dS<|.mix Z q').toArray,_,rfl,l,?_,?_⟩
      .rw[(LH g)] at z⊢;simp only[loadVar,Sem.run_bind,K.agg w,V,Result.andThen_ok,x9,K.sizeOf w,z,Sem.run_pure]
      .obtain⟨c1,c2,e1,e2,e3⟩:=t;exact⟨c1,c2,by rw[e1],e2,e3⟩
     .cases g
   | data u y =>
     rw[show CU cx ty _=false from rfl,Bool.or_false] at g;exact⟨_,_,_,rfl,l,(zr (q.T _ _<|jF g) t (by rw[A];exact z) i),_,t,rfl⟩
   | whole b' I =>
     simp only[Ah] at g;split at g
     .rename_i e U;exact single (by have:=(q.T _ _ U).agg w;exact this) rfl (λc k=>k)
     .cases g
   | ptr b' I Z=>exact single ((q.uQ _<|by simpa [CU,Ah] using g).1 w) rfl (λc k=>k)
   | uO=>exact single ((q.uQ _<|by simpa [CU,Ah] using g).1 w) rfl (λc k=>k)
   | fn f aax=>exact single ((q.uQ _<|by simpa [CU,Ah] using g).1 w) rfl (λc k=>k)
   | _=>cases g
  .cases r
 .cases r
def LI(b:fi P cx){ty x}(h:dm B N γ σ a w)(c:∀k,d=aa k->k<N)(e:(mq cx d ty (cW σ x) σ).run=aa aQ) :
  nU P B N γ σ a w d (Instr.loadAt ty<|a.eval x) aQ:=by
 obtain⟨u,f,l,rfl,g,i,j⟩:=Ub b h e;refine bM h c ?_ j;rw[g];simp only[Instr.loadAt,Instr.sureAddr,Sem.run_bind,Sem.run_pure,Result.andThen_ok,i]
end
end Go.Ge
