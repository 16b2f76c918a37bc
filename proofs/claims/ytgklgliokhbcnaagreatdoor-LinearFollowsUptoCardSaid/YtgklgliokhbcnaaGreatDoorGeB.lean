import Derived.Test.YtgklgliokhbcnaaGreatDoorGeA
import Derived.Laws.StructEq
import Derived.ChangeKeysEq
set_option linter.unusedVariables false
set_option linter.unusedSimpArgs false
set_option linter.unusedSectionVars false
set_option linter.defProp false
open Option renaming some->aa,none->af
namespace Go.Ge
structure Gh where
 I:Nat->Nat->Prop
 loc:Nat->Option (Nat×Nat)
def cY(t:Ty)(cs:List Value):Value:=bif t.isAgg then .agg cs.toArray else cs.headD undef
def bJ(w:World)(I:Nat->Nat->Prop):(t:Ty)->t.den->List Value->Prop
 | .int k,n,cs=>cs=[.int k n]/\k.min<=(show Int from n)/\(show Int from n)<=k.max
 | .bool,b,cs=>cs=[.bool b]
 | .str,s,cs=>cs=[.string ⟨List.toArray (α:=UInt8) s⟩]/\List.length (α:=UInt8) s<=maxLen
 | .slice e,l,cs=>((∃base,cs=[.slice base 0 0])/\l=([]:List e.den)) \/
  ∃f off g,cs=[.slice (aa ⟨f,off,af⟩) (List.length (α:=e.den) l) g]/\List.length (α:=e.den) l<=g/\g<=maxLen /\
   ∀(i:Nat) (x:e.den),(show List e.den from l)[i]?=aa x->∃es:List Value,es.length=e.size /\
    (∀(j:Nat) v,es[j]?=aa v->w.cell? ⟨f,off+i*e.size+j,af⟩=aa v/\I f (off+i*e.size+j))/\bJ w I e x es
 | .arr n e,l,cs=>List.length (α:=e.den) l=n/\cs.length=n*e.size /\
  ∀(i:Nat) (x:e.den),(show List e.den from l)[i]?=aa x->bJ w I e x ((cs.drop<|i*e.size).take e.size)
 | .pair a b,x,cs=>∃h m,cs=h++m/\bJ w I a x.1 h/\bJ w I b x.2 m
 | .unit,_,cs=>cs=[]
 | .alt u a r,x,cs=>match(show a.den⊕r.den from x) with
   | .inl y=>r.size=1/\∃c,cs=[.iface u<|cY a c]/\bJ w I a y c
   | .inr z=>bJ w I r z cs
 | .BX,_,cs=>cs=[.nilIface]
def bJ.length{w I}:∀{t x cs},bJ w I t x cs->cs.length=t.size:=by
 intro t;induction t with
 | int k=>intro x cs h;rw[h.1];rfl
 | bool=>intro x cs h;rw[h];rfl
 | str=>intro x cs h;rw[h.1];rfl
 | slice e l=>intro x cs h;rcases h with ⟨⟨_,h⟩,_⟩|⟨_,_,_,h,_⟩<;>rw[h]<;>rfl
 | arr n e l=>intro x cs h;exact h.2.1
 | pair a b f g=>intro x cs h;obtain⟨o,p,rfl,i,m⟩:=h;rw[iC,f i,g m];rfl
 | unit=>intro x cs h;rw[h];rfl
 | alt u a r f j =>
   intro x cs h;rcases x with y|z
   .obtain⟨i,c,rfl,_⟩:=h;exact i.symm
   .exact j h
 | BX=>intro x cs h;rw[show cs=_ from h];rfl
def bJ.mono{w w' I I'}(E:∀b o,I b o->I' b o)(F:∀b o,I b o->w'.cell? ⟨b,o,af⟩=w.cell? ⟨b,o,af⟩) :
  ∀{t x cs},bJ w I t x cs->bJ w' I' t x cs:=by
 intro t;induction t with
 | int k=>intro x cs h;exact h
 | bool=>intro x cs h;exact h
 | str=>intro x cs h;exact h
 | slice e s =>
   intro x cs h;rcases h with h|⟨blk,off,l,g,j,m,G⟩
   .exact .inl h
   .refine .inr ⟨blk,off,l,g,j,m,λi y v=>?_⟩
    grind
 | arr n e s=>intro x cs h;exact⟨h.1,h.2.1,λi y v=>s (h.2.2 i y v)⟩
 | pair a b f p=>intro x cs h;obtain⟨A,C,D,g,j⟩:=h;exact⟨A,C,D,f g,p j⟩
 | unit=>intro x cs h;exact h
 | alt u a r f q =>
   intro x cs h;rcases x with y|z
   .obtain⟨g,c,j,m⟩:=h;exact⟨g,c,j,f m⟩
   .exact q h
 | BX=>intro x cs h;exact h
def bJ.one{w I}:∀{t x cs},bJ w I t x cs->∀v∈cs,v.oneCell'=true:=by
 intro t;induction t with
 | int k=>intro x cs h v f;rw[h.1] at f;simp at f;subst f;rfl
 | bool=>intro x cs h v f;rw[h] at f;simp at f;subst f;rfl
 | str=>intro x cs h v f;rw[h.1] at f;simp at f;subst f;rfl
 | slice e l=>intro x cs h v f;rcases h with ⟨⟨_,h⟩,_⟩|⟨_,_,_,h,_⟩<;>rw[h] at f<;>simp at f<;>subst f<;>rfl
 | arr n e l =>
   intro x cs h v f;obtain⟨g,p,m⟩:=h;obtain⟨k,D,q⟩:=ac5 f;have o:0<e.size:=by
    grind
   have hx:∃y,(show List e.den from x)[k / e.size]?=aa y:=⟨_,fH (by rw[g];exact(by rw[Y4 o];omega))⟩;obtain⟨y,s⟩:=hx;refine l (m _ y s) v ?_;have E:=BW k o;have A:k / e.size*e.size+k % e.size=k:=by rw[T2];exact TX k e.size
   have:((cs.drop<|k / e.size*e.size).take e.size)[k % e.size]?=aa v:=by
    grind
   grind
 | pair a b i C =>
   intro x cs h v f;obtain⟨F,G,rfl,g,p⟩:=h
   grind
 | unit=>intro x cs h v f;rw[h] at f;cases f
 | alt u a r i j =>
   intro x cs h v f;rcases x with y|z
   .obtain⟨g,c,rfl,m⟩:=h;simp at f;subst f;rfl
   .exact j h v f
 | BX=>intro x cs h v f;rw[show cs=_ from h] at f;simp at f;subst f;rfl
def ur{w I}:∀{t x cs},bJ w I t x cs->(cY t cs).cells.toList=cs:=by
 intro t;induction t with
 | int k=>intro x cs h;rw[h.1];rfl
 | bool=>intro x cs h;rw[h];rfl
 | str=>intro x cs h;rw[h.1];rfl
 | slice e=>intro x cs h;rcases h with ⟨⟨_,h⟩,_⟩|⟨_,_,_,h,_⟩<;>rw[h]<;>rfl
 | arr n e=>intro x cs h;rfl
 | pair a b=>intro x cs h;rfl
 | unit=>intro x cs h;rfl
 | alt u a r g f =>
   intro x cs h;rcases x with y|z
   .obtain⟨i,c,rfl,j⟩:=h;unfold cY Ty.isAgg;cases r.isAgg<;>rfl
   .exact f h
 | BX=>intro x cs h;rw[show cs=_ from h];rfl
inductive Mode where
 | cells|val|many
def xr(b:Option Addr)(c:Nat):Prop:=c=0\/∃e f,b=aa ⟨e,f,af⟩
def ef:List Sel->Nat
 | []=>0
 | .gz _ off::p=>off+ef p
 | .idx i size::p=>i.toNat*size+ef p
def B4 p q:ef (p++q)=ef p+ef q:=by
 induction p with
 | nil=>simp[ef]
 | cons s p b=>cases s<;>simp[ef]<;>omega
section
variable (γ:Gh) (mem:Nat->Option Box) (w:World)
def FN(g:Box)(b:Nat)(h:Int)(c:Option Addr)(e:Nat):Prop:=h=0->g.buf=true->(γ.loc b=af/\c=af/\e=0)\/∃f,γ.loc b=aa (f,e)/\c=aa ⟨f,0,af⟩
def FO(I:Nat->Nat->Prop)(b c:Nat)(e:List Value):Prop:=∀(j:Nat) v,e[j]?=aa v->w.cell? ⟨b,c+j,af⟩=aa v/\I b (c+j)
def n9(b c:Nat)(K:Box->Prop):Prop:=∃e,mem b=aa e/\c<=e.aP/\(e.aP=c->K e)
def cI:cp->Mode->List Value->Prop
 | .undef,.val,vs=>∃v,vs=[v]
 | .undef,.cells,vs=>∃v,vs=[v]/\v.oneCell'=true
 | .undef,.many,_=>False
 | .data t x,.cells,vs=>bJ w γ.I t x vs
 | .data t x,.val,vs=>∃cs,bJ w γ.I t x cs/\vs=[cY t cs]
 | .data _ _,.many,_=>False
 | .mix a b,.cells,vs=>∃o s,vs=o++s/\cI a .cells o/\cI b .cells s
 | .mix a b,.val,vs=>∃o s,vs=[.agg (o++s).toArray]/\cI a .cells o/\cI b .cells s
 | .mix a b,.many,vs=>∃v r,vs=v::r/\cI a .val [v]/\cI b .many r
 | .nl,.many,vs=>vs=[]
 | .nl,_,_=>False
 | .BR u,.val,vs=>∃l:Array Value,vs=[.tuple l]/\cI u .many l.toList
 | .BR _,_,_=>False
 | .vd,.many,_=>False
 | .vd,_,vs=>vs=[.pointer af]
 | .ve,.many,_=>False
 | .ve,_,vs=>vs=[.nilIface]
 | .yr _ _,.many,_=>False
 | .yr b aP,_,vs=>(∃v,vs=[v]/\v.oneCell'=true)/\n9 mem b aP λ_=>∃g h,γ.loc b=aa (g,h)/\(vs=[.pointer af]\/vs=[.pointer<|some ⟨g,0,af⟩])
 | .p7,.many,_=>False
 | .p7,_,vs=>vs=[.slice af 0 0]
 | .cell _ _,.many,_=>False
 | .cell t x,_,vs=>∃g off cs,vs=[.pointer<|some ⟨g,off,af⟩]/\bJ w γ.I t x cs/\FO w γ.I g off cs
 | .ptr _ _ _,.many,_=>False
 | .ptr b aP p,_,vs=>(∃v,vs=[v]/\v.oneCell'=true)/\n9 mem b aP λ_=>∃g h,γ.loc b=aa (g,h)/\vs=[.pointer<|some ⟨g,ef p,af⟩]
 | .whole _ _,.many,_=>False
 | .whole b aP,_,vs=>(∃v,vs=[v]/\v.oneCell'=true)/\n9 mem b aP λbx=>∃e n,bx.buf=true/\bx.row=aa (e,n) /\
  ((γ.loc b=af/\vs=[.slice af 0 0])\/∃g h,γ.loc b=aa (g,h)/\vs=[.slice (aa ⟨g,0,af⟩) n h])
 | .part _ _ _ _,.many,_=>False
 | .part b aP lo n,_,vs=>(∃v,vs=[v]/\v.oneCell'=true)/\n9 mem b aP λbx=>∃e k,bx.row=aa (e,k)/\0<=lo/\0<=n/\lo+n<=k /\
  ∃j h,vs=[.slice j n.toNat h]/\n.toNat<=h/\h<=maxLen/\(xr j h/\FN γ bx b lo j h)/\(n=0\/∃g c,γ.loc b=aa (g,c)/\j=aa ⟨g,lo.toNat*e.size,af⟩)
 | .win _ _ _ _ _ _ _,.many,_=>False
 | .win b aP q e k lo n,_,vs=>(∃v,vs=[v]/\v.oneCell'=true)/\n9 mem b aP λ_=>q≠[]/\∃g c,γ.loc b=aa (g,c)/\0<=lo/\0<=n/\lo+n<=k /\
  ∃j h,vs=[.slice j n.toNat h]/\n.toNat<=h/\(n=0\/j=aa ⟨g,ef q+lo.toNat*e.size,af⟩)
 | .fn _ _,.many,_=>False
 | .fn f m,_,vs=>∃l:Array Value,vs=[.func (.func f) #[] l]/\l.size=m.length /\
  ∀(i:Nat) b aP,m[i]?=aa (b,aP)->n9 mem b aP λ_=>∃g h,γ.loc b=aa (g,h)/\l[i]?=aa (.pointer<|some ⟨g,0,af⟩)
def nr(c:Array Value)(e:Nat×Nat):Prop:=∀b,b<c.size->¬(e.1<=b/\b<e.2)
def Ty.isInt:Ty->Bool
 | .int _=>true
 | _=>false
structure ThB (e:Ty) (cur:Array Value) (fr:Nat×Nat):Prop where
 th:nr cur fr
 um:e.isInt=false->¬(fr.1<=cur.size/\cur.size<fr.2)
def eB(b:Nat)(bx:Box):Prop :=
 match bx.buf with
 | true=>∃(e:Ty) (l:List e.den),bx.val=.data (.slice e) l/\0<e.size /\
  ((γ.loc b=af/\l=[])\/∃g f c tid h,γ.loc b=aa (g,f)/\w.heap[g]?=aa (.cells c tid h)/\ThB e c h/\(bx.tid=0\/tid=bx.tid)/\l.length<=f/\f<=maxLen /\
   c.size=f*e.size/\∀(i:Nat) (x:e.den),l[i]?=aa x->bJ w γ.I e x ((c.toList.drop<|i*e.size).take e.size))
 | false=>∃g f c tid h,γ.loc b=aa (g,f)/\w.heap[g]?=aa (.cells c tid h)/\nr c h/\(bx.tid=0\/tid=bx.tid)/\cI γ mem w bx.val .cells c.toList
end
def W6(b:Box):Nat->Prop:=λc=>b.ro=true/\(b.buf=true->∀e n,b.row=aa (e,n)->c<n*e.size)
abbrev D7:=Nat->(Obj->Prop)->Prop
def dE:D7:=λ_ _=>False
def EG(G:D7)(w:World):Prop:=∀b Q,G b Q->∃o,w.heap[b]?=aa o/\Q o
structure B5 where
 lo:Nat
 X:Nat->Prop
 G:D7
def B5.has(B:B5)(k:Nat):Prop:=B.lo<=k\/B.X k
def oS(G:D7)(n:Nat):B5:=⟨n,λ_=>False,G⟩
def sk{G n k}:(oS G n).has k↔n<=k:=⟨λh=>h.elim id False.elim,.inl⟩
structure we (B:B5) (w w':World):Prop where
 os:w'.os=w.os
 tape:w'.tape=w.tape
 output:w'.output=w.output
 size:w.heap.size<=w'.heap.size
 block:∀k,¬B.has k->w'.heap[k]?=w.heap[k]?
def we.refl B w:we B w w:=⟨rfl,rfl,rfl,bV _,λ_ _=>rfl⟩
def we.trans{B a b c}(h:we B a b)(k:we B b c):we B a c :=
 ⟨k.os.trans h.os,k.tape.trans h.tape,k.output.trans h.output,fi h.size k.size,λi e=>(k.block i e).trans (h.block i e)⟩
def we.of{B w w'}(h:RowKit.Below B.lo w w'):we B w w':=⟨h.os,h.tape,h.output,h.size,λk b=>h.block k (Zb λq=>b (.inl q))⟩
def we.below{G n w w'}(h:we (oS G n) w w'):RowKit.Below n w w':=⟨h.os,h.tape,h.output,h.size,λk b=>h.block k λq=>by have:=sk.1 q;omega⟩
def we.drew{B a w}(h:we B a w):we B a w.drew:=⟨h.os,h.tape,h.output,h.size,h.block⟩
def we.alloc{B a w}(h:we B a w)(b:B.lo<=w.heap.size) o:we B a (w.alloc o):=h.trans (.of<|(RowKit.Below.refl _ _).alloc b o)
structure bF (B:B5) (γ:Gh) (mem:Nat->Option Box) (w:World):Prop where
 base:B.lo<=w.heap.size
 boxes:∀b bx,mem b=aa bx->eB γ mem w b bx
 inj:∀b c blk k k',mem b≠af->mem c≠af->γ.loc b=aa (blk,k)->γ.loc c=aa (blk,k')->b=c
 fresh:∀b blk k,mem b≠af->γ.loc b=aa (blk,k)->B.has blk/\blk<w.heap.size
 vg:∀blk off,γ.I blk off->blk<w.heap.size
 sep:∀b bx blk k off,mem b=aa bx->γ.loc b=aa (blk,k)->γ.I blk off->W6 bx off
 vh:∀b Q,B.G b Q->¬B.has b/\∃o,w.heap[b]?=aa o/\Q o
structure dy (B:B5) (N:Nat) (γ:Gh) (σ:St) (a:Act) (w:World):Prop where
 bh:∀t,cI γ σ.mem w (σ.bh t) .val [a.tmps.getD t undef]
 size:a.tmps.size=N
 defers:a.defers=[]
 ok:bF B γ σ.mem w
structure Ext (B:B5) (γ:Gh) (mem:Nat->Option Box) (w:World) (bE:Gh) (mem':Nat->Option Box) (w':World):Prop where
 below:we B w w'
 I:∀b o,γ.I b o->bE.I b o
 r4:∀b o,bE.I b o->γ.I b o\/B.has b
 cells:∀b o,γ.I b o->w'.cell? ⟨b,o,af⟩=w.cell? ⟨b,o,af⟩
 boxes:∀b bx,mem b=aa bx->∃vi,mem' b=aa vi/\bx.aP<=vi.aP/\(vi.aP=bx.aP->bE.loc b=γ.loc b/\vi.buf=bx.buf/\vi.row=bx.row)
def bF.FP{B γ bE mem mem' w w'}(h:bF B γ mem w)(x:Ext B γ mem w bE mem' w'):∀b Q,B.G b Q->¬B.has b/\∃o,w'.heap[b]?=aa o/\Q o:=λb Q g=>by
 obtain⟨i,o,c,q⟩:=h.vh b Q g;exact⟨i,o,(x.below.block b i).trans c,q⟩
def bF.LB{B γ mem w}(h:bF B γ mem w):EG B.G w:=λb Q g=>(h.vh b Q g).2
def Ext.refl B γ mem w:Ext B γ mem w γ mem w :=
 ⟨we.refl _ _,λ_ _ h=>h,λ_ _ h=>.inl h,λ_ _ _=>rfl,λb bx h=>⟨bx,h,bV _,λ_=>⟨rfl,rfl,rfl⟩⟩⟩
def Ext.trans{B γ bE e mem mem' c w w' f}(h:Ext B γ mem w bE mem' w')(k:Ext B bE mem' w' e c f) :
  Ext B γ mem w e c f where
 below:=h.below.trans k.below
 I:=λb o x=>k.I _ _ (h.I _ _ x)
 r4:=λb o x=>by
  rcases k.r4 b o x with y|y
  .exact h.r4 b o y
  .grind
 cells:=λb o x=>(k.cells _ _<|h.I _ _ x).trans (h.cells _ _ x)
 boxes:=λb bx x=>by
  obtain⟨vi,i,j,l⟩:=h.boxes b bx x;obtain⟨g,m,n,p⟩:=k.boxes b vi i
  grind
def n9.ext{B γ bE mem mem' w w'}(h:Ext B γ mem w bE mem' w'){b aP K f}(g:n9 mem b aP K)
  (m:∀c vi,mem b=aa c->mem' b=aa vi->bE.loc b=γ.loc b->vi.buf=c.buf->vi.row=c.row->K c->f vi):n9 mem' b aP f:=by
 obtain⟨c,i,j,n⟩:=g;obtain⟨vi,k,l,o⟩:=h.boxes b c i;refine⟨vi,k,fi j l,λe=>?_⟩
 grind
def FO.ext{w w' I I'}(c:∀b o,I b o->I' b o)(e:∀b o,I b o->w'.cell? ⟨b,o,af⟩=w.cell? ⟨b,o,af⟩){blk off cs}
  (h:FO w I blk off cs):FO w' I' blk off cs :=
 λj v f=>by obtain⟨a,b⟩:=h j v f;exact⟨by rw[e _ _ b];exact a,c _ _ b⟩
def cI.ext{B γ bE mem mem' w w'}(h:Ext B γ mem w bE mem' w'):∀{v m vs},cI γ mem w v m vs->cI bE mem' w' v m vs:=by
 intro v;induction v with
 | undef=>intro m vs r;cases m<;>exact r
 | data t x =>
   intro m vs r;cases m with
   | cells=>exact bJ.mono h.I h.cells r
   | val=>obtain⟨F,g,j⟩:=r;exact⟨F,bJ.mono h.I h.cells g,j⟩
   | many=>exact r
 | p7=>intro m vs r;cases m<;>exact r
 | vd=>intro m vs r;cases m<;>exact r
 | ve=>intro m vs r;cases m<;>exact r
 | yr b aP =>
   intro m vs r;cases m with
   | many=>exact r
   | cells=>exact⟨r.1,r.2.ext h λl vi _ _ c _ _ k=>by rw[c];exact k⟩
   | val=>exact⟨r.1,r.2.ext h λl vi _ _ c _ _ k=>by rw[c];exact k⟩
 | cell t x =>
   intro m vs r;cases m with
   | many=>exact r
   | cells=>obtain⟨s,y,F,g,j,z⟩:=r;exact⟨s,y,F,g,bJ.mono h.I h.cells j,z.ext h.I h.cells⟩
   | val=>obtain⟨s,y,F,g,j,z⟩:=r;exact⟨s,y,F,g,bJ.mono h.I h.cells j,z.ext h.I h.cells⟩
 | ptr b aP p =>
   intro m vs r;cases m with
   | many=>exact r
   | cells=>exact⟨r.1,r.2.ext h λl vi _ _ c _ _ k=>by rw[c];exact k⟩
   | val=>exact⟨r.1,r.2.ext h λl vi _ _ c _ _ k=>by rw[c];exact k⟩
 | whole b aP =>
   intro m vs r;cases m with
   | many=>exact r
   | cells=>exact⟨r.1,r.2.ext h λl vi _ _ c A C k=>by rw[c,A,C];exact k⟩
   | val=>exact⟨r.1,r.2.ext h λl vi _ _ c A C k=>by rw[c,A,C];exact k⟩
 | part b aP lo n =>
   intro m vs r;cases m with
   | many=>exact r
   | cells=>exact⟨r.1,r.2.ext h λl vi _ _ c A C k=>by unfold FN at k⊢;rw[c,A,C];exact k⟩
   | val=>exact⟨r.1,r.2.ext h λl vi _ _ c A C k=>by unfold FN at k⊢;rw[c,A,C];exact k⟩
 | win b aP q e k lo n =>
   intro m vs r;cases m with
   | many=>exact r
   | cells=>exact⟨r.1,r.2.ext h λl vi _ _ c _ _ k=>by rw[c];exact k⟩
   | val=>exact⟨r.1,r.2.ext h λl vi _ _ c _ _ k=>by rw[c];exact k⟩
 | fn f L =>
   intro m vs r;cases m with
   | many=>exact r
   | cells=>obtain⟨o,g,j,z⟩:=r;exact⟨o,g,j,λi b aP K=>(z i b aP K).ext h λl vi _ _ c _ _ k=>by rw[c];exact k⟩
   | val=>obtain⟨o,g,j,z⟩:=r;exact⟨o,g,j,λi b aP K=>(z i b aP K).ext h λl vi _ _ c _ _ k=>by rw[c];exact k⟩
 | mix a b D E =>
   intro m vs r;cases m with
   | cells=>obtain⟨G,H,J,g,j⟩:=r;exact⟨G,H,J,D g,E j⟩
   | val=>obtain⟨G,H,J,g,j⟩:=r;exact⟨G,H,J,D g,E j⟩
   | many=>obtain⟨G,H,J,g,j⟩:=r;exact⟨G,H,J,D g,E j⟩
 | BR u M =>
   intro m vs r;cases m with
   | val=>obtain⟨o,g,j⟩:=r;exact⟨o,g,M j⟩
   | cells=>exact r
   | many=>exact r
 | nl=>intro m vs r;cases m<;>exact r
def gn:Ty->List Value
 | .int k=>[.int k 0]
 | .bool=>[.bool false]
 | .str=>[.string ⟨#[]⟩]
 | .slice _=>[.slice af 0 0]
 | .arr n e=>(List.replicate n<|gn e).flatten
 | .pair a b=>gn a++gn b
 | .unit=>[]
 | .alt _ _ r=>gn r
 | .BX=>[.nilIface]
def ec t:(gn t).length=t.size:=by
 induction t with
 | arr n e h=>simp[gn,Ty.size,h]
 | pair a b c f=>simp[gn,Ty.size,c,f]
 | alt u a r c g=>exact g
 | _=>rfl
def e7{b:Type}(l:List b):∀n i,i<n->((List.replicate n l).flatten.drop<|i*l.length).take l.length=l
 | 0,i,h=>absurd h ah
 | n+1,0,_=>by simp[List.replicate_succ]
 | n+1,i+1,h=>by
   rw[List.replicate_succ,List.flatten_cons,JO,T3,<-Aq,Lm];exact e7 l n i ah
def mZ w I:∀t,bJ w I t t.zero (gn t):=by
 intro t;induction t with
 | int k=>exact⟨rfl,by cases k<;>decide,by cases k<;>decide⟩
 | bool=>rfl
 | str=>exact⟨rfl,pW _⟩
 | slice e j=>exact .inl ⟨⟨af,rfl⟩,rfl⟩
 | arr n e j =>
   refine⟨acZ,by rw[ec];rfl,λi x l=>?_⟩;have c:(List.replicate n e.zero)[i]?=aa x:=l;rw[ahX] at c;split at c
   .rename_i m;obtain rfl:e.zero=x:=by simpa using c
    have:=e7 (gn e) n i m;rw[ec] at this;show bJ w I e e.zero (((List.replicate n _).flatten.drop _).take e.size)
    grind
   .grind
 | pair a b f g=>exact⟨_,_,rfl,f,g⟩
 | unit=>rfl
 | alt u a r f h=>exact h
 | BX=>rfl
def RE:Value->Value->Bool
 | .int k n,.int c m=>Nat.beq (Bl k) (Bl c)&&decide (n=m)
 | .bool a,.bool b=>a==b
 | .string a,.string b=>decide (a.data.toList=b.data.toList)
 | .slice af 0 0,.slice af 0 0=>true
 | .pointer af,.pointer af=>true
 | .nilIface,.nilIface=>true
 | .nilFunc,.nilFunc=>true
 | _,_=>false
def W7{a b}(h:RE a b=true):a=b:=by
 unfold RE at h;split at h
 .simp only[gw,Ap] at h;rw[zy h.1,h.2]
 .simpa using h
 .rename_i a b;obtain⟨⟨a⟩⟩:=a;obtain⟨⟨b⟩⟩:=b
  grind
 .rfl
 .rfl
 .rfl
 .rfl
 .cases h
def FQ:List Value->List Value->Bool
 | [],[]=>true
 | a::r,b::s=>RE a b&&FQ r s
 | _,_=>false
def I3:∀{a b},FQ a b=true->a=b
 | [],[],_=>rfl
 | a::r,b::s,h=>by simp only[FQ,gw] at h;rw[W7 h.1,I3 h.2]
 | [],_::_,h=>by cases h
 | _::_,[],h=>by cases h
def D8(P:Program)(c:TypeId)(b:Nat)(e:List Value):Bool :=
 match P.info? c with
 | some i=>Nat.beq i.size b&&(match i.zero with|some z=>FQ z.cells.toList e|none=>false)
 | none=>false
def kk{P tid size b}(h:D8 P tid size b=true) :
  ∃i z,P.info? tid=aa i/\i.size=size/\i.zero=aa z/\z.cells.toList=b:=by
 unfold D8 at h;split at h
 .rename_i i c;simp only[gw] at h;split at h
  .rename_i z e;exact⟨i,z,c,gx h.1,e,I3 h.2⟩
  .grind
 .cases h
def EH(P:Program)(b:TypeId):Bool :=
 match P.info? b with
 | some i=>Nat.ble i.bytes 32768
 | none=>false
def Ty.adE:Ty->Bool
 | .alt _ _ r=>r.adE
 | .BX=>true
 | _=>false
def gf(P:Program):Ty->Bool->TypeId->Nat->List Field->Bool
 | .int k,false,tid,_,_=>(match P.underlying tid with|some (.int g)=>Nat.beq (Bl k) (Bl g)|_=>false)&&D8 P tid 1 [.int k 0]
 | .bool,false,tid,_,_=>(match P.underlying tid with|some .bool=>true|_=>false)&&D8 P tid 1 [.bool false]
 | .str,false,tid,_,_=>(match P.underlying tid with|some .string=>true|_=>false)&&D8 P tid 1 [.string ⟨#[]⟩]
 | .slice e,false,tid,_,_=>(match P.underlying tid with|some (.slice c)=>gf P e false c 0 []&&EH P c&&Nat.blt 0 e.size|_=>false)&&D8 P tid 1 [.slice af 0 0]
 | .arr n e,false,tid,_,_=>(match P.underlying tid with|some (.array m c)=>Nat.beq n m&&gf P e false c 0 []&&Nat.blt 0 e.size|_=>false)&&D8 P tid (n*e.size) (gn<|.arr n e)&&!P.eqGuardType P.depth tid
 | .pair a b,false,tid,_,_=>(match P.underlying tid with
  | some (.struct h)=>(match h.toList with
    | f::r=>Nat.beq f.offset 0&&decide (f.name ≠ "_")&&gf P a false f.type 0 []&&Nat.blt 0 a.size&&gf P b true 0 a.size r
    | []=>false)
  | _=>false)&&D8 P tid (a.size+b.size) (gn<|.pair a b)&&!P.eqGuardType P.depth tid&&!P.stoodInHeld tid
 | .unit,false,tid,_,_=>false
 | .alt u _ r,false,tid,_,_=>gf P r false tid 0 []&&P.concrete u&&r.adE
 | .BX,false,tid,_,_=>(match P.underlying tid with|some (.interface _)=>true|_=>false)&&D8 P tid 1 [.nilIface]
 | .pair a b,true,_,off,f::r=>Nat.beq f.offset off&&decide (f.name ≠ "_")&&gf P a false f.type 0 []&&Nat.blt 0 a.size&&gf P b true 0 (off+a.size) r
 | .unit,true,_,_,[]=>true
 | _,_,_,_,_=>false
def Den(P:Program)(t:Ty)(b:TypeId):Prop:=gf P t false b 0 []=true
def r5(P:Program)(t:Ty)(off:Nat)(b:List Field):Prop:=gf P t true 0 off b=true
section
variable {P:Program} {tid:TypeId}
def Den.int{k}(h:Den P (.int k) tid):P.underlying tid=aa (.int k):=by
 simp only[Den,gf,gw] at h;have b:=h.1;split at b
 .rename_i e c;rw[c,zy b]
 .cases b
def Den.bool(h:Den P .bool tid):P.underlying tid=aa .bool:=by
 simp only[Den,gf] at h
 grind
def Den.str(h:Den P .str tid):P.underlying tid=aa .string:=by
 simp only[Den,gf] at h
 grind
def Den.slice{e}(h:Den P (.slice e) tid):∃b,P.underlying tid=aa (.slice b)/\Den P e b/\EH P b=true/\0<e.size:=by
 simp only[Den,gf,gw] at h;have c:=h.1;split at c
 .rename_i b f;simp at c;exact⟨b,f,c.1.1,c.1.2,by simpa using c.2⟩
 .cases c
def Den.arr{n e}(h:Den P (.arr n e) tid):∃b,P.underlying tid=aa (.array n b)/\Den P e b/\0<e.size:=by
 simp only[Den,gf,gw] at h;have c:=h.1.1;split at c
 .rename_i m b f;simp only[gw] at c;rw[gx c.1.1];exact⟨b,f,c.1.2,by simpa using c.2⟩
 .cases c
def Den.aka{n e}(h:Den P (.arr n e) tid):P.eqGuardType P.depth tid=false:=by
 simp only[Den,gf] at h
 grind
def Den.pair{a b}(h:Den P (.pair a b) tid):∃e,P.underlying tid=aa (.struct e)/\r5 P (.pair a b) 0 e.toList/\P.eqGuardType P.depth tid=false/\P.stoodInHeld tid=false:=by
 simp only[Den,gf,gw] at h;obtain⟨⟨⟨c,l⟩,g⟩,i⟩:=h;split at c
 .rename_i e j;refine⟨e,j,?_,by simpa using g,by simpa using i⟩;split at c
  .rename_i f r k;simp only[r5,k,gf,BV];exact c
  .cases c
 .cases c
def Den.info{t}(h:Den P t tid):∃i z,P.info? tid=aa i/\i.size=t.size/\i.zero=aa z/\z.cells.toList=gn t:=by
 induction t with
 | int k=>simp only[Den,gf,gw] at h;exact kk h.2
 | bool=>simp only[Den,gf,gw] at h;exact kk h.2
 | str=>simp only[Den,gf,gw] at h;exact kk h.2
 | slice e=>simp only[Den,gf,gw] at h;exact kk h.2
 | arr n e=>simp only[Den,gf,gw] at h;exact kk h.1.2
 | pair a b=>simp only[Den,gf,gw] at h;exact kk h.1.1.2
 | unit=>simp[Den,gf] at h
 | alt u a r f c=>simp only[Den,gf,gw] at h;exact c h.1.1
 | BX=>simp only[Den,gf,gw] at h;exact kk h.2
def Den.BX(h:Den P .BX tid):∃b,P.underlying tid=aa (.interface b):=by
 simp only[Den,gf] at h
 grind
def Den.rest{u a r}(h:Den P (.alt u a r) tid):Den P r tid/\P.concrete u=true:=by
 simp only[Den,gf,gw] at h;exact h.1
def Ty.LC:∀{t:Ty},t.adE=true->t.size=1/\t.isAgg=false:=by
 intro t;induction t with
 | alt u a r c b=>intro h;exact b h
 | BX=>intro h;exact⟨rfl,rfl⟩
 | _=>intro h;cases h
def Den.adF{u a r}(_:Den P r tid)(h:Den P (.alt u a r) tid):r.size=1:=by
 simp only[Den,gf,gw] at h;exact(Ty.LC h.2).1
def Den.agg{t}(h:Den P t tid) w:(isAgg tid).run P w=.ok t.isAgg w:=by
 induction t with
 | alt u a r f g=>exact g h.rest.1
 | BX=>obtain⟨_,c⟩:=h.BX;unfold Go.isAgg;simp[run_underlying c,Ty.isAgg]
 | int k=>unfold Go.isAgg;simp[run_underlying h.int,Ty.isAgg]
 | bool=>unfold Go.isAgg;simp[run_underlying h.bool,Ty.isAgg]
 | str=>unfold Go.isAgg;simp[run_underlying h.str,Ty.isAgg]
 | slice e i=>unfold Go.isAgg;obtain⟨_,c,_⟩:=h.slice;simp[run_underlying c,Ty.isAgg]
 | arr n e i=>unfold Go.isAgg;obtain⟨_,c,_⟩:=h.arr;simp[run_underlying c,Ty.isAgg]
 | pair a b f j=>unfold Go.isAgg;obtain⟨_,c,_⟩:=h.pair;simp[run_underlying c,Ty.isAgg]
 | unit=>simp[Den,gf] at h
def Den.sizeOf{t}(h:Den P t tid) w:(Go.sizeOf tid).run P w=.ok t.size w:=by
 obtain⟨i,z,b,c,_⟩:=h.info;simp[Go.sizeOf,typeInfo,b,c]
def Den.zero{t}(h:Den P t tid) w:∃z,(zeroValue tid).run P w=.ok z w/\z.cells.toList=gn t:=by
 obtain⟨i,z,b,f,c,e⟩:=h.info;exact⟨z,by simp[zeroValue,typeInfo,b,c],e⟩
def Den.cells{t}(h:Den P t tid):P.cellsOf tid=t.size:=by
 obtain⟨i,z,b,c,_⟩:=h.info;simp[Program.cellsOf,b,c]
def r5.cons{a b off c}(h:r5 P (.pair a b) off c) :
  ∃f r,c=f::r/\f.offset=off/\f.name ≠ "_"/\Den P a f.type/\0<a.size/\r5 P b (off+a.size) r:=by
 cases c with
 | nil=>simp[r5,gf] at h
 | cons f r =>
   simp only[r5,gf,gw] at h;obtain⟨⟨⟨⟨e,g⟩,i⟩,j⟩,k⟩:=h;exact⟨f,r,rfl,gx e,by simpa using g,i,by simpa using j,k⟩
def r5.at{t}:∀{off e k u o},r5 P t off e->xn t k=aa u->iF t k=aa o ->
  ∃f,e[k]?=aa f/\f.offset=off+o/\Den P u f.type/\0<u.size:=by
 induction t with
 | pair a b i j =>
   intro off e k u o h g c;obtain⟨f,r,rfl,m,n,p,q,s⟩:=h.cons;cases k with
   | zero =>
     simp only[xn,iF] at g c
     grind
   | succ k =>
     simp only[xn,iF] at g c;cases l:iF b k with
     | none=>rw[l] at c;cases c
     | some v =>
       grind
 | _=>intro off e k u o h g c;cases k<;>simp[xn] at g
end
def DV.cells:DV->List Value
 | .dat t=>gn t
 | .buf _ _=>[.slice af 0 0]
 | .fnc=>[.nilFunc]
 | _=>[.pointer af]
def LD:List DV->List Value
 | []=>[]
 | f::r=>f.cells++LD r
def ah5:List DV->Nat
 | []=>0
 | f::r=>f.size+ah5 r
def PZ(P:Program):Nat->List DV->List Field->Bool
 | _,[],[]=>true
 | off,f::r,g::s=>Nat.beq g.offset off&&Nat.blt 0 f.size&&(match P.info? g.type with|some i=>Nat.beq i.size f.size|none=>false)&&PZ P (off+f.size) r s
 | _,_,_=>false
def OB(P:Program)(b:TypeId)(c:List DV):Bool :=
 (match P.underlying b with|some (.struct gs)=>PZ P 0 c gs.toList|_=>false)&&D8 P b (ah5 c) (LD c)
def aaH{P tid b}(h:OB P tid b=true) w:∃z,(zeroValue tid).run P w=.ok z w/\z.cells.toList=LD b:=by
 simp only[OB,gw] at h;obtain⟨i,z,c,g,e,f⟩:=kk h.2;exact⟨z,by simp[zeroValue,typeInfo,c,e],f⟩
def adG{P}:∀{b gs off k o},PZ P off b gs=true->xo b k=aa o->∃f i,gs[k]?=aa f/\f.offset=off+o/\P.info? f.type=aa i/\0<i.size:=by
 intro b;induction b with
 | nil=>intro gs off k o h c;cases c
 | cons f r j =>
   intro gs off k o h c;cases gs with
   | nil=>cases h
   | cons g s =>
     simp only[PZ,gw] at h;obtain⟨⟨⟨l,m⟩,e⟩,n⟩:=h;cases k with
     | zero =>
       obtain rfl:=aI c;split at e
       .simp_all
       .cases e
     | succ k =>
       simp only[xo] at c
       grind
def agr{P tid c k o}(h:OB P tid c=true)(e:xo c k=aa o):∃(gs:Array Field) (f:Field) (i:TypeInfo),P.underlying tid=aa (.struct gs)/\gs.toList[k]?=aa f/\f.offset=o/\P.info? f.type=aa i/\0<i.size:=by
 simp only[OB,gw] at h;obtain⟨b,_⟩:=h;split at b
 .rename_i gs g;obtain⟨f,i,j,l,m,n⟩:=adG b e
  grind
 .cases b
def FR{P}:∀{b gs off},PZ P off b gs=true->∃c,gs.mapM (λf=>(P.info? f.type).map λi=>(f.offset,i.size))=aa c /\
  ∀k o f,xo b k=aa o->b[k]?=aa f->c[k]?=aa (off+o,f.size):=by
 intro b;induction b with
 | nil =>
   intro gs off h;cases gs with
   | nil=>exact⟨[],rfl,λk o f _ l=>by cases l⟩
   | cons g s=>cases h
 | cons f r m =>
   intro gs off h;cases gs with
   | nil=>cases h
   | cons g s =>
     simp only[PZ,gw] at h;obtain⟨⟨⟨u,v⟩,e⟩,n⟩:=h;obtain⟨c,p,x⟩:=m n;split at e
     .rename_i i t;refine⟨(g.offset,i.size)::c,by simp[t,p],λk o q j y=>?_⟩;cases k with
      | zero =>
        obtain rfl:=aI j;simp_all
      | succ k =>
        simp only[xo] at j
        grind
     .cases e
structure fN (P:Program) (cx:Ctx):Prop where
 T:∀tid t,find cx.T tid=aa t->Den P t tid
 vf:∀tid,dc cx.vf tid=true->(∀w,(isAgg tid).run P w=.ok false w)/\(∀w,(Go.sizeOf tid).run P w=.ok 1 w)/\∃z,(∀w,(zeroValue tid).run P w=.ok z w)/\z.oneCell'=true
 DW:∀tid,dc cx.DW tid=true->∃e,P.underlying tid=aa (.pointer e)
 fns:∀f fn,find cx.fns f=aa fn->P.funcs[f]?=aa fn
 wb:∀tid fs,find cx.wb tid=aa fs->OB P tid fs=true
 els:∀tid e,find cx.els tid=aa e->P.underlying tid=aa (.slice e)
def jz{o t}(h:Hq o t=true):o=aa t:=by
 unfold Hq at h;split at h
 .rw[Ty.eq_of_beq h]
 .cases h
def addr_add b o n:Addr.add ⟨b,o,af⟩ n=⟨b,o+n,af⟩:=by
 unfold Addr.add;split<;>simp_all
def ba(l:List Value)(b:Nat)(c:List Value):List Value:=l.take b++c++l.drop (b+c.length)
def bO{l c off}(h:off+c.length<=l.length):(ba l off c).length=l.length:=by
 simp[ba];omega
def nr.same{cur cur' b}(h:nr cur b)(c:cur'.size=cur.size):nr cur' b:=λo e=>h o ah
section
variable {P:Program}
def ThB.same{e cur cur' b}(h:ThB e cur b)(c:cur'.size=cur.size):ThB e cur' b:=⟨h.th.same c,λf=>by rw[c];exact h.um f⟩
def du g o t f:∀l i b w,w.heap[g]?=aa (.cells b t f)->nr b f ->
  o+i+l.length<=b.size->(∀v∈l,v.oneCell'=true)->(storeCells ⟨g,o,af⟩ l i).run P w=.ok () (w.setRow g (ba b.toList (o+i) l).toArray)
 | [],i,b,w,h,_,_,_=>by
   simp only[storeCells,ba,tK,p6,FC,Fz,Array.toArray_toList];rw[setRow_self w g b t f h];rfl
 | v::rest,i,b,w,h,j,n,p=>by
   have hi:o+i<b.size:=by simp at n;omega
   have c:w.cell? ⟨g,o+i,af⟩=aa b[o+i]:=by simp[World.cell?,h]
   have k:w.frozen? ⟨g,o+i,af⟩=false:=by
    have:=j _ hi;simp only[World.frozen?]
    grind
   have m:(store ((⟨g,o,af⟩:Addr).add i) v).run P w=.ok () (w.setRow g<|b.setIfInBounds (o+i) v):=by
    rw[addr_add,run_store P w _ v _ (p v aT),c];simp[k,setCell_eq_setRow w g _ b t f v h]
   simp only[storeCells,Sem.run_bind,m,Result.andThen_ok,(du g o t f rest (i+1) (b.setIfInBounds (o+i) v) _ (setRow_heap w g b _ t _ h) (j.same aT) (by simp at n⊢;omega) λx q=>p x (by simp[q])),setRow_setRow]
   congr 3
   have e:=list_seg_step b.toList _ v rest ah;simpa [ba,EB] using e
def cell_of_heap{w:World}{g cur t b}(c:w.heap[g]?=aa (.cells cur t b)) j:w.cell? ⟨g,j,af⟩=cur[j]?:=by
 simp[World.cell?,c]
def DY{w g off n cur t c}(e:w.heap[g]?=aa (.cells cur t c))(h:off+n<=cur.size) :
  (loadCells ⟨g,off,af⟩ n).run P w=.ok ((cur.toList.drop off).take n).toArray w:=by
 have:=run_loadCells_list (P:=P) w ⟨g,off,af⟩ ((cur.toList.drop off).take n) (λj v b=>by
  rw[addr_add,cell_of_heap e];rw[jM] at b;split at b
  .grind
  .cases b)
 grind
def Hz{w I g off cs}(h:FO w I g off cs):(loadCells ⟨g,off,af⟩ cs.length).run P w=.ok cs.toArray w :=
 run_loadCells_list w ⟨g,off,af⟩ cs (λj v b=>by rw[addr_add];exact(h j v b).1)
end
def iI{a b:Nat}(h:a≠b):Nat.beq a b=false:=by
 cases c:Nat.beq a b
 .rfl
 .simp_all
def adH(a:Act) d t v (hd:d<a.tmps.size):(a.put (aa d) v).tmps.getD t undef=if t=d then v else a.tmps.getD t undef:=by
 simp only[Act.put,WX]
 grind
def Uj(a:Act)(d:Option Nat) v:(a.put d v).tmps.size=a.tmps.size:=by cases d<;>simp[Act.put]
def put_defers(a:Act)(d:Option Nat) v:(a.put d v).defers=a.defers:=by cases d<;>rfl
section
variable {B:B5} {N:Nat} {γ bE:Gh} {σ:St} {a:Act} {w w':World} {mem':Nat->Option Box}
def dy.step(h:dy B N γ σ a w)(b:Ext B γ σ.mem w bE mem' w')(c:bF B bE mem' w'){d}(f:d<N){v val}(g:cI bE mem' w' v .val [val]) :
  dy B N bE ({ bh:=σ.bh,mem:=mem':St }.put d v) (a.put (aa d) val) w' where
 bh:=λt=>by
  rw[adH a d t val<|by rw[h.size];exact f];simp only[St.put];by_cases e:t=d
  .simp_all
  .rw[aK e,iI e];exact(h.bh t).ext b
 size:=by rw[Uj];exact h.size
 defers:=by exact h.defers
 ok:=c
def dy.go(h:dy B N γ σ a w)(b:Ext B γ σ.mem w bE mem' w')(c:bF B bE mem' w'):dy B N bE { bh:=σ.bh,mem:=mem' } a w' where
 bh:=λt=>(h.bh t).ext b
 size:=h.size
 defers:=h.defers
 ok:=c
def dy.bu(h:dy B N γ σ a w)(b:Ext B γ σ.mem w bE mem' w')(c:bF B bE mem' w'){d}(e:∀k,d=aa k->k<N){v val}(f:cI bE mem' w' v .val [val]) :
  dy B N bE ({ bh:=σ.bh,mem:=mem':St }.bu d v) (a.put d val) w':=by
 cases d with
 | none=>exact h.go b c
 | some d=>exact h.step b c (e d rfl) f
def dy.xv(h:dy B N γ σ a w){d}(b:∀k,d=aa k->k<N){v val}(c:cI γ σ.mem w v .val [val]) :
 dy B N γ (σ.bu d v) (a.put d val) w:=h.bu (Ext.refl _ _ _ _) h.ok b c
end
def eg{γ mem w t x v}:cI γ mem w (.data t x) .val [v]↔∃cs,bJ w γ.I t x cs/\v=cY t cs:=by
 simp only[cI,adf,T6]
def aaI γ mem w v:cI γ mem w (Lr v) .val [v]:=by
 unfold Lr;split
 .rename_i k n;cases c:(decide (k.min<=n)&&decide (n<=k.max))
  .exact⟨_,rfl⟩
  .simp at c;exact⟨[.int k n],⟨rfl,c.1,c.2⟩,rfl⟩
 .rename_i b;exact⟨[.bool b],rfl,rfl⟩
 .rename_i s;cases c:Nat.ble s.data.toList.length 4294967296
  .exact⟨_,rfl⟩
  .refine⟨[.string s],⟨?_,?_⟩,rfl⟩
   .grind
   .have:=JL c;simp only[maxLen];omega
 .rfl
 .rfl
 .rfl
 .exact⟨_,rfl⟩
def dy.cW{B N γ σ a w}(h:dy B N γ σ a w) x:cI γ σ.mem w (cW σ x) .val [a.eval x]:=by
 cases x with
 | tmp t=>exact h.bh t
 | const v=>exact aaI _ _ _ v
 | global g=>exact⟨_,rfl⟩
 | func f=>exact⟨#[],rfl,rfl,λi b c e=>by simp at e⟩
def cI.jO{γ mem w v x}(h:cI γ mem w v .val [x])(O:∀u,v≠.BR u)(K:v=.undef->x.oneCell'=true):cI γ mem w v .cells x.cells.toList:=by
 cases v with
 | undef=>exact⟨x,by cases x<;>first|rfl|(have:=K rfl;simp[Value.oneCell'] at this),K rfl⟩
 | data t y=>obtain⟨L,g,i⟩:=eg.1 h;subst i;rw[ur g];exact g
 | p7=>obtain rfl:x=_:=by simpa [cI] using h
       rfl
 | vd=>obtain rfl:x=_:=by simpa [cI] using h
       rfl
 | ve=>obtain rfl:x=_:=by simpa [cI] using h
       rfl
 | yr b aP=>obtain⟨⟨v,g,i⟩,o⟩:=h;simp at g;subst g;refine⟨⟨x,?_,i⟩,?_⟩
            .cases x<;>first|rfl|(simp[Value.oneCell'] at i)
            .obtain⟨s,z,A,C⟩:=o;exact⟨s,z,A,λe=>by
              obtain⟨m,j,D,l⟩:=C e;refine⟨m,j,D,?_⟩;rcases l with l|l
              .simp at l;subst l;exact .inl rfl
              .simp at l;subst l;exact .inr rfl⟩
 | cell t y=>obtain⟨m,H,L,g,i,o⟩:=h;simp at g;subst g;exact⟨m,H,L,rfl,i,o⟩
 | ptr b aP p=>obtain⟨⟨v,g,i⟩,o⟩:=h;simp at g;subst g;refine⟨⟨x,?_,i⟩,?_⟩
               .cases x<;>first|rfl|(simp[Value.oneCell'] at i)
               .obtain⟨s,z,A,C⟩:=o;exact⟨s,z,A,λe=>by obtain⟨m,j,D,l⟩:=C e;simp at l;subst l;exact⟨m,j,D,rfl⟩⟩
 | whole b aP=>obtain⟨⟨v,g,i⟩,o⟩:=h;simp at g;subst g;refine⟨⟨x,?_,i⟩,?_⟩
               .cases x<;>first|rfl|(simp[Value.oneCell'] at i)
               .obtain⟨s,z,A,C⟩:=o;exact⟨s,z,A,λe=>by
                 obtain⟨u,n,D,l,E⟩:=C e;refine⟨u,n,D,l,?_⟩;rcases E with ⟨E,F⟩|⟨m,j,E,F⟩
                 .simp at F;subst F;exact .inl ⟨E,rfl⟩
                 .simp at F;subst F;exact .inr ⟨m,j,E,rfl⟩⟩
 | part b aP lo n=>obtain⟨⟨v,g,i⟩,o⟩:=h;simp at g;subst g;refine⟨⟨x,?_,i⟩,?_⟩
                   .cases x<;>first|rfl|(simp[Value.oneCell'] at i)
                   .obtain⟨s,z,A,C⟩:=o;exact⟨s,z,A,λe=>by
                     obtain⟨u,k,D,l,E,F,r,j,G,I⟩:=C e;simp at G;subst G;exact⟨u,k,D,l,E,F,r,j,rfl,I⟩⟩
 | win b aP q e k lo n=>obtain⟨⟨v,g,i⟩,o⟩:=h;simp at g;subst g;refine⟨⟨x,?_,i⟩,?_⟩
                        .cases x<;>first|rfl|(simp[Value.oneCell'] at i)
                        .obtain⟨s,z,A,C⟩:=o;exact⟨s,z,A,λe=>by
                          obtain⟨Q,u,c,D,l,E,F,r,j,G,I⟩:=C e;simp at G;subst G;exact⟨Q,u,c,D,l,E,F,r,j,rfl,I⟩⟩
 | fn f M=>obtain⟨J,g,i⟩:=h;simp at g;subst g;exact⟨J,rfl,i⟩
 | mix p q=>obtain⟨R,S,g,i,o⟩:=h;simp at g;subst g;exact⟨R,S,by simp[Value.cells],i,o⟩
 | BR u=>exact absurd rfl (O u)
 | nl=>exact h.elim
def cI.length{γ mem w}:∀{v cs},cI γ mem w v .cells cs->cs.length=dQ v:=by
 intro v;induction v with
 | data t x=>intro cs h;exact bJ.length h
 | mix a b c g=>intro cs h;obtain⟨m,o,rfl,j,l⟩:=h;rw[iC,c j,g l];rfl
 | undef=>intro cs h;obtain⟨v,rfl,_⟩:=h;rfl
 | p7=>intro cs h;rw[show cs=_ from h];rfl
 | vd=>intro cs h;rw[show cs=_ from h];rfl
 | ve=>intro cs h;rw[show cs=_ from h];rfl
 | yr b aP=>intro cs h;obtain⟨⟨_,rfl,_⟩,_⟩:=h;rfl
 | cell t x=>intro cs h;obtain⟨_,_,_,rfl,_⟩:=h;rfl
 | ptr b aP p=>intro cs h;obtain⟨⟨_,rfl,_⟩,_⟩:=h;rfl
 | whole b aP=>intro cs h;obtain⟨⟨_,rfl,_⟩,_⟩:=h;rfl
 | part b aP lo n=>intro cs h;obtain⟨⟨_,rfl,_⟩,_⟩:=h;rfl
 | win b aP q e k lo n=>intro cs h;obtain⟨⟨_,rfl,_⟩,_⟩:=h;rfl
 | fn f i=>intro cs h;obtain⟨_,rfl,_⟩:=h;rfl
 | BR u r=>intro cs h;exact h.elim
 | nl=>intro cs h;exact h.elim
def cI.one{γ mem w}:∀{v cs},cI γ mem w v .cells cs->∀c∈cs,c.oneCell'=true:=by
 intro v;induction v with
 | data t x=>intro cs h;exact bJ.one h
 | mix a b l m =>
   intro cs h c g;obtain⟨o,r,rfl,i,s⟩:=h
   grind
 | undef=>intro cs h c g;obtain⟨v,rfl,i⟩:=h;simp at g;subst g;exact i
 | p7=>intro cs h c g;rw[show cs=_ from h] at g;simp at g;subst g;rfl
 | vd=>intro cs h c g;rw[show cs=_ from h] at g;simp at g;subst g;rfl
 | ve=>intro cs h c g;rw[show cs=_ from h] at g;simp at g;subst g;rfl
 | yr b aP=>intro cs h c g;obtain⟨⟨_,rfl,i⟩,_⟩:=h;simp at g;subst g;exact i
 | cell t x=>intro cs h c g;obtain⟨_,_,_,rfl,_⟩:=h;simp at g;subst g;rfl
 | ptr b aP p=>intro cs h c g;obtain⟨⟨_,rfl,i⟩,_⟩:=h;simp at g;subst g;exact i
 | whole b aP=>intro cs h c g;obtain⟨⟨_,rfl,i⟩,_⟩:=h;simp at g;subst g;exact i
 | part b aP lo n=>intro cs h c g;obtain⟨⟨_,rfl,i⟩,_⟩:=h;simp at g;subst g;exact i
 | win b aP q e k lo n=>intro cs h c g;obtain⟨⟨_,rfl,i⟩,_⟩:=h;simp at g;subst g;exact i
 | fn f j=>intro cs h c g;obtain⟨_,rfl,_⟩:=h;simp at g;subst g;rfl
 | BR u y=>intro cs h;exact h.elim
 | nl=>intro cs h;exact h.elim
def vj{α}{l:List α}{i x}(h:idx l i=aa x):0<=i/\l[i.toNat]?=aa x:=by
 unfold idx at h
 grind
def EI{w I}:∀{t x cs k o u},bJ w I t x cs->y5 t x k=aa (o,u) ->
  ∃(c:Ty) (y:c.den),u=.data c y/\xn t k=aa c/\iF t k=aa o/\o+c.size<=cs.length/\bJ w I c y ((cs.drop o).take c.size):=by
 intro t;induction t with
 | pair a b j g =>
   intro x cs k o u h e;obtain⟨s,v,rfl,f,l⟩:=h;cases k with
   | zero =>
     obtain⟨rfl,rfl⟩:=e;refine⟨a,x.1,rfl,rfl,rfl,by rw[iC,f.length];omega,?_⟩;rw[DU,<-f.length,TZ];exact f
   | succ k =>
     simp only[y5] at e;cases i:y5 b x.2 k with
     | none=>rw[i] at e;cases e
     | some r =>
       rw[i] at e;obtain⟨rfl,rfl⟩:=e;obtain⟨c,y,m,n,p,z,q⟩:=g l i;refine⟨c,y,m,n,by simp[iF,p],by rw[iC,f.length];omega,?_⟩;rw[<-f.length,<-Aq,Lm];exact q
 | _=>intro x cs k o u h e;cases k<;>simp[y5] at e
def zH{γ mem w}:∀{v cs k o u},cI γ mem w v .cells cs->vS v k=aa (o,u) ->
  o+dQ u<=cs.length/\cI γ mem w u .cells ((cs.drop o).take<|dQ u):=by
 intro v;induction v with
 | data t x =>
   intro cs k o u h c;obtain⟨m,y,rfl,_,_,e,f⟩:=EI h c;exact⟨e,f⟩
 | mix a b j g =>
   intro cs k o u h c;obtain⟨n,p,rfl,e,f⟩:=h;cases k with
   | zero =>
     obtain⟨rfl,rfl⟩:=c;refine⟨by rw[iC,e.length];omega,?_⟩;rw[DU,<-e.length,TZ];exact e
   | succ k =>
     simp only[vS] at c;cases i:vS b k with
     | none=>rw[i] at c;cases c
     | some r =>
       rw[i] at c;obtain⟨rfl,rfl⟩:=c;obtain⟨q,l⟩:=g f i;refine⟨by rw[iC,e.length];omega,?_⟩;rw[<-e.length,<-Aq,Lm];exact l
 | _=>intro cs k o u h c;cases k<;>simp[vS] at c
def KJ{γ mem w t v z es}(h:toS t v=aa z)(b:cI γ mem w v .cells es):bJ w γ.I t z es:=by
 cases v with
 | data u y =>
   obtain⟨e,c⟩:=Ty.lQ h;subst e;subst c;exact b
 | _=>cases h
def bind_some{α β}{t:Tree α}{f:α->Tree β}{y}(h:(t.bind f).run=aa y):∃x,t.run=aa x/\(f x).run=aa y:=by
 rw[Tree.run_bind] at h;exact BL.1 h
def cg{T α o}{k:T->Tree α}{y}(h:(Tree.look o k).run=aa y):∃x,o=aa x/\(k x).run=aa y:=by
 cases o with
 | none=>cases h
 | some x=>exact⟨x,rfl,h⟩
def cP{α c}{t:Tree α}{y}(h:(Tree.ju c t).run=aa y):c=true/\t.run=aa y:=by
 cases c with
 | false=>cases h
 | true=>exact⟨rfl,h⟩
def ay{α c}{t:Tree α}{y}(h:(bif c then t else .fail).run=aa y):c=true/\t.run=aa y:=by
 cases c with
 | false=>cases h
 | true=>exact⟨rfl,h⟩
def gD{α c}{t e:Tree α}{y}(h:(Tree.node c t e).run=aa y):(bif c then t else e).run=aa y:=by
 cases c<;>exact h
section
variable {γ:Gh} {mem:Nat->Option Box} {w:World}
def Uk:∀{t x cs k o u y f es},
  bJ w γ.I t x cs->y5 t x k=aa (o,u)->(∀v,(f u).run=aa v->cI γ mem w v .cells es)->(Rv t x k f).run=aa y->es.length=dQ u ->
  bJ w γ.I t y (ba cs o es):=by
 intro t;induction t with
 | pair a b A i =>
   intro x cs k o u y f es h e n c j;obtain⟨p,q,rfl,l,s⟩:=h;cases k with
   | zero =>
     obtain⟨rfl,rfl⟩:=e;obtain⟨v,m,c⟩:=bind_some c;cases hv:toS a v with
     | none=>rw[hv] at c;cases c
     | some z =>
       rw[hv] at c;obtain rfl:=aI c;simp only[dQ] at j;refine⟨es,q,?_,KJ hv (n v m),s⟩;simp only[ba,adj,Lk,BV];rw[show es.length=p.length by rw[j,l.length],Lm]
   | succ k =>
     simp only[y5] at e;cases g:y5 b x.2 k with
     | none=>rw[g] at e;cases e
     | some r =>
       rw[g] at e;obtain⟨rfl,rfl⟩:=e;obtain⟨z,C,c⟩:=bind_some c;obtain rfl:=aI c;have:=i s g n C j;refine⟨p,ba q r.1 es,?_,l,this⟩;simp only[ba,<-l.length,acW,xg];rw[EB,<-Aq,Lm]
 | _=>intro x cs k o u y f es h e;cases k<;>simp[y5] at e
def Ay:∀{j cs k o u c f es},
  cI γ mem w j .cells cs->vS j k=aa (o,u)->(∀v,(f u).run=aa v->cI γ mem w v .cells es)->(EC j k f).run=aa c->es.length=dQ u ->
  cI γ mem w c .cells (ba cs o es):=by
 intro j;induction j with
 | data t x =>
   intro cs k o u c f es h e l g m;obtain⟨y,D,g⟩:=bind_some g;obtain rfl:=aI g;exact Uk h e l D m
 | mix a b E n =>
   intro cs k o u c f es h e l g m;obtain⟨s,A,rfl,p,C⟩:=h;cases k with
   | zero =>
     obtain⟨rfl,rfl⟩:=e;obtain⟨v,q,g⟩:=bind_some g;obtain rfl:=aI g;refine⟨es,A,?_,(l v q),C⟩;simp only[ba,adj,Lk,BV];rw[show es.length=s.length by rw[m,p.length],Lm]
   | succ k =>
     simp only[vS] at e;cases i:vS b k with
     | none=>rw[i] at e;cases e
     | some r =>
       rw[i] at e;obtain⟨rfl,rfl⟩:=e;obtain⟨z,F,g⟩:=bind_some g;obtain rfl:=aI g;have:=n C i l F m;refine⟨s,ba A r.1 es,?_,p,this⟩;simp only[ba,<-p.length,acW,xg];rw[EB,<-Aq,Lm]
 | _=>intro cs k o u c f es h e;cases k<;>simp[vS] at e
def yv:∀{p v u cs},cI γ mem w v .cells cs->(nav p v).run=aa u->ef p+dQ u<=cs.length/\cI γ mem w u .cells ((cs.drop<|ef p).take<|dQ u):=by
 intro p;induction p with
 | nil =>
   intro v u cs h b;obtain rfl:=aI b;have j:=h.length;refine⟨by simp[ef];omega,?_⟩;rw[show ef []=0 from rfl,DU,<-j,zw];exact h
 | cons s p t =>
   intro v u cs h b;cases s with
   | gz k off =>
     simp only[nav] at b;cases m:vS v k with
     | none=>rw[m] at b;cases b
     | some r =>
       rw[m] at b;obtain⟨o,c⟩:=ay b;obtain⟨F,y⟩:=zH h m;obtain⟨A,f⟩:=t y c;have j:=y.length;simp only[ef,<-(gx o)];refine⟨ah,?_⟩;rw[Zf,Oz,Aq,xh ah] at f;exact f
   | idx i size =>
     simp only[nav] at b;split at b
     .rename_i n e l;obtain⟨o,c⟩:=ay b;obtain⟨x,C,q⟩:=cg c;obtain⟨G,g⟩:=vj C;obtain⟨H,I,D⟩:=h;have z:=D _ x g;obtain⟨A,f⟩:=t (v:=.data e x) z q;have j:=z.length;have hi:i.toNat<n:=by have:=(iy.1 g).1;omega
      have E:_*e.size<=n*e.size:=gW _ hi;rw[JO] at E;simp only[ef,(gx o)];refine⟨ah,?_⟩;rw[Zf,Oz,Aq,xh ah] at f;exact f
     .cases b
def uu cs a b n es (h:b+es.length<=n) (g:a+n<=cs.length) :
  ba cs a (ba ((cs.drop a).take n) b es)=ba cs (a+b) es:=by
 have e:((cs.drop a).take n).length=n:=cT;have c:(ba ((cs.drop a).take n) b es).length=n:=by rw[bO ah,e]
 have f:ba cs a (ba ((cs.drop a).take n) b es)=cs.take a++ba ((cs.drop a).take n) b es++cs.drop (a+n):=by
  rw[ba,c]
 rw[f];simp only[ba,xg];rw[Oz,xh ah,<-xg,<-List.take_add];have:cs.drop (a+n)=(cs.drop a).drop n:=by rw[Aq]
 rw[this,<-aaB (by rw[e];exact h),Fz,Aq,EB]
def LF{I e n}{l:List e.den}{cs es i y}(r:l.length=n)(s:n*e.size<=cs.length)
  (h:∀j x,l[j]?=aa x->bJ w I e x ((cs.drop<|j*e.size).take e.size)) (k:i<n) (m:bJ w I e y es) :
  ∀j x,(l.set i y)[j]?=aa x->bJ w I e x (((ba cs (i*e.size) es).drop<|j*e.size).take e.size):=by
 intro j x b;have o:=m.length;have t:_*e.size<=n*e.size:=gW _ k;rw[List.getElem?_set] at b;split at b
 .rename_i c;split at b
  .obtain rfl:=aI b;have:((ba cs (i*e.size) es).drop<|i*e.size).take e.size=es:=by
    rw[ba]
    grind
   grind
  .cases b
 .rename_i c;have p:j<n:=by have:=(iy.1 b).1;omega
  have f:_*e.size<=n*e.size:=gW _ p;rw[JO] at f;have key:((ba cs (i*e.size) es).drop<|j*e.size).take e.size=(cs.drop<|j*e.size).take e.size:=by
   apply Lg;intro q;rw[jM,jM];split
   .rename_i u;rw[va,va,ba];rcases tL j i with g|g
    .have:_*e.size<=i*e.size:=gW _ g
     grind
    .have:(i+1)*e.size<=j*e.size:=gW _ ah
     grind
   .rfl
  grind
def Az:∀{p v E u c cs es},cI γ mem w v .cells cs->(nav p v).run=aa E->(Ar p v u).run=aa c->cI γ mem w u .cells es->es.length=dQ E ->
  cI γ mem w c .cells (ba cs (ef p) es):=by
 intro p;induction p with
 | nil =>
   intro v E u c cs es h b F H q;obtain rfl:=aI b;obtain rfl:=aI F;have:=h.length;simp only[ef,ba]
   grind
 | cons s p Q =>
   intro v E u c cs es h b F H q;cases s with
   | gz k off =>
     simp only[nav] at b;cases G:vS v k with
     | none=>rw[G] at b;cases b
     | some r =>
       rw[G] at b;obtain⟨I,g⟩:=ay b;obtain⟨V,J⟩:=zH h G;obtain⟨t,W⟩:=yv J g;have m:=J.length;rw[m] at t;have:=Ay (f:=λw=>Ar p w u) h G (λz K=>Q J g K H q) F (by rw[bO<|by rw[m,q];exact t,m]);rw[uu cs r.1 _ _ es ah V,(gx I)] at this;exact this
   | idx i size =>
     simp only[nav] at b;split at b
     .rename_i n e l;obtain⟨I,g⟩:=ay b;obtain⟨x,R,A⟩:=cg g;obtain⟨X,L,M⟩:=cg F;obtain rfl:x=X:=aI (R.symm.trans L);obtain⟨z,K,j⟩:=bind_some M;cases O:toS e z with
      | none=>rw[O] at j;cases j
      | some y =>
        rw[O] at j;obtain rfl:=aI j;obtain⟨h0,C⟩:=vj R;obtain⟨S,Y,T⟩:=h;have U:=T _ x C;have hi:i.toNat<n:=by have:=(iy.1 C).1;omega
        have Z:_*e.size<=n*e.size:=gW _ hi;rw[JO] at Z;have D:cI γ mem w (.data e x) .cells _:=U;obtain⟨t,W⟩:=yv D A;have o:=U.length;rw[o] at t;have hsl:(ba ((cs.drop<|i.toNat*e.size).take e.size) (ef p) es).length=e.size:=by rw[bO<|by rw[o,q];exact t,o]
        simp only[ef,(gx I)];rw[<-(uu cs _ _ e.size es ah ah)];refine⟨(@List.length_set _ l _ _).trans S,?_,LF S ah T hi (KJ O<|Q D A K H q)⟩
        .rw[bO ah];exact Y
     .cases b
end
open RowKit
section
variable {B:B5} {γ bE:Gh} {mem mem':Nat->Option Box} {w w':World}
def eB.keep{c p}(h:eB γ mem w c p)(q:Ext B γ mem w bE mem' w')(r:bE.loc c=γ.loc c)
  (v:∀b k,γ.loc c=aa (b,k)->w'.heap[b]?=w.heap[b]?):eB bE mem' w' c p:=by
 unfold eB at h⊢;cases g:p.buf with
 | true =>
   rw[g] at h;obtain⟨e,l,y,z,f⟩:=h;refine⟨e,l,y,z,?_⟩;rcases f with ⟨f,n⟩|⟨b,j,m,tid,s,f,n,t,o,u,A,C,D⟩
   .exact .inl ⟨r.trans f,n⟩
   .exact .inr ⟨b,j,m,tid,s,r.trans f,(v _ _ f).trans n,t,o,u,A,C,λi x E=>bJ.mono q.I q.cells (D i x E)⟩
 | false =>
   rw[g] at h;obtain⟨b,j,m,tid,s,f,n,t,F,u⟩:=h;exact⟨b,j,m,tid,s,r.trans f,(v _ _ f).trans n,t,F,u.ext q⟩
def dF{a}(h:w'.heap[a.block]?=w.heap[a.block]?):w'.cell? a=w.cell? a:=by simp[World.cell?,h]
def bP(c:Gh)(b:Nat)(L:Option (Nat×Nat)):Gh:={ c with loc:=λi=>if i=b then L else c.loc i }
def dn(c:Nat->Option Box)(b:Nat)(bx:Box):Nat->Option Box:=λi=>bif Nat.beq i b then aa bx else c i
def bD b bx:dn mem b bx b=aa bx:=by simp[dn]
def aZ{b c} e (h:c≠b):dn mem b e c=mem c:=by simp[dn,iI h]
def wg(h:bF B γ mem w){b bx L}(f:∀g,mem b=aa g->g.aP<bx.aP)
  (m:we B w w') (i:∀k,k<w.heap.size->w'.heap[k]?=w.heap[k]?):Ext B γ mem w (bP γ b L) (dn mem b bx) w' where
 below:=m
 I:=λ_ _ x=>x
 r4:=λ_ _ x=>.inl x
 cells:=λj o x=>dF (i j<|h.vg j o x)
 boxes:=λc cx l=>by
  by_cases e:c=b
  .subst e;refine⟨bx,bD _ _,Nat.le_of_lt (f _ l),λe=>absurd e ?_⟩;have:=f _ l;omega
  .exact⟨cx,by rw[aZ _ e];exact l,bV _,λ_=>⟨by simp[bP,e],rfl,rfl⟩⟩
def bF.add(h:bF B γ mem w){b bx L}(m:∀p,mem b=aa p->p.aP<bx.aP)
  (q:we B w w') (j:∀k,k<w.heap.size->w'.heap[k]?=w.heap[k]?) (r:∀f k,L=aa (f,k)->w.heap.size<=f/\f<w'.heap.size)
  (u:eB (bP γ b L) (dn mem b bx) w' b bx):bF B (bP γ b L) (dn mem b bx) w' where
 vh:=h.FP (wg (L:=L) h m q j)
 base:=fi h.base q.size
 boxes:=λc cx g=>by
  by_cases e:c=b
  .subst e;rw[bD] at g;obtain rfl:=aI g;exact u
  .rw[aZ _ e] at g;refine(h.boxes c cx g).keep (wg h m q j) (by simp[bP,e]) λf k x=>j f (h.fresh c f k (by rw[g];simp) x).2
 inj:=λc d f k v g s i n=>by
  by_cases e:c=b
  .by_cases o:d=b
   .rw[e,o]
   .exfalso;simp only[bP,aQ e] at i;simp only[bP,aK o] at n;rw[aZ _ o] at s;have:=(h.fresh d f v s n).2;have:=(r _ _ i).1;omega
  .by_cases o:d=b
   .exfalso;simp only[bP,aK e] at i;simp only[bP,aQ o] at n;rw[aZ _ e] at g;have:=(h.fresh c f k g i).2;have:=(r _ _ n).1;omega
   .simp only[bP,aK e] at i;simp only[bP,aK o] at n;rw[aZ _ e] at g;rw[aZ _ o] at s;exact h.inj c d f k v g s i n
 fresh:=λc f k g i=>by
  by_cases e:c=b
  .simp only[bP,aQ e] at i;obtain⟨n,y⟩:=r _ _ i;exact⟨.inl (by have:=h.base;omega),y⟩
  .simp only[bP,aK e] at i;rw[aZ _ e] at g;have:=h.fresh c f k g i;exact⟨this.1,zv this.2 q.size⟩
 vg:=λf l t=>zv (h.vg f l t) q.size
 sep:=λc cx f k l g i t=>by
  by_cases e:c=b
  .exfalso;simp only[bP,aQ e] at i;have:=(r _ _ i).1;have:=h.vg f l t;omega
  .simp only[bP,aK e] at i;rw[aZ _ e] at g;exact h.sep c cx f k l g i t
def cZ(w:World) o:∀k,k<w.heap.size->(w.alloc o).heap[k]?=w.heap[k]?:=λk b=>Below.heap_alloc w o k b
def vk cs:nr cs (0,0):=λo _ h=>ah
def xw e cs:ThB e cs (0,0):=⟨vk cs,λ_ h=>ah⟩
def bF.newVar(h:bF B γ mem w){b v tid aP}(c:∀f,mem b=aa f->f.aP<aP){cs} g (i:tid=0\/g=tid) (hv:cI γ mem w v .cells cs.toList) :
  let bx:Box:={ val:=v,tid,buf:=false,ro:=false,lk:=false,aP }
  bF B (bP γ b<|some (w.heap.size,0)) (dn mem b bx) (w.alloc<|.cells cs g)/\Ext B γ mem w (bP γ b<|some (w.heap.size,0)) (dn mem b bx) (w.alloc<|.cells cs g):=by
 intro bx;have j:we B w (w.alloc<|.cells cs g):=(we.refl _ _).alloc h.base _;have hx:=wg (L:=aa (w.heap.size,0)) h (bx:=bx) c j (cZ w _);refine⟨h.add c j (cZ w _) (λl k e=>by obtain⟨rfl,rfl⟩:=eN (aI e);exact⟨bV _,aT⟩) ?_,hx⟩;exact⟨w.heap.size,0,cs,g,_,by simp[bP],heap_alloc_new w _,vk cs,i,hv.ext hx⟩
def bF.adI(h:bF B γ mem w){b e}{l:List e.den}{tid aP cap blk}(f:∀m,mem b=aa m->m.aP<aP){cs o p}(v:0<e.size)
  (u:we B w w') (g:∀k,k<w.heap.size->w'.heap[k]?=w.heap[k]?) (r:w.heap.size<=blk) (j:w'.heap[blk]?=aa (.cells cs o p)) (s:ThB e cs p) (n:tid=0\/o=tid)
  (y:l.length<=cap) (z:cap<=maxLen) (A:cs.size=cap*e.size) (C:∀i x,l[i]?=aa x->bJ w' γ.I e x ((cs.toList.drop<|i*e.size).take e.size)) :
  let t:Box:={ val:=.data (.slice e) l,tid,buf:=true,ro:=false,lk:=false,aP }
  bF B (bP γ b<|some (blk,cap)) (dn mem b t) w'/\Ext B γ mem w (bP γ b<|some (blk,cap)) (dn mem b t) w':=by
 intro t;refine⟨h.add f u g (λc k q=>by obtain⟨rfl,rfl⟩:=eN (aI q);exact⟨r,((xe.1 j).1)⟩) ?_,(wg h f u g)⟩;exact⟨e,l,rfl,v,.inr ⟨blk,cap,cs,o,p,by simp[bP],j,s,n,y,z,A,C⟩⟩
def bF.LG(h:bF B γ mem w){b e}{l:List e.den}{tid aP cap}(f:∀g,mem b=aa g->g.aP<aP){cs p r}(s:0<e.size)
  (t:we B w w') (c:∀k,k<w.heap.size->w'.heap[k]?=w.heap[k]?) (j:w'.heap[w.heap.size]?=aa (.cells cs p r)) (n:ThB e cs r) (m:tid=0\/p=tid)
  (u:l.length<=cap) (v:cap<=maxLen) (y:cs.size=cap*e.size) (z:∀i x,l[i]?=aa x->bJ w γ.I e x ((cs.toList.drop<|i*e.size).take e.size)) :
  let bx:Box:={ val:=.data (.slice e) l,tid,buf:=true,ro:=false,lk:=false,aP }
  bF B (bP γ b<|some (w.heap.size,cap)) (dn mem b bx) w'/\Ext B γ mem w (bP γ b<|some (w.heap.size,cap)) (dn mem b bx) w' :=
 h.adI f s t c (bV _) j n m u v y λi x A =>
  bJ.mono (λ_ _ q=>q) (λblk o q=>dF (c blk<|h.vg blk o q)) (z i x A)
def bF.LH(h:bF B γ mem w){b e tid aP}(c:∀f,mem b=aa f->f.aP<aP)(i:0<e.size) :
  let g:Box:={ val:=.data (.slice e) ([]),tid,buf:=true,ro:=false,lk:=false,aP }
  bF B (bP γ b af) (dn mem b g) w/\Ext B γ mem w (bP γ b af) (dn mem b g) w:=by
 intro g;refine⟨h.add c (we.refl B w) (λ_ _=>rfl) (λj k e=>by cases e) ?_,(wg h c (we.refl B w) λ_ _=>rfl)⟩;exact⟨e,[],rfl,i,.inl ⟨by simp[bP],rfl⟩⟩
def FT{c off}(h:W6 c off)(b:c.ro=false):False:=by rw[W6,b] at h;exact absurd h.1 aT
def bF.write(h:bF B γ mem w){b bx}(m:mem b=aa bx)(q:bx.ro=false){blk k}(r:γ.loc b=aa (blk,k)){cur cur' t y}
  (C:w.heap[blk]?=aa (.cells cur t y)) (J:cur'.size=cur.size) {v} (s:({ bx with val:=v }:Box).row=bx.row)
  (z:∀w' mem',Ext B γ mem w γ mem' w'->w'.heap[blk]?=aa (.cells cur' t y)->eB γ mem' w' b { bx with val:=v }) :
  bF B γ (dn mem b { bx with val:=v }) (w.setRow blk cur')/\Ext B γ mem w γ (dn mem b { bx with val:=v }) (w.setRow blk cur'):=by
 have g:=λi n=>setRow_other w blk i cur' (n);have hx:Ext B γ mem w γ (dn mem b { bx with val:=v }) (w.setRow blk cur') :=
  { below:=⟨rfl,rfl,rfl,aT,λi n=>g i λe=>n (by rw[e];exact(h.fresh b blk k (by rw[m];simp) r).1)⟩
    I:=λ_ _ x=>x
    r4:=λ_ _ x=>.inl x
    cells:=λc o x=>by
     by_cases e:c=blk
     .subst e;exact(FT (h.sep b bx c k o m r x) q).elim
     .exact dF (g c e)
    boxes:=λc cx j=>by
     by_cases e:c=b
     .subst e;obtain rfl:cx=bx:=aI (j.symm.trans m);exact⟨_,bD _ _,bV _,λ_=>⟨rfl,rfl,s⟩⟩
     .exact⟨cx,by rw[aZ _ e];exact j,bV _,λ_=>⟨rfl,rfl,rfl⟩⟩ }
 refine⟨?_,hx⟩;exact
  { vh:=h.FP hx
    base:=by have:=h.base;simpa using this
    boxes:=λc cx j=>by
     by_cases e:c=b
     .subst e;rw[bD] at j;obtain rfl:=aI j;exact z _ _ hx (setRow_heap w blk cur cur' t y C)
     .rw[aZ _ e] at j;refine(h.boxes c cx j).keep hx rfl λf u A=>g f λD=>e ?_;subst D;exact h.inj c b f u k (by rw[j];simp) (by rw[m];simp) A r
    inj:=λc d f E F j G p H=>h.inj c d f E F (by
     by_cases e:c=b
     .subst e;rw[m];simp
     .rwa [aZ _ e] at j) (by
     by_cases e:d=b
     .subst e;rw[m];simp
     .rwa [aZ _ e] at G) p H
    fresh:=λc f u j p=>by
     have:=h.fresh c f u (by
      by_cases e:c=b
      .subst e;rw[m];simp
      .rwa [aZ _ e] at j) p
     exact⟨this.1,by simpa using this.2⟩
    vg:=λf l n=>by have:=h.vg f l n;simpa using this
    sep:=λc cx f u l j p n=>by
     by_cases e:c=b
     .subst e;rw[r] at p;obtain⟨rfl,rfl⟩:=eN (aI p);exact(FT (h.sep c bx blk k l m r n) q).elim
     .rw[aZ _ e] at j;exact h.sep c cx f u l j p n }
def LI(f:Gh)(b:Nat)(n:Nat):Gh:={ f with I:=λc e=>f.I c e\/((∃k,f.loc b=aa (c,k))/\e<n) }
def bF.freeze(h:bF B γ mem w){b j}(l:mem b=aa j){e n}(r:j.row=aa (e,n)) :
  bF B (LI γ b<|n*e.size) (dn mem b { j with ro:=true }) w/\Ext B γ mem w (LI γ b<|n*e.size) (dn mem b { j with ro:=true }) w:=by
 have hx:Ext B γ mem w (LI γ b<|n*e.size) (dn mem b { j with ro:=true }) w :=
  { below:=we.refl _ _
    I:=λ_ _ x=>.inl x
    r4:=λy o x=>by
     rcases x with x|⟨⟨k,x⟩,_⟩
     .exact .inl x
     .exact .inr (h.fresh b y k (by rw[l];simp) x).1
    cells:=λ_ _ _=>rfl
    boxes:=λc cx g=>by
     by_cases e:c=b
     .subst e;obtain rfl:cx=j:=aI (g.symm.trans l);exact⟨_,bD _ _,bV _,λ_=>⟨rfl,rfl,rfl⟩⟩
     .exact⟨cx,by rw[aZ _ e];exact g,bV _,λ_=>⟨rfl,rfl,rfl⟩⟩ }
 refine⟨?_,hx⟩;exact
  { vh:=h.FP hx
    base:=h.base
    boxes:=λc cx g=>by
     by_cases e:c=b
     .subst e;rw[bD] at g;obtain rfl:=aI g;have:=(h.boxes c j l).keep hx rfl (λ_ _ _=>rfl);exact this
     .rw[aZ _ e] at g;exact(h.boxes c cx g).keep hx rfl (λ_ _ _=>rfl)
    inj:=λc d f C D g E q F=>h.inj c d f C D (by
     by_cases e:c=b
     .subst e;rw[l];simp
     .rwa [aZ _ e] at g) (by
     by_cases e:d=b
     .subst e;rw[l];simp
     .rwa [aZ _ e] at E) q F
    fresh:=λc f s g q=>h.fresh c f s (by
     by_cases e:c=b
     .subst e;rw[l];simp
     .rwa [aZ _ e] at g) q
    vg:=λf p i=>by
     rcases i with i|⟨⟨k,v⟩,_⟩
     .exact h.vg f p i
     .exact(h.fresh b f k (by rw[l];simp) v).2
    sep:=λc cx f s p g q i=>by
     by_cases z:c=b
     .subst z;rw[bD] at g;obtain rfl:=aI g;rcases i with i|⟨⟨k,v⟩,A⟩
      .obtain⟨J,G⟩:=h.sep c j f s p l q i;exact⟨rfl,G⟩
      .refine⟨rfl,λ_ u m H=>?_⟩;have t:j.row=aa (u,m):=H;rw[r] at t;obtain⟨rfl,rfl⟩:=eN (aI t);exact A
     .rw[aZ _ z] at g;rcases i with i|⟨⟨k,v⟩,A⟩
      .exact h.sep c cx f s p g q i
      .exact absurd (h.inj c b f s k (by rw[g];simp) (by rw[l];simp) q v) z }
end
end Go.Ge
namespace Go.Ge
open RowKit
def oT(P:Program)(B:B5)(N:Nat)(γ:Gh)(c:St)(a:Act)(w:World)(d:Option Nat)(s:Sem Value)(b:St):Prop :=
 ∃v w' bE,s.run P w=.ok v w'/\dy B N bE b (a.put d v) w'/\Ext B γ c.mem w bE b.mem w'
section
variable {P:Program} {B:B5} {N:Nat} {γ:Gh} {σ aV:St} {a:Act} {w:World} {d:Option Nat}
def bK(h:dy B N γ σ a w)(b:∀k,d=aa k->k<N){s v x}(c:s.run P w=.ok x w)(e:cI γ σ.mem w v .val [x]) :
  oT P B N γ σ a w d s (σ.bu d v) :=
 ⟨x,w,γ,c,h.xv b e,by cases d<;>exact Ext.refl _ _ _ _⟩
def dV{β b val tid buf}{k:Nat->St->Tree β}{y}(h:(σ.bA b val tid buf k).run=aa y) :
  ∃aP,(∀c,σ.mem b=aa c->c.aP<aP)/\(k aP<|σ.cw b { val,tid,buf,ro:=false,lk:=false,aP }).run=aa y:=by
 unfold St.bA at h;split at h
 .rename_i bx f;cases e:bx.lk with
  | true=>rw[e] at h;cases h
  | false =>
    grind
 .grind
def xy(c:St) b e:(c.cw b e).mem=dn c.mem b e:=rfl
def gE{mem b aP bx}(h:mem b=aa bx)(e:bx.aP=aP){K}(c:K bx):n9 mem b aP K :=
 ⟨bx,h,ah,λ_=>c⟩
def zI{cx}(m:fN P cx){nb bf ty x}(h:dy B N γ σ a w)(c:∀k,d=aa k->k<N)
  (b:(kj cx nb bf d ty (cW σ x) σ).run=aa aV):oT P B N γ σ a w d (pure<|a.eval x) aV:=by
 have hv:=h.cW x;unfold kj at b;split at b
 .rename_i g;rw[g] at hv;obtain⟨_,b⟩:=ay b;obtain rfl:=aI b;exact bK h c rfl hv
 .rename_i g;rw[g] at hv;have hx:a.eval x=.slice af 0 0:=by simpa [cI] using hv
  split at b
  .rename_i k e n;cases j:dc bf k with
   | true =>
     rw[j] at b;simp at b;obtain⟨o,f,i⟩:=dV b;obtain rfl:=aI i;obtain⟨p,r,s,t,q⟩:=(m.T _ _ n).slice;obtain⟨m1,l⟩:=h.ok.LH f q;refine⟨_,w,_,rfl,h.step l m1 (c k rfl) ?_,l⟩;rw[hx];exact⟨⟨_,rfl,rfl⟩,gE (bD _ _) rfl ⟨e,0,rfl,rfl,.inl ⟨by simp[bP],rfl⟩⟩⟩
   | false =>
     rw[j] at b;obtain rfl:=aI b;exact bK h c rfl (by rw[hx];exact⟨_,.inl ⟨⟨af,rfl⟩,rfl⟩,rfl⟩)
  .obtain rfl:=aI b;exact bK h c rfl (by rw[hx];rfl)
 .obtain rfl:=aI b;exact bK h c rfl hv
def AA{b:Bool}{v}(h:cI γ σ.mem w (.data .bool b) .val [v]):v=.bool b:=by
 obtain⟨c,e,f⟩:=eg.1 h;rw[f,show c=_ from e];rfl
def vI{k}{n:Int}{v}(h:cI γ σ.mem w (.data (.int k) n) .val [v]):v=.int k n/\k.min<=n/\n<=k.max:=by
 obtain⟨e,b,c⟩:=eg.1 h;rw[c,b.1];exact⟨rfl,b.2⟩
def y9{s:bb}{v}(h:cI γ σ.mem w (.data .str s) .val [v]):v=.string ⟨s.toArray⟩/\s.length<=maxLen:=by
 obtain⟨cs,b,c⟩:=eg.1 h;rw[c,b.1];exact⟨rfl,b.2⟩
def gN(b:Bool):cI γ σ.mem w (.data .bool b) .val [.bool b]:=⟨_,rfl,rfl⟩
def mkInt{k:IntKind}{n}(h:k.min<=n/\n<=k.max):cI γ σ.mem w (.data (.int k) n) .val [.int k n]:=⟨_,⟨rfl,h.1,h.2⟩,rfl⟩
def mkStr{s:bb}(h:s.length<=maxLen):cI γ σ.mem w (.data .str s) .val [.string ⟨s.toArray⟩]:=⟨_,⟨rfl,h⟩,rfl⟩
def LJ{c x y}(h:dy B N γ σ a w)(j:∀k,d=aa k->k<N)(f:(p8 d (cW σ c) (cW σ x) (cW σ y) σ).run=aa aV) :
  oT P B N γ σ a w d (do pure (if <-asBool (a.eval c) then a.eval x else a.eval y)) aV:=by
 have p:=h.cW c;have hx:=h.cW x;have hy:=h.cW y;unfold p8 at f;split at f
 .rename_i i l;rw[l] at p;have b:(do pure (if <-asBool (a.eval c) then a.eval x else a.eval y):Sem Value).run P w=.ok (if(show Bool from i)=true then a.eval x else a.eval y) w:=by
   rw[(AA p)];cases i<;>rfl
  split at f
  .rename_i t r u s m n;rw[m] at hx;rw[n] at hy;split at f
   .rename_i v o;obtain rfl:=aI f;obtain⟨e,q⟩:=Ty.lQ o;subst e;subst q;refine bK h j b ?_;cases i
    .exact hy
    .exact hx
   .cases f
  .have g:=gD f;cases i
   .obtain rfl:=aI g;exact bK h j b hy
   .obtain rfl:=aI g;exact bK h j b hx
 .cases f
def fI(k:IntKind) n:k.min<=k.wrap n/\k.wrap n<=k.max:=wrap_within k n
def agt{k:IntKind}{x y:Int}(h:k.min<=x/\x<=k.max):k.min<=x.tmod y/\x.tmod y<=k.max:=by
 have b:k.min<=0:=by cases k<;>decide
 have c:0<=k.max:=by cases k<;>decide
 have f:(x.tmod y).natAbs<=x.natAbs:=by
  rw[Int.natAbs_tmod];apply Nat.mod_le
 rcases Int.le_total 0 x with e|e
 .have:=Int.tmod_nonneg y e;omega
 .have:x.tmod y<=0:=by
   have:=Int.tmod_nonneg y (show 0<=-x by omega);simp_all
  omega
def agu{k:IntKind}{x} n (h:k.min<=x/\x<=k.max):k.min<=x.fdiv (2 ^ n)/\x.fdiv (2 ^ n)<=k.max:=by
 have f:k.min<=0:=by cases k<;>decide
 have g:0<=k.max:=by cases k<;>decide
 have b:(0:Int)<2 ^ n:=Int.pow_pos aD;have e:x.fdiv _=x / 2 ^ n:=ahR _ ah;rcases Int.le_total 0 x with c|c
 .have j:=Int.ediv_nonneg c (Int.le_of_lt b);have i:=Int.ediv_le_self (2 ^ n) c;omega
 .have i:x / 2 ^ n<1:=Int.ediv_lt_of_lt_mul b ah;have l:x<=x / 2 ^ n:=by
   rw[Int.le_ediv_iff_mul_le b];have:=Int.mul_le_mul_of_nonpos_left c b
   grind
  omega
def RF{op l}(h:FE op=aa l):(op=.shl/\l=true)\/(op=.shr/\l=false):=by
 cases op<;>simp[FE] at h<;>simp[h]
def tO{op l}(h:isEq op=aa l):(op=.eql/\l=true)\/(op=.neq/\l=false):=by
 cases op<;>simp[isEq] at h<;>simp[h]
def hL(b:BinOp)(c:TypeId)(x y:Operand)(u v:Value):Sem Value:=do eqGuard b c x y u v;binOp b c u v
def RG{op k n m v g x y}(h:k.min<=n/\n<=k.max)(f:FE op=af)(c:(WY op k n m).run=aa v) :
  ∃r,(hL op g x y (.int k n)<|.int k m).run P w=.ok r w/\cI γ σ.mem w v .val [r]:=by
 unfold hL;cases op<;>simp only[eqGuard_at_int]<;>simp only[WY] at c
 case add=>obtain rfl:=aI c;exact⟨.int k _,by simp only[binOp_add];rfl,mkInt (fI _ _)⟩
 case sub=>obtain rfl:=aI c;exact⟨.int k _,by simp only[binOp_sub];rfl,mkInt (fI _ _)⟩
 case mul=>obtain rfl:=aI c;exact⟨.int k _,by simp only[binOp_mul];rfl,mkInt (fI _ _)⟩
 case quo =>
  have b:=gD c;cases e:aG m 0
  .rw[e] at b;obtain rfl:=aI b;exact⟨.int k _,by simp only[binOp_quo,Op.intDiv,aK (by simpa [aG] using e)];rfl,mkInt (fI _ _)⟩
  .rw[e] at b;cases b
 case rem =>
  have b:=gD c;cases e:aG m 0
  .rw[e] at b;obtain rfl:=aI b;exact⟨.int k _,by simp only[binOp_rem,Op.intDiv,aK (by simpa [aG] using e)];rfl,mkInt (agt h)⟩
  .rw[e] at b;cases b
 case and=>obtain rfl:=aI c;exact⟨.int k _,by simp only[binOp_and];rfl,mkInt (fI _ _)⟩
 case or=>obtain rfl:=aI c;exact⟨.int k _,by simp only[binOp_or];rfl,mkInt (fI _ _)⟩
 case xor=>obtain rfl:=aI c;exact⟨.int k _,by simp only[binOp_xor];rfl,mkInt (fI _ _)⟩
 case andNot=>obtain rfl:=aI c;exact⟨.int k _,by simp only[binOp_andNot];rfl,mkInt (fI _ _)⟩
 case shl=>cases f
 case shr=>cases f
 case eql=>obtain rfl:=aI c;exact⟨.bool _,by simp[binOp];rfl,gN _⟩
 case neq=>obtain rfl:=aI c;exact⟨.bool _,by simp[binOp,nt];rfl,gN _⟩
 case lss=>obtain rfl:=aI c;exact⟨.bool _,by simp[binOp,Op.intCmp,aL],gN _⟩
 case leq=>obtain rfl:=aI c;exact⟨.bool _,by simp[binOp,Op.intCmp,ch],gN _⟩
 case gtr=>obtain rfl:=aI c;exact⟨.bool _,by simp[binOp,Op.intCmp,aL],gN _⟩
 case geq=>obtain rfl:=aI c;exact⟨.bool _,by simp[binOp,Op.intCmp,ch],gN _⟩
def jP s:(⟨s.toArray⟩:ByteArray).toList=s:=by rw[ByteArray.toList_eq]
def aaJ s t:(s==t)=bt s t:=by rw[Rs];simp[bt]
def RH{op s t v f x y}(b:(WZ op s t).run=aa v) :
  ∃r,(hL op f x y (.string ⟨s.toArray⟩)<|.string ⟨t.toArray⟩).run P w=.ok r w/\cI γ σ.mem w v .val [r]:=by
 unfold hL;cases op<;>simp only[eqGuard_at_string,Sem.run_bind,Sem.run_pure,Result.andThen_ok]<;>simp only[WZ] at b<;>try (cases b;done)
 case add =>
  obtain⟨g,c⟩:=cP b;obtain rfl:=aI c;have i:s.length+t.length<=4294967296:=by have h:=fb g;simp only[plus,len] at h;omega
  refine⟨.string ⟨(s++t).toArray⟩,?_,mkStr (by simp only[app,iC,maxLen];omega)⟩;have e:∀l:bb,(⟨l.toArray⟩:ByteArray).size=l.length:=λl=>rfl;have:¬(((s.length+t.length:Nat):Int) > IntKind.i64.max):=by rw[IntKind.max_i64];omega
  simp only[binOp,Op.stringOp,e,this]
  congr 2
 case eql=>obtain rfl:=aI b;exact⟨.bool _,by simp only[binOp,Op.stringOp,jP,aaJ,Sem.run_pure],gN _⟩
 case neq=>obtain rfl:=aI b;exact⟨.bool<|nt _,by simp only[binOp,Op.stringOp,jP,aaJ,Sem.run_pure];rfl,gN _⟩
 case lss=>obtain rfl:=aI b;exact⟨.bool _,by simp only[binOp,Op.stringOp,jP,aaJ,Sem.run_pure];rfl,gN _⟩
 case leq=>obtain rfl:=aI b;exact⟨.bool _,by simp only[binOp,Op.stringOp,jP,aaJ,Sem.run_pure];rfl,gN _⟩
 case gtr=>obtain rfl:=aI b;exact⟨.bool<|nt _,by simp only[binOp,Op.stringOp,jP,aaJ,Sem.run_pure];rfl,gN _⟩
 case geq=>obtain rfl:=aI b;exact⟨.bool _,by simp only[binOp,Op.stringOp,jP];rfl,gN _⟩
def Ul{op left k c n m e x y}(f:k.min<=n/\n<=k.max)(g:FE op=aa left)(h:aL m 0=false) :
  ∃r,(hL op e x y (.int k n)<|.int c m).run P w=.ok r w/\cI γ σ.mem w (.data (.int k)<|bif left then nY k n m else jt k n m) .val [r]:=by
 have b:¬m<0:=by simpa [aL] using h
 unfold hL;rcases RF g with ⟨rfl,rfl⟩|⟨rfl,rfl⟩
 .exact⟨.int k _,by simp only[ binOp_shl,Op.shift,aK b];rfl,mkInt (fI _ _)⟩
 .exact⟨.int k _,by simp only[ binOp_shr,Op.shift,aK b];rfl,mkInt (agu _ f)⟩
def C8{t tid}(c:Den P t tid){cs off}(h:off+t.size<=cs.size)(f:t.isAgg=false->t.size=1) :
  (part tid cs off).run P w=.ok (cY t<|(cs.toList.drop off).take t.size) w:=by
 unfold part;rw[Sem.run_bind,c.agg w];cases b:t.isAgg with
 | true =>
   simp only[yq,Sem.run_bind,c.sizeOf w,Result.andThen_ok,Sem.run_pure,cY,b]
   congr 2
   grind
 | false =>
   have i:=f b;simp only[ cY];have g:off<cs.size:=ah;have e:(cs.toList.drop off).take 1=[cs[off]]:=by
    apply Lg
    grind
   simp_all
def vl:∀{t:Ty},t.isAgg=false->t.size=1:=by
 intro t h;induction t with
 | alt u a r c b=>exact b h
 | arr|pair|unit=>cases h
 | _=>rfl
def D9{γ:Gh}{w:World}:∀(t:Ty),(∀(d:Nat) (tid:TypeId) (x y:t.den) (cx cy:List Value) (c:Bool),Den P t tid->bJ w γ.I t x cx->bJ w γ.I t y cy->Ty.eqv t x y=aa c->t.JP<d ->
   (Op.equalIn d tid (cY t cx)<|cY t cy).run P w=.ok c w) /\
  (∀(d off:Nat) (o:List Field) (x y:t.den) (cx cy:List Value) (l m:Array Value) (c:Bool),r5 P t off o->bJ w γ.I t x cx->bJ w γ.I t y cy->Ty.eqv t x y=aa c->t.JP<d ->
   l.toList.drop off=cx->m.toList.drop off=cy->off<=l.size->off<=m.size->(Op.eqFields d l m o).run P w=.ok c w):=by
 intro t;induction t with
 | int k =>
   refine⟨λd tid x y cx cy c g s v j F=>?_,λd off o x y cx cy l m c g=>by simp[r5,gf] at g⟩;obtain⟨d,rfl⟩:∃e,d=e+1:=⟨d-1,ah⟩;rw[s.1,v.1];obtain rfl:=aI j;show(Op.equalIn (d+1) tid (.int k x)<|.int k y).run P w=_
   rw[run_equalIn_int w d tid k k x y g.int]
   congr 1
 | bool =>
   refine⟨λd tid x y cx cy c g s v j F=>?_,λd off o x y cx cy l m c g=>by simp[r5,gf] at g⟩;obtain⟨d,rfl⟩:∃e,d=e+1:=⟨d-1,ah⟩;rw[show cx=_ from s,show cy=_ from v];obtain rfl:=aI j;exact run_equalIn_bool' w d tid x y g.bool
 | str =>
   refine⟨λd tid x y cx cy c g s v j F=>?_,λd off o x y cx cy l m c g=>by simp[r5,gf] at g⟩;obtain⟨d,rfl⟩:∃e,d=e+1:=⟨d-1,ah⟩;rw[s.1,v.1];obtain rfl:=aI j;have G:=run_equalIn_string w d tid ⟨List.toArray x⟩ ⟨List.toArray y⟩ g.str;rw[jP<|show bb from x,jP (show bb from y),aaJ] at G;exact G
 | slice e ih=>exact⟨(λd tid x y cx cy c g s v j=>by cases j),(λd off o x y cx cy l m c g=>by simp[r5,gf] at g)⟩
 | alt u a r S ihr=>exact⟨(λd tid x y cx cy c g s v j=>by cases j),(λd off o x y cx cy l m c g=>by simp[r5,gf] at g)⟩
 | BX=>exact⟨(λd tid x y cx cy c g s v j=>by cases j),(λd off o x y cx cy l m c g=>by simp[r5,gf] at g)⟩
 | arr n e ih =>
   refine⟨λd tid x y cx cy c g s v j F=>?_,(λd off o x y cx cy l m c g=>by simp[r5,gf] at g)⟩;cases e with
   | int k =>
     obtain⟨d,rfl⟩:∃e,d=e+1:=⟨d-1,ah⟩;obtain⟨d,rfl⟩:∃e,d=e+1:=⟨d-1,by have:(Ty.arr n<|.int k).JP=1+1:=rfl;omega⟩;obtain rfl:=aI j;obtain⟨T,H,D,U⟩:=g.arr;obtain⟨i,z,i1,i2,_,_⟩:=D.info;have J:=D.cells;show(Op.equalIn _ tid (.agg cx.toArray)<|.agg cy.toArray).run P w=_
     rw[run_equalIn_array w _ cx.toArray cy.toArray H i1,J];obtain⟨V,bB,A⟩:=s;obtain⟨W,hyc,C⟩:=v;have hz:(Ty.int k).size=1:=rfl;rw[hz] at bB A hyc C⊢;change List Int at x y;have item:∀O,(∀i∈O,i<n)->(Op.eqItems (d+1) T 1 cx.toArray cy.toArray O).run P w=.ok (O.all λi=>decide (x[i]?=y[i]?)) w:=by
      intro O;induction O with
      | nil=>intro _;rfl
      | cons i O ihs =>
        intro hi;have K:=hi i (ri ..);obtain⟨a,hxi⟩:∃a,x[i]?=aa a:=⟨_,fH (by rw[show x.length=n from V];exact K)⟩;obtain⟨b,hyi⟩:∃a,y[i]?=aa a:=⟨_,fH (by rw[show y.length=n from W];exact K)⟩;have Q:=C8 (w:=w) D (cs:=cx.toArray) (off:=i*1) cT (λ_=>hz);have R:=C8 (w:=w) D (cs:=cy.toArray) (off:=i*1) cT (λ_=>hz);have ex:=(A i _ hxi).1;have ey:=(C i _ hyi).1;rw[hz] at Q R;rw[ ex] at Q;rw[ ey] at R;simp only[Op.eqItems,Sem.run_bind,Q,R,Result.andThen_ok];have L:=run_equalIn_int w d T k k a b D.int;simp only[cY,Ty.isAgg,BM,List.headD_cons,L,Result.andThen_ok];cases hb:(a==b) with
        | true =>
          grind
        | false =>
          simp_all
     rw[item _ λi hi=>Ln.1 hi]
     congr 1
     unfold eqL;rw[Rs];simp only[ Ap];constructor
     .intro h;apply Lg;intro i;by_cases K:i<n
      .grind
      .rw[FA<|by rw[show x.length=n from V];omega,FA (by rw[show y.length=n from W];omega)]
     .grind
   | _=>cases j
 | unit =>
   refine⟨(λd tid x y cx cy c g=>by simp[Den,gf] at g),λd off o x y cx cy l m c g s v j F G h2 h3 h4=>?_⟩;cases o with
   | nil=>obtain rfl:=aI j;rfl
   | cons f r=>simp[r5,gf] at g
 | pair a b S ihb =>
   have key:(∀d off o (x y:(Ty.pair a b).den) cx cy l m c,r5 P (.pair a b) off o->bJ w γ.I _ x cx->bJ w γ.I _ y cy->Ty.eqv _ x y=aa c->(Ty.pair a b).JP<d+1 ->
    l.toList.drop off=cx->m.toList.drop off=cy->off<=l.size->off<=m.size->(Op.eqFields d l m o).run P w=.ok c w):=by
    intro d off o x y cx cy l m c g s v j F G h2 h3 h4;obtain⟨f,r,rfl,H,D,U,k4,k5⟩:=g.cons;obtain⟨x1,x2,A,X,xz⟩:=s;obtain⟨y1,y2,C,Y,hy2⟩:=v;simp only[Ty.eqv] at j;cases E:Ty.eqv a x.1 y.1 with
    | none=>rw[E] at j;cases j
    | some p =>
      cases M:Ty.eqv b x.2 y.2 with
      | none=>rw[E,M] at j;cases j
      | some q =>
        rw[E,M] at j;obtain rfl:=aI j;have Z:=X.length;have hly:=Y.length;have lx:l.size-off=x1.length+x2.length:=by
         have:=congrArg List.length (G.trans A);simpa using this
        have ly:m.size-off=y1.length+y2.length:=by
         have:=congrArg List.length (h2.trans C);simpa using this
        have Q:=C8 (w:=w) U (cs:=l) (off:=f.offset) ah vl;have R:=C8 (w:=w) U (cs:=m) (off:=f.offset) ah vl;have ex:(l.toList.drop f.offset).take a.size=x1:=by rw[H,G,A,<-Z,TZ]
        have ey:(m.toList.drop f.offset).take a.size=y1:=by rw[H,h2,C,<-hly,TZ]
        rw[ex] at Q;rw[ey] at R;have WS:(Ty.pair a b).JP=a.JP+b.JP+1:=rfl;have L:=S.1 d f.type x.1 y.1 x1 y1 p U X Y E ah;simp only[Op.eqFields,aQ D,Sem.run_bind,Q,R,L,Result.andThen_ok];cases p with
        | false=>simp[an]
        | true =>
          simp;rw[ihb.2 d _ r x.2 y.2 x2 y2 l m q k5 xz hy2 M ah (by rw[<-Aq,G,A,<-Z,Lm]) (by rw[<-Aq,h2,C,<-hly,Lm]) ah ah];simp[an]
   refine⟨λd tid x y cx cy c g s v j F=>?_,λd off o x y cx cy l m c g s v j F=>key d off o x y cx cy l m c g s v j ah⟩;obtain⟨d,rfl⟩:∃e,d=e+1:=⟨d-1,ah⟩;obtain⟨o,H,D,U,k4⟩:=g.pair;have hf:P.fieldsOf tid=o:=by simp[Program.fieldsOf,H]
   show(Op.equalIn _ tid (.agg _)<|.agg _).run P w=_
   rw[run_equalIn_struct w d tid _ _ (by rw[hf];exact H) k4,hf];exact key d 0 o.toList x y cx cy _ _ c D s v j ah aT aT aT aT
end
end Go.Ge
namespace Go.Ge
open RowKit
section
variable {P:Program} {B:B5} {N:Nat} {γ:Gh} {σ aV:St} {a:Act} {w:World} {d:Option Nat} {cx:Ctx}
def LK b c {e x y} (f:P.underlying e=aa .bool) :
  (hL .eql e x y (.bool b)<|.bool c).run P w=.ok (.bool<|eqB b c) w/\(hL .neq e x y (.bool b)<|.bool c).run P w=.ok (.bool<|nt<|eqB b c) w:=by
 constructor<;>simp only[hL,eqGuard_at_bool,binOp,Op.equal,Op.maxDepth,Sem.run_bind,Sem.run_pure,Result.andThen_ok,(run_equalIn_bool' w 9999 e b c f)]<;>rfl
def Um{c e}(f:P.underlying c=aa (.pointer e)) a b (h:a=af\/b=af) n :
  (Op.equalIn (n+1) c (.pointer a)<|.pointer b).run P w=.ok (a.isNone&&b.isNone) w:=by
 cases a with
 | none=>cases b<;>simp only[Op.equalIn,Sem.run_bind,run_underlying f,Result.andThen_ok]<;>rfl
 | some a=>cases b with
   | none=>simp only[Op.equalIn,Sem.run_bind,run_underlying f];rfl
   | some b=>simp at h
def za{c e x y}(f:P.underlying c=aa (.pointer e)) a b (h:a=af\/b=af) :
  (hL .eql c x y (.pointer a)<|.pointer b).run P w=.ok (.bool<|a.isNone&&b.isNone) w/\(hL .neq c x y (.pointer a)<|.pointer b).run P w=.ok (.bool<|!(a.isNone&&b.isNone)) w:=by
 constructor<;>simp only[hL,eqGuard_at_pointer,binOp,Op.equal,Op.maxDepth,Sem.run_bind,Sem.run_pure,Result.andThen_ok,(Um f a b h 9999)]
def aaK(I:fN P cx){op}{j:TypeId}{x y u v p q r}(E:cI γ σ.mem w p .val [u])(F:cI γ σ.mem w q .val [v])
  (o:(bin (find cx.T j) (dc cx.DW j) op p q).run=aa r):∃z,(hL op j x y u v).run P w=.ok z w/\cI γ σ.mem w r .val [z]:=by
 unfold bin at o;split at o
 ·
  obtain⟨rfl,J⟩:=vI E;obtain⟨rfl,V⟩:=vI F;split at o
  .rename_i left K;have f:=gD o;rename_i k n k' m _;cases L:aL m 0
   .rw[L] at f;obtain rfl:=aI f;exact Ul J K L
   .rw[L] at f;cases f
  .rename_i K;obtain⟨s,f⟩:=ay o;have W:=zy s;subst W;exact RG J K f
 ·
  obtain⟨rfl,J⟩:=y9 E;obtain⟨rfl,V⟩:=y9 F;exact RH o
 ·
  rename_i b c;obtain rfl:=AA E;obtain rfl:=AA F;obtain⟨s,f⟩:=ay o;have A:=I.T _ _ (jz s);have e:=LK (w:=w) b c (x:=x) (y:=y) A.bool;split at f
  .rename_i t;obtain rfl:=aI f;rcases tO t with ⟨rfl,_⟩|⟨_,h⟩
   .exact⟨.bool _,e.1,gN _⟩
   .cases h
  .rename_i t;obtain rfl:=aI f;rcases tO t with ⟨_,h⟩|⟨rfl,_⟩
   .cases h
   .exact⟨.bool _,e.2,gN _⟩
  .cases f
 ·
  rename_i ta tb M X Y;obtain⟨s,f⟩:=ay o;simp only[gw] at s;have A:=I.T _ _ (jz s.1);split at f
  .rename_i Z e C t;obtain⟨O,Q⟩:=Ty.lQ C;subst O;subst Q;split at f
   .rename_i c D;obtain rfl:=aI f;obtain⟨g,R,rfl⟩:=eg.1 E;obtain⟨i,S,rfl⟩:=eg.1 F;have G:=(D9 (P:=P) (γ:=γ) (w:=w) _).1 10000 j M _ g i c A R S D (by have:=JL s.2;omega);obtain⟨fs,j1,j2,j3,j4⟩:=A.pair;have H:∀op,(eqGuard op j x y (.agg g.toArray)<|.agg i.toArray).run P w=.ok () w:=λop=>run_eqGuard_agg w op j x y _ _ j3;rcases tO t with ⟨rfl,rfl⟩|⟨rfl,rfl⟩
    .refine⟨.bool c,?_,gN _⟩;show(hL .eql j x y (.agg _)<|.agg _).run P w=_
     simp only[hL,Sem.run_bind,H,Result.andThen_ok];have l:(Op.equalIn 10000 j (.agg g.toArray)<|.agg i.toArray).run P w=.ok c w:=G;rw[run_eql_struct,l];rfl
    .refine⟨.bool<|nt c,?_,gN _⟩;show(hL .neq j x y (.agg _)<|.agg _).run P w=_
     simp only[hL,Sem.run_bind,H,Result.andThen_ok];have l:(Op.equalIn 10000 j (.agg g.toArray)<|.agg i.toArray).run P w=.ok c w:=G;rw[run_neq_struct,l];rfl
   .cases f
  .cases f
 ·
  rename_i nn ee M X Y;obtain⟨s,f⟩:=ay o;simp only[gw] at s;have A:=I.T _ _ (jz s.1);split at f
  .rename_i Z e C t;obtain⟨O,Q⟩:=Ty.lQ C;subst O;subst Q;split at f
   .rename_i c D;obtain rfl:=aI f;obtain⟨g,R,rfl⟩:=eg.1 E;obtain⟨i,S,rfl⟩:=eg.1 F;have G:=(D9 _).1 10000 j M _ g i c A R S D (by have:=JL s.2;omega);have H:∀op,(eqGuard op j x y (.agg g.toArray)<|.agg i.toArray).run P w=.ok () w:=λop=>run_eqGuard_agg w op j x y _ _ A.aka;rcases tO t with ⟨rfl,rfl⟩|⟨rfl,rfl⟩
    .refine⟨.bool c,?_,gN _⟩;show(hL .eql j x y (.agg _)<|.agg _).run P w=_
     simp only[hL,Sem.run_bind,H,Result.andThen_ok];have l:(Op.equalIn 10000 j (.agg g.toArray)<|.agg i.toArray).run P w=.ok c w:=G;rw[run_eql_struct,l];rfl
    .refine⟨.bool _,?_,gN _⟩;show(hL .neq j x y (.agg _)<|.agg _).run P w=_
     simp only[hL,Sem.run_bind,H,Result.andThen_ok];have l:(Op.equalIn 10000 j (.agg g.toArray)<|.agg i.toArray).run P w=.ok c w:=G;rw[run_neq_struct,l];rfl
   .cases f
  .cases f
 ·
  obtain rfl:u=_:=by simpa [cI] using E
  obtain rfl:v=_:=by simpa [cI] using F
  split at o
  .rename_i e hp t;obtain rfl:=aI o;obtain⟨el,U⟩:=I.DW _ hp;have q:=za (w:=w) (x:=x) (y:=y) U af af (.inl rfl);rcases tO t with ⟨rfl,rfl⟩|⟨rfl,rfl⟩
   .exact⟨_,q.1,gN _⟩
   .exact⟨_,q.2,gN _⟩
  .cases o
 .cases o
def kR{b aP}(h:live σ b aP=true):∃c,σ.mem b=aa c/\c.aP=aP:=by
 unfold live at h;split at h
 .rename_i c e;exact⟨c,e,gx h⟩
 .cases h
def bk{mem b aP bx}(e:mem b=aa bx)(f:bx.aP=aP){K}(h:n9 mem b aP K):K bx:=by
 obtain⟨g,c,j,i⟩:=h;rw[e] at c;obtain rfl:=aI c;exact i f
def W9(m:fN P cx){op}{n:TypeId}{x y u v p q r}(o:cI γ σ.mem w p .val [u])(s:cI γ σ.mem w q .val [v])
  (l:(adv σ (find cx.T n) (dc cx.DW n) op p q).run=aa r):∃z,(hL op n x y u v).run P w=.ok z w/\cI γ σ.mem w r .val [z]:=by
 unfold adv at l;split at l
 .rename_i b t p;obtain⟨h,c⟩:=ay l;simp only[gw] at h;obtain⟨D,i,f⟩:=kR h.1;obtain⟨j,A,_,g⟩:=bk i f o.2;obtain rfl:u=_:=by simpa using g
  obtain rfl:v=_:=by simpa [cI] using s
  obtain⟨E,k⟩:=m.DW _ h.2;have q:=za (P:=P) (w:=w) (x:=x) (y:=y) k (aa ⟨j,ef p,af⟩) af (.inr rfl);split at c
  .rename_i e C;obtain rfl:=aI c;rcases tO C with ⟨rfl,rfl⟩|⟨rfl,rfl⟩
   .exact⟨_,q.1,gN _⟩
   .exact⟨_,q.2,gN _⟩
  .cases c
 .rename_i b t p;obtain⟨h,c⟩:=ay l;simp at h;obtain⟨D,i,f⟩:=kR h.1;obtain⟨j,A,_,g⟩:=bk i f s.2;obtain rfl:v=_:=by simpa using g
  obtain rfl:u=_:=by simpa [cI] using o
  obtain⟨E,k⟩:=m.DW _ h.2;have q:=za (w:=w) (x:=x) (y:=y) k af (aa ⟨j,ef p,af⟩) (.inl rfl);split at c
  .rename_i e C;obtain rfl:=aI c;rcases tO C with ⟨rfl,rfl⟩|⟨rfl,rfl⟩
   .exact⟨_,q.1,gN _⟩
   .exact⟨_,q.2,gN _⟩
  .cases c
 .exact aaK m o s l
def adJ{op u p r}(c:cI γ σ.mem w p .val [u])(b:(un op p).run=aa r):∃z,(Op.unary op u).run P w=.ok z w/\cI γ σ.mem w r .val [z]:=by
 unfold un at b;split at b
 .obtain rfl:=AA c;obtain rfl:=aI b;exact⟨_,rfl,gN _⟩
 .obtain⟨rfl,e⟩:=vI c;obtain rfl:=aI b;exact⟨_,rfl,mkInt (fI _ _)⟩
 .obtain⟨rfl,e⟩:=vI c;obtain rfl:=aI b;rename_i k n;refine⟨_,?_,mkInt (fI _ _)⟩;cases f:k.signed<;>simp[Op.unary,Op.intBits,gy,f]
 .cases b
def adK(K:bF B γ σ.mem w){b n}(L:σ.mem b=aa n){blk cap}(A:γ.loc b=aa (blk,cap)){p v}(j:(agn n.buf p n.val).run=aa v) :
  ∃c tid m,w.heap[blk]?=aa (.cells c tid m)/\nr c m/\ef p+dQ v<=c.size/\cI γ σ.mem w v .cells ((c.toList.drop<|ef p).take<|dQ v):=by
 have f:=K.boxes b n L;unfold eB at f;cases h:n.buf with
 | false =>
   rw[h] at f j;obtain⟨o,q,c,tid,m,y,H,g,r,C⟩:=f;rw[A] at y;obtain⟨rfl,rfl⟩:=eN (aI y);obtain⟨I,z⟩:=yv C j;exact⟨c,tid,m,H,g,by simpa using I,z⟩
 | true =>
   rw[h] at f j;obtain⟨e,l,y,H,g⟩:=f;rw[y] at j;rcases g with ⟨g,_⟩|⟨o,q,c,tid,m,g,C,M,r,S,T,U,O⟩
   .rw[A] at g;cases g
   .rw[A] at g;obtain⟨rfl,rfl⟩:=eN (aI g);cases p with
    | nil=>cases j
    | cons s p =>
      cases s with
      | gz k off=>cases j
      | idx i size =>
        obtain⟨D,E⟩:=ay j;have t:=gx D;obtain⟨x,Q,F⟩:=cg E;obtain⟨V,u⟩:=vj Q;have J:=O _ x u;have R:=J.length;have hi:=(iy.1 u).1;have G:(i.toNat+1)*e.size<=cap*e.size:=gW _ ah;rw[JO] at G;obtain⟨I,z⟩:=yv (v:=.data e x) J F;refine⟨c,tid,m,C,M.th,?_,?_⟩
        .simp only[ef,t];omega
        .rw[Zf,Oz,Aq,xh ah] at z;simp only[ t];exact z
def zJ{t tid}(i:Den P t tid){blk off x cs}(g:bJ w γ.I t x cs)(b:(loadCells ⟨blk,off,af⟩ cs.length).run P w=.ok cs.toArray w)
  (e:∀j v,cs[j]?=aa v->w.cell? ⟨blk,off+j,af⟩=aa v):(loadVar tid ⟨blk,off,af⟩).run P w=.ok (cY t cs) w:=by
 unfold loadVar;rw[Sem.run_bind,i.agg w];have h:=g.length;cases f:t.isAgg with
 | true =>
   simp only[yq,Sem.run_bind,i.sizeOf w,Result.andThen_ok,<-h,b,Sem.run_pure,cY,f,xj]
 | false =>
   rw[(vl f)] at h;obtain⟨c,rfl⟩:=Y3.1 h;have:=e 0 c rfl;simp at this;simp[cY,f,this]
def LL:∀{u v},Zk u v=true->dQ v=u.size:=by
 intro u;induction u with
 | pair a b f e =>
   intro v h;cases v with
   | data t x=>obtain rfl:=Ty.eq_of_beq h;rfl
   | mix p q =>
     obtain⟨c,g⟩:=ac4.1 h;have i:dQ p=a.size:=by
      unfold Ub at c;split at c
      .rfl
      .obtain rfl:=Ty.eq_of_beq c;rfl
      .cases c
     show dQ p+dQ q=a.size+b.size
     rw[i,e g]
   | _=>cases h
 | _ =>
   intro v h;cases v with
   | data t x=>obtain rfl:=Ty.eq_of_beq h;rfl
   | _=>cases h
def P0{u v}(b:Ub u v=true):dQ v=u.size:=by
 unfold Ub at b;split at b
 .rfl
 .obtain rfl:=Ty.eq_of_beq b;rfl
 .cases b
def Un(q:fN P cx){ty x}(h:dy B N γ σ a w)(r:(mx cx d ty (cW σ x) σ).run=aa aV) :
  ∃u m E,aV=σ.bu d u/\a.eval x=.pointer (aa E)/\(loadVar ty E).run P w=.ok m w/\cI γ σ.mem w u .val [m]:=by
 have hv:=h.cW x;unfold mx at r;split at r
 .rename_i u y L;rw[L] at hv;obtain⟨J,s⟩:=ay r;obtain rfl:=aI s;have K:=q.T _ _ (jz J);obtain⟨F,off,cs,C,W,X⟩:=hv;obtain C:a.eval x=_:=by simpa using C
  have M:=zJ K W (Hz X) (λj v D=>(X j v D).1);exact⟨_,_,_,rfl,C,M,cs,W,rfl⟩
 .rename_i b aP p L;rw[L] at hv;split at r
  .rename_i bx J;obtain⟨G,s⟩:=ay r;obtain⟨v,hn,O⟩:=bind_some s;obtain⟨g,Q⟩:=ay O;obtain rfl:=aI Q;obtain⟨F,cap,M,l⟩:=bk J (gx G) hv.2;obtain l:a.eval x=_:=by simpa using l
   obtain⟨H,tid,fr,Y,g2,g3,t⟩:=adK h.ok J M hn;have z:=DY (P:=P) Y g3;have A:=t.length;have i:∀j R,((H.toList.drop _).take<|dQ v)[j]?=aa R->w.cell? ⟨F,ef p+j,af⟩=aa R:=λj R D=>by
    rw[cell_of_heap Y];rw[jM] at D;split at D
    .simpa using D
    .cases D
   have single:∀(o:(isAgg ty).run P w=.ok false w) (C:dQ v=1) (n:∀c,cI γ σ.mem w v .cells [c]->cI γ σ.mem w v .val [c]),
     ∃u m E,σ.bu d v=σ.bu d u/\a.eval x=.pointer (aa E)/\(loadVar ty E).run P w=.ok m w/\cI γ σ.mem w u .val [m]:=by
    intro o C n;rw[C] at A t i;obtain⟨c,S⟩:=Y3.1 A;rw[S] at t i;have:=i 0 c rfl;simp at this;refine⟨_,c,_,rfl,l,?_,n c t⟩;simp[loadVar,o,this]
   cases v with
   | mix Z q' =>
     simp only[C4] at g;split at g
     .rename_i u U;have K:=q.T _ _ U;have V:Ty.isAgg u=true:=by
       cases u with
       | pair a b=>rfl
       | _=>cases g
      refine⟨_,.agg ((H.toList.drop<|ef p).take<|dQ<|.mix Z q').toArray,_,rfl,l,?_,?_⟩
      .rw[(LL g)] at z⊢;simp only[loadVar,Sem.run_bind,K.agg w,V,Result.andThen_ok,yq,K.sizeOf w,z,Sem.run_pure]
      .obtain⟨c1,c2,e1,e2,e3⟩:=t;exact⟨c1,c2,by rw[e1],e2,e3⟩
     .cases g
   | data u y =>
     rw[show C4 cx ty _=false from rfl,Bool.or_false] at g;exact⟨_,_,_,rfl,l,(zJ (q.T _ _<|jz g) t (by rw[A];exact z) i),_,t,rfl⟩
   | whole b' I =>
     simp only[As] at g;split at g
     .rename_i e U;exact single (by have:=(q.T _ _ U).agg w;exact this) rfl (λc k=>k)
     .cases g
   | ptr b' I Z=>exact single ((q.vf _<|by simpa [C4,As] using g).1 w) rfl (λc k=>k)
   | vd=>exact single ((q.vf _<|by simpa [C4,As] using g).1 w) rfl (λc k=>k)
   | fn f aaD=>exact single ((q.vf _<|by simpa [C4,As] using g).1 w) rfl (λc k=>k)
   | _=>cases g
  .cases r
 .cases r
def LM(b:fN P cx){ty x}(h:dy B N γ σ a w)(c:∀k,d=aa k->k<N)(e:(mx cx d ty (cW σ x) σ).run=aa aV) :
  oT P B N γ σ a w d (Instr.loadAt ty<|a.eval x) aV:=by
 obtain⟨u,f,l,rfl,g,i,j⟩:=Un b h e;refine bK h c ?_ j;rw[g];simp only[Instr.loadAt,Instr.sureAddr,Sem.run_bind,Sem.run_pure,Result.andThen_ok,i]
end
end Go.Ge
