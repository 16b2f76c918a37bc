import Derived.Test.YtgklgliokhbcnaaGreatDoorGeA
import Derived.Laws.StructEq
import Derived.ChangeKeysEq
set_option linter.unusedVariables false
set_option linter.unusedSimpArgs false
set_option linter.unusedSectionVars false
set_option linter.defProp false
open Option renaming some->aa,none->af
namespace Go.Ge
structure Gh where
 I:Nat->Nat->Prop
 loc:Nat->Option (Nat×Nat)
def df(t:Ty)(cs:List Value):Value:=bif t.isAgg then .agg cs.toArray else cs.headD undef
def bL(w:World)(I:Nat->Nat->Prop):(t:Ty)->t.den->List Value->Prop|.int k,n,cs=>cs=[.int k n]/\k.min<=(show Int from n)/\(show Int from n)<=k.max|.bool,b,cs=>cs=[.bool b]|.str,s,cs=>cs=[.string ⟨List.toArray (α:=UInt8) s⟩]/\List.length (α:=UInt8) s<=maxLen|.slice e,l,cs=>((∃base,cs=[.slice base 0 0])/\l=([]:List e.den)) \/ ∃f off g,cs=[.slice (aa ⟨f,off,af⟩) (List.length (α:=e.den) l) g]/\List.length (α:=e.den) l<=g/\g<=maxLen /\∀(i:Nat) (x:e.den),(show List e.den from l)[i]?=aa x->∃es:List Value,es.length=e.size /\(∀(j:Nat) v,es[j]?=aa v->w.cell? ⟨f,off+i*e.size+j,af⟩=aa v/\I f (off+i*e.size+j))/\bL w I e x es|.arr n e,l,cs=>List.length (α:=e.den) l=n/\cs.length=n*e.size /\∀(i:Nat) (x:e.den),(show List e.den from l)[i]?=aa x->bL w I e x ((cs.drop<|i*e.size).take e.size)|.pair a b,x,cs=>∃h m,cs=h++m/\bL w I a x.1 h/\bL w I b x.2 m|.unit,_,cs=>cs=[]|.alt u a r,x,cs=>(match(show a.den⊕r.den from x) with|.inl y=>r.size=1/\∃c,cs=[.iface u<|df a c]/\bL w I a y c|.inr z=>bL w I r z cs)|.Cz,_,cs=>cs=[.nilIface]
def bL.length{w I}:∀{t x cs},bL w I t x cs->cs.length=t.size:=by intro t;induction t with|int k=>intro x cs h;rw[h.1];rfl|bool=>intro x cs h;rw[h];rfl|str=>intro x cs h;rw[h.1];rfl|slice e l=>(intro x cs h;rcases h with ⟨⟨_,h⟩,_⟩|⟨_,_,_,h,_⟩<;>rw[h]<;>rfl)|arr n e l=>intro x cs h;exact h.2.1|pair a b f g=>(intro x cs h;obtain⟨o,p,rfl,i,m⟩:=h;rw[iU,f i,g m];rfl)|unit=>intro x cs h;rw[h];rfl|alt u a r f j =>(intro x cs h;rcases x with y|z;{obtain⟨i,c,rfl,_⟩:=h;exact i.symm};exact j h)|Cz=>intro x cs h;rw[show cs=_ from h];rfl
def bL.mono{w w' I I'}(E:∀b o,I b o->I' b o)(F:∀b o,I b o->w'.cell? ⟨b,o,af⟩=w.cell? ⟨b,o,af⟩) :
  ∀{t x cs},bL w I t x cs->bL w' I' t x cs:=by
 intro t;induction t with|int k=>intro x cs h;exact h|bool=>intro x cs h;exact h|str=>intro x cs h;exact h|slice e s =>(intro x cs h;rcases h with h|⟨blk,off,l,g,j,m,G⟩;{exact .inl h};refine .inr ⟨blk,off,l,g,j,m,λi y v=>?_⟩;grind)|arr n e s=>intro x cs h;exact⟨h.1,h.2.1,λi y v=>s (h.2.2 i y v)⟩|pair a b f p=>(intro x cs h;obtain⟨A,C,D,g,j⟩:=h;exact⟨A,C,D,f g,p j⟩)|unit=>intro x cs h;exact h|alt u a r f q =>(intro x cs h;rcases x with y|z;{obtain⟨g,c,j,m⟩:=h;exact⟨g,c,j,f m⟩};exact q h)|Cz=>intro x cs h;exact h
def bL.one{w I}:∀{t x cs},bL w I t x cs->∀v∈cs,v.oneCell'=true:=by intro t;induction t with|int k=>intro x cs h v f;rw[h.1] at f;simp at f;subst f;rfl|bool=>intro x cs h v f;rw[h] at f;simp at f;subst f;rfl|str=>intro x cs h v f;rw[h.1] at f;simp at f;subst f;rfl|slice e l=>(intro x cs h v f;rcases h with ⟨⟨_,h⟩,_⟩|⟨_,_,_,h,_⟩<;>rw[h] at f<;>simp at f<;>subst f<;>rfl)|arr n e l =>(intro x cs h v f;obtain⟨g,p,m⟩:=h;obtain⟨k,D,q⟩:=aej f;have o:0<e.size:=by grind);(have hx:∃y,(show List e.den from x)[k / e.size]?=aa y:=⟨_,ft (by rw[g];exact(by rw[aak o];omega))⟩;obtain⟨y,s⟩:=hx;refine l (m _ y s) v ?_;have E:=Cy k o;have A:k / e.size*e.size+k % e.size=k:=by rw[U3];exact UY k e.size);(have:((cs.drop<|k / e.size*e.size).take e.size)[k % e.size]?=aa v:=by grind);grind|pair a b i C =>(intro x cs h v f;obtain⟨F,G,rfl,g,p⟩:=h;grind)|unit=>intro x cs h v f;rw[h] at f;cases f|alt u a r i j =>(intro x cs h v f;rcases x with y|z;{obtain⟨g,c,rfl,m⟩:=h;simp at f;subst f;rfl};exact j h v f)|Cz=>intro x cs h v f;rw[show cs=_ from h] at f;simp at f;subst f;rfl
def vd{w I}:∀{t x cs},bL w I t x cs->(df t cs).cells.toList=cs:=by intro t;induction t with|int k=>intro x cs h;rw[h.1];rfl|bool=>intro x cs h;rw[h];rfl|str=>intro x cs h;rw[h.1];rfl|slice e=>(intro x cs h;rcases h with ⟨⟨_,h⟩,_⟩|⟨_,_,_,h,_⟩<;>rw[h]<;>rfl)|arr n e=>intro x cs h;rfl|pair a b=>intro x cs h;rfl|unit=>intro x cs h;rfl|alt u a r g f =>(intro x cs h;rcases x with y|z;{obtain⟨i,c,rfl,j⟩:=h;unfold df Ty.isAgg;cases r.isAgg<;>rfl};exact f h)|Cz=>intro x cs h;rw[show cs=_ from h];rfl
inductive Mode where
 | cells|val|many
def x9(b:Option Addr)(c:Nat):Prop:=c=0\/∃e f,b=aa ⟨e,f,af⟩
def er:List Sel->Nat|[]=>0|.gR _ off::p=>off+er p|.idx i size::p=>i.toNat*size+er p
def CF p q:er (p++q)=er p+er q:=by induction p with|nil=>simp[er]|cons s p b=>cases s<;>simp[er]<;>omega
section
variable (γ:Gh) (mem:Nat->Option eF) (w:World)
def GD(g:eF)(b:Nat)(h:Int)(c:Option Addr)(e:Nat):Prop:=h=0->g.buf=true->(γ.loc b=af/\c=af/\e=0)\/∃f,γ.loc b=aa (f,e)/\c=aa ⟨f,0,af⟩
def GF(I:Nat->Nat->Prop)(b c:Nat)(e:List Value):Prop:=∀(j:Nat) v,e[j]?=aa v->w.cell? ⟨b,c+j,af⟩=aa v/\I b (c+j)
def oI(b c:Nat)(K:eF->Prop):Prop:=∃e,mem b=aa e/\c<=e.aR/\(e.aR=c->K e)
def cQ:cw->Mode->List Value->Prop|.undef,.val,vs=>∃v,vs=[v]|.undef,.cells,vs=>∃v,vs=[v]/\v.oneCell'=true|.undef,.many,_=>False|.data t x,.cells,vs=>bL w γ.I t x vs|.data t x,.val,vs=>∃cs,bL w γ.I t x cs/\vs=[df t cs]|.data _ _,.many,_=>False|.mix a b,.cells,vs=>∃o s,vs=o++s/\cQ a .cells o/\cQ b .cells s|.mix a b,.val,vs=>∃o s,vs=[.agg (o++s).toArray]/\cQ a .cells o/\cQ b .cells s|.mix a b,.many,vs=>∃v r,vs=v::r/\cQ a .val [v]/\cQ b .many r|.nl,.many,vs=>vs=[]|.nl,_,_=>False|.Ct u,.val,vs=>∃l:Array Value,vs=[.tuple l]/\cQ u .many l.toList|.Ct _,_,_=>False|.vN,.many,_=>False|.vN,_,vs=>vs=[.pointer af]|.vO,.many,_=>False|.vO,_,vs=>vs=[.nilIface]|.za _ _,.many,_=>False|.za b aR,_,vs=>(∃v,vs=[v]/\v.oneCell'=true)/\oI mem b aR λ_=>∃g h,γ.loc b=aa (g,h)/\(vs=[.pointer af]\/vs=[.pointer<|some ⟨g,0,af⟩])|.qw,.many,_=>False|.qw,_,vs=>vs=[.slice af 0 0]|.cell _ _,.many,_=>False|.cell t x,_,vs=>∃g off cs,vs=[.pointer<|some ⟨g,off,af⟩]/\bL w γ.I t x cs/\GF w γ.I g off cs|.ptr _ _ _,.many,_=>False|.ptr b aR p,_,vs=>(∃v,vs=[v]/\v.oneCell'=true)/\oI mem b aR λ_=>∃g h,γ.loc b=aa (g,h)/\vs=[.pointer<|some ⟨g,er p,af⟩]|.whole _ _,.many,_=>False|.whole b aR,_,vs=>(∃v,vs=[v]/\v.oneCell'=true)/\oI mem b aR λbx=>∃e n,bx.buf=true/\bx.row=aa (e,n) /\((γ.loc b=af/\vs=[.slice af 0 0])\/∃g h,γ.loc b=aa (g,h)/\vs=[.slice (aa ⟨g,0,af⟩) n h])|.part _ _ _ _,.many,_=>False|.part b aR lo n,_,vs=>(∃v,vs=[v]/\v.oneCell'=true)/\oI mem b aR λbx=>∃e k,bx.row=aa (e,k)/\0<=lo/\0<=n/\lo+n<=k /\∃j h,vs=[.slice j n.toNat h]/\n.toNat<=h/\h<=maxLen/\(x9 j h/\GD γ bx b lo j h)/\(n=0\/∃g c,γ.loc b=aa (g,c)/\j=aa ⟨g,lo.toNat*e.size,af⟩)|.win _ _ _ _ _ _ _,.many,_=>False|.win b aR q e k lo n,_,vs=>(∃v,vs=[v]/\v.oneCell'=true)/\oI mem b aR λ_=>q≠[]/\∃g c,γ.loc b=aa (g,c)/\0<=lo/\0<=n/\lo+n<=k /\∃j h,vs=[.slice j n.toNat h]/\n.toNat<=h/\(n=0\/j=aa ⟨g,er q+lo.toNat*e.size,af⟩)|.fn _ _,.many,_=>False|.fn f m,_,vs=>∃l:Array Value,vs=[.func (.func f) #[] l]/\l.size=m.length /\∀(i:Nat) b aR,m[i]?=aa (b,aR)->oI mem b aR λ_=>∃g h,γ.loc b=aa (g,h)/\l[i]?=aa (.pointer<|some ⟨g,0,af⟩)
def nY(c:Array Value)(e:Nat×Nat):Prop:=∀b,b<c.size->¬(e.1<=b/\b<e.2)
def Ty.isInt:Ty->Bool|.int _=>true|_=>false
structure ThB (e:Ty) (cur:Array Value) (fr:Nat×Nat):Prop where
 th:nY cur fr
 um:e.isInt=false->¬(fr.1<=cur.size/\cur.size<fr.2)
def eL(b:Nat)(bx:eF):Prop :=match bx.buf with|true=>∃(e:Ty) (l:List e.den),bx.val=.data (.slice e) l/\0<e.size /\((γ.loc b=af/\l=[])\/∃g f c tid h,γ.loc b=aa (g,f)/\w.heap[g]?=aa (.cells c tid h)/\ThB e c h/\(bx.tid=0\/tid=bx.tid)/\l.length<=f/\f<=maxLen /\c.size=f*e.size/\∀(i:Nat) (x:e.den),l[i]?=aa x->bL w γ.I e x ((c.toList.drop<|i*e.size).take e.size))|false=>∃g f c tid h,γ.loc b=aa (g,f)/\w.heap[g]?=aa (.cells c tid h)/\nY c h/\(bx.tid=0\/tid=bx.tid)/\cQ γ mem w bx.val .cells c.toList
end
def Yl(b:eF):Nat->Prop:=λc=>b.ro=true/\(b.buf=true->∀e n,b.row=aa (e,n)->c<n*e.size)
abbrev ER:=Nat->(Obj->Prop)->Prop
def cZ:ER:=λ_ _=>False
def Fv(G:ER)(w:World):Prop:=∀b Q,G b Q->∃o,w.heap[b]?=aa o/\Q o
structure CG where
 lo:Nat
 X:Nat->Prop
 G:ER
def CG.has(B:CG)(k:Nat):Prop:=B.lo<=k\/B.X k
def px(G:ER)(n:Nat):CG:=⟨n,λ_=>False,G⟩
def sU{G n k}:(px G n).has k↔n<=k:=⟨λh=>h.elim id False.elim,.inl⟩
structure xc (B:CG) (w w':World):Prop where
 os:w'.os=w.os
 tape:w'.tape=w.tape
 output:w'.output=w.output
 size:w.heap.size<=w'.heap.size
 block:∀k,¬B.has k->w'.heap[k]?=w.heap[k]?
def xc.refl B w:xc B w w:=⟨rfl,rfl,rfl,b0 _,λ_ _=>rfl⟩
def xc.trans{B a b c}(h:xc B a b)(k:xc B b c):xc B a c :=⟨k.os.trans h.os,k.tape.trans h.tape,k.output.trans h.output,fB h.size k.size,λi e=>(k.block i e).trans (h.block i e)⟩
def xc.of{B w w'}(h:RowKit.Below B.lo w w'):xc B w w':=⟨h.os,h.tape,h.output,h.size,λk b=>h.block k (aar λq=>b (.inl q))⟩
def xc.below{G n w w'}(h:xc (px G n) w w'):RowKit.Below n w w':=⟨h.os,h.tape,h.output,h.size,λk b=>h.block k λq=>by have:=sU.1 q;omega⟩
def xc.drew{B a w}(h:xc B a w):xc B a w.drew:=⟨h.os,h.tape,h.output,h.size,h.block⟩
def xc.alloc{B a w}(h:xc B a w)(b:B.lo<=w.heap.size) o:xc B a (w.alloc o):=h.trans (.of<|(RowKit.Below.refl _ _).alloc b o)
structure bH (B:CG) (γ:Gh) (mem:Nat->Option eF) (w:World):Prop where
 base:B.lo<=w.heap.size
 boxes:∀b bx,mem b=aa bx->eL γ mem w b bx
 inj:∀b c blk k k',mem b≠af->mem c≠af->γ.loc b=aa (blk,k)->γ.loc c=aa (blk,k')->b=c
 fresh:∀b blk k,mem b≠af->γ.loc b=aa (blk,k)->B.has blk/\blk<w.heap.size
 vQ:∀blk off,γ.I blk off->blk<w.heap.size
 sep:∀b bx blk k off,mem b=aa bx->γ.loc b=aa (blk,k)->γ.I blk off->Yl bx off
 vR:∀b Q,B.G b Q->¬B.has b/\∃o,w.heap[b]?=aa o/\Q o
structure dG (B:CG) (N:Nat) (γ:Gh) (σ:St) (a:Act) (w:World):Prop where
 bj:∀t,cQ γ σ.mem w (σ.bj t) .val [a.tmps.getD t undef]
 size:a.tmps.size=N
 defers:a.defers=[]
 ok:bH B γ σ.mem w
structure Ext (B:CG) (γ:Gh) (mem:Nat->Option eF) (w:World) (bF:Gh) (mem':Nat->Option eF) (w':World):Prop where
 below:xc B w w'
 I:∀b o,γ.I b o->bF.I b o
 sI:∀b o,bF.I b o->γ.I b o\/B.has b
 cells:∀b o,γ.I b o->w'.cell? ⟨b,o,af⟩=w.cell? ⟨b,o,af⟩
 boxes:∀b bx,mem b=aa bx->∃vS,mem' b=aa vS/\bx.aR<=vS.aR/\(vS.aR=bx.aR->bF.loc b=γ.loc b/\vS.buf=bx.buf/\vS.row=bx.row)
def bH.GG{B γ bF mem mem' w w'}(h:bH B γ mem w)(x:Ext B γ mem w bF mem' w'):∀b Q,B.G b Q->¬B.has b/\∃o,w'.heap[b]?=aa o/\Q o:=λb Q g=>by obtain⟨i,o,c,q⟩:=h.vR b Q g;exact⟨i,o,(x.below.block b i).trans c,q⟩
def bH.My{B γ mem w}(h:bH B γ mem w):Fv B.G w:=λb Q g=>(h.vR b Q g).2
def Ext.refl B γ mem w:Ext B γ mem w γ mem w :=⟨xc.refl _ _,λ_ _ h=>h,λ_ _ h=>.inl h,λ_ _ _=>rfl,λb bx h=>⟨bx,h,b0 _,λ_=>⟨rfl,rfl,rfl⟩⟩⟩
def Ext.trans{B γ bF e mem mem' c w w' f}(h:Ext B γ mem w bF mem' w')(k:Ext B bF mem' w' e c f) :
  Ext B γ mem w e c f where
 below:=h.below.trans k.below
 I:=λb o x=>k.I _ _ (h.I _ _ x)
 sI:=λb o x=>by
  rcases k.sI b o x with y|y
  .exact h.sI b o y
  .grind
 cells:=λb o x=>(k.cells _ _<|h.I _ _ x).trans (h.cells _ _ x)
 boxes:=λb bx x=>by
  obtain⟨vS,i,j,l⟩:=h.boxes b bx x;obtain⟨g,m,n,p⟩:=k.boxes b vS i
  grind
def oI.ext{B γ bF mem mem' w w'}(h:Ext B γ mem w bF mem' w'){b aR K f}(g:oI mem b aR K)
  (m:∀c vS,mem b=aa c->mem' b=aa vS->bF.loc b=γ.loc b->vS.buf=c.buf->vS.row=c.row->K c->f vS):oI mem' b aR f:=by
 obtain⟨c,i,j,n⟩:=g;obtain⟨vS,k,l,o⟩:=h.boxes b c i;refine⟨vS,k,fB j l,λe=>?_⟩
 grind
def GF.ext{w w' I I'}(c:∀b o,I b o->I' b o)(e:∀b o,I b o->w'.cell? ⟨b,o,af⟩=w.cell? ⟨b,o,af⟩){blk off cs}  (h:GF w I blk off cs):GF w' I' blk off cs :=λj v f=>by obtain⟨a,b⟩:=h j v f;exact⟨by rw[e _ _ b];exact a,c _ _ b⟩
def cQ.ext{B γ bF mem mem' w w'}(h:Ext B γ mem w bF mem' w'):∀{v m vs},cQ γ mem w v m vs->cQ bF mem' w' v m vs:=by intro v;induction v with|undef=>intro m vs r;cases m<;>exact r|data t x =>(intro m vs r;cases m with|cells=>exact bL.mono h.I h.cells r|val=>(obtain⟨F,g,j⟩:=r;exact⟨F,bL.mono h.I h.cells g,j⟩)|many=>exact r)|qw=>intro m vs r;cases m<;>exact r|vN=>intro m vs r;cases m<;>exact r|vO=>intro m vs r;cases m<;>exact r|za b aR =>(intro m vs r;cases m with|many=>exact r|cells=>exact⟨r.1,r.2.ext h λl vS _ _ c _ _ k=>by rw[c];exact k⟩|val=>exact⟨r.1,r.2.ext h λl vS _ _ c _ _ k=>by rw[c];exact k⟩)|cell t x =>(intro m vs r;cases m with|many=>exact r|cells=>(obtain⟨s,y,F,g,j,z⟩:=r;exact⟨s,y,F,g,bL.mono h.I h.cells j,z.ext h.I h.cells⟩)|val=>obtain⟨s,y,F,g,j,z⟩:=r;exact⟨s,y,F,g,bL.mono h.I h.cells j,z.ext h.I h.cells⟩)|ptr b aR p =>(intro m vs r;cases m with|many=>exact r|cells=>exact⟨r.1,r.2.ext h λl vS _ _ c _ _ k=>by rw[c];exact k⟩|val=>exact⟨r.1,r.2.ext h λl vS _ _ c _ _ k=>by rw[c];exact k⟩)|whole b aR =>(intro m vs r;cases m with|many=>exact r|cells=>exact⟨r.1,r.2.ext h λl vS _ _ c A C k=>by rw[c,A,C];exact k⟩|val=>exact⟨r.1,r.2.ext h λl vS _ _ c A C k=>by rw[c,A,C];exact k⟩)|part b aR lo n =>(intro m vs r;cases m with|many=>exact r|cells=>exact⟨r.1,r.2.ext h λl vS _ _ c A C k=>by unfold GD at k⊢;rw[c,A,C];exact k⟩|val=>exact⟨r.1,r.2.ext h λl vS _ _ c A C k=>by unfold GD at k⊢;rw[c,A,C];exact k⟩)|win b aR q e k lo n =>(intro m vs r;cases m with|many=>exact r|cells=>exact⟨r.1,r.2.ext h λl vS _ _ c _ _ k=>by rw[c];exact k⟩|val=>exact⟨r.1,r.2.ext h λl vS _ _ c _ _ k=>by rw[c];exact k⟩)|fn f L =>(intro m vs r;cases m with|many=>exact r|cells=>(obtain⟨o,g,j,z⟩:=r;exact⟨o,g,j,λi b aR K=>(z i b aR K).ext h λl vS _ _ c _ _ k=>by rw[c];exact k⟩)|val=>obtain⟨o,g,j,z⟩:=r;exact⟨o,g,j,λi b aR K=>(z i b aR K).ext h λl vS _ _ c _ _ k=>by rw[c];exact k⟩)|mix a b D E =>(intro m vs r;cases m with|cells=>(obtain⟨G,H,J,g,j⟩:=r;exact⟨G,H,J,D g,E j⟩)|val=>(obtain⟨G,H,J,g,j⟩:=r;exact⟨G,H,J,D g,E j⟩)|many=>obtain⟨G,H,J,g,j⟩:=r;exact⟨G,H,J,D g,E j⟩)|Ct u M =>(intro m vs r;cases m with|val=>(obtain⟨o,g,j⟩:=r;exact⟨o,g,M j⟩)|cells=>exact r|many=>exact r)|nl=>intro m vs r;cases m<;>exact r
def gH:Ty->List Value|.int k=>[.int k 0]|.bool=>[.bool false]|.str=>[.string ⟨#[]⟩]|.slice _=>[.slice af 0 0]|.arr n e=>(List.replicate n<|gH e).flatten|.pair a b=>gH a++gH b|.unit=>[]|.alt _ _ r=>gH r|.Cz=>[.nilIface]
def eo t:(gH t).length=t.size:=by induction t with|arr n e h=>simp[gH,Ty.size,h]|pair a b c f=>simp[gH,Ty.size,c,f]|alt u a r c g=>exact g|_=>rfl
def fl{b:Type}(l:List b):∀n i,i<n->((List.replicate n l).flatten.drop<|i*l.length).take l.length=l|0,i,h=>absurd h ah|n+1,0,_=>by simp[List.replicate_succ]|n+1,i+1,h=>by rw[List.replicate_succ,List.flatten_cons,KJ,U4,<-A7,Ml];exact fl l n i ah
def nM w I:∀t,bL w I t t.zero (gH t):=by intro t;induction t with|int k=>exact⟨rfl,by cases k<;>decide,by cases k<;>decide⟩|bool=>rfl|str=>exact⟨rfl,pq _⟩|slice e j=>exact .inl ⟨⟨af,rfl⟩,rfl⟩|arr n e j =>refine⟨aed,by rw[eo];rfl,λi x l=>?_⟩;have c:(List.replicate n e.zero)[i]?=aa x:=l;rw[aji] at c;split at c;{(rename_i m;obtain rfl:e.zero=x:=by simpa using c);have:=fl (gH e) n i m;rw[eo] at this;show bL w I e e.zero (((List.replicate n _).flatten.drop _).take e.size);grind};grind|pair a b f g=>exact⟨_,_,rfl,f,g⟩|unit=>rfl|alt u a r f h=>exact h|Cz=>rfl
def SL:Value->Value->Bool|.int k n,.int c m=>Nat.beq (BY k) (BY c)&&decide (n=m)|.bool a,.bool b=>a==b|.string a,.string b=>decide (a.data.toList=b.data.toList)|.slice af 0 0,.slice af 0 0=>true|.pointer af,.pointer af=>true|.nilIface,.nilIface=>true|.nilFunc,.nilFunc=>true|_,_=>false
def Ym{a b}(h:SL a b=true):a=b:=by
 unfold SL at h;split at h
 .simp only[gO,A6] at h;rw[Ak h.1,h.2]
 .simpa using h
 .rename_i a b;obtain⟨⟨a⟩⟩:=a;obtain⟨⟨b⟩⟩:=b;grind
 .rfl
 .rfl
 .rfl
 {rfl};cases h
def GH:List Value->List Value->Bool|[],[]=>true|a::r,b::s=>SL a b&&GH r s|_,_=>false
def JV:∀{a b},GH a b=true->a=b|[],[],_=>rfl|a::r,b::s,h=>by simp only[GH,gO] at h;rw[Ym h.1,JV h.2]|[],_::_,h=>by cases h|_::_,[],h=>by cases h
def ES(P:Program)(c:TypeId)(b:Nat)(e:List Value):Bool :=match P.info? c with|some i=>Nat.beq i.size b&&(match i.zero with|some z=>GH z.cells.toList e|none=>false)|none=>false
def kQ{P tid size b}(h:ES P tid size b=true) :
  ∃i z,P.info? tid=aa i/\i.size=size/\i.zero=aa z/\z.cells.toList=b:=by
 unfold ES at h;split at h
 .rename_i i c;simp only[gO] at h;split at h;{rename_i z e;exact⟨i,z,c,gP h.1,e,JV h.2⟩}
  .grind
 .cases h
def Fw(P:Program)(b:TypeId):Bool :=match P.info? b with|some i=>Nat.ble i.bytes 32768|none=>false
def Ty.aeR:Ty->Bool|.alt _ _ r=>r.aeR|.Cz=>true|_=>false
def gy(P:Program):Ty->Bool->TypeId->Nat->List Field->Bool|.int k,false,tid,_,_=>(match P.underlying tid with|some (.int g)=>Nat.beq (BY k) (BY g)|_=>false)&&ES P tid 1 [.int k 0]|.bool,false,tid,_,_=>(match P.underlying tid with|some .bool=>true|_=>false)&&ES P tid 1 [.bool false]|.str,false,tid,_,_=>(match P.underlying tid with|some .string=>true|_=>false)&&ES P tid 1 [.string ⟨#[]⟩]|.slice e,false,tid,_,_=>(match P.underlying tid with|some (.slice c)=>gy P e false c 0 []&&Fw P c&&Nat.blt 0 e.size|_=>false)&&ES P tid 1 [.slice af 0 0]|.arr n e,false,tid,_,_=>(match P.underlying tid with|some (.array m c)=>Nat.beq n m&&gy P e false c 0 []&&Nat.blt 0 e.size|_=>false)&&ES P tid (n*e.size) (gH<|.arr n e)&&!P.eqGuardType P.depth tid|.pair a b,false,tid,_,_=>(match P.underlying tid with|some (.struct h)=>(match h.toList with|f::r=>Nat.beq f.offset 0&&decide (f.name ≠ "_")&&gy P a false f.type 0 []&&Nat.blt 0 a.size&&gy P b true 0 a.size r|[]=>false)|_=>false)&&ES P tid (a.size+b.size) (gH<|.pair a b)&&!P.eqGuardType P.depth tid&&!P.stoodInHeld tid|.unit,false,tid,_,_=>false|.alt u _ r,false,tid,_,_=>gy P r false tid 0 []&&P.concrete u&&r.aeR|.Cz,false,tid,_,_=>(match P.underlying tid with|some (.interface _)=>true|_=>false)&&ES P tid 1 [.nilIface]|.pair a b,true,_,off,f::r=>Nat.beq f.offset off&&decide (f.name ≠ "_")&&gy P a false f.type 0 []&&Nat.blt 0 a.size&&gy P b true 0 (off+a.size) r|.unit,true,_,_,[]=>true|_,_,_,_,_=>false
def Den(P:Program)(t:Ty)(b:TypeId):Prop:=gy P t false b 0 []=true
def sJ(P:Program)(t:Ty)(off:Nat)(b:List Field):Prop:=gy P t true 0 off b=true
section
variable {P:Program} {tid:TypeId}
def Den.int{k}(h:Den P (.int k) tid):P.underlying tid=aa (.int k):=by
 simp only[Den,gy,gO] at h;have b:=h.1;split at b
 {rename_i e c;rw[c,Ak b]};cases b
def Den.bool(h:Den P .bool tid):P.underlying tid=aa .bool:=by simp only[Den,gy] at h;grind
def Den.str(h:Den P .str tid):P.underlying tid=aa .string:=by simp only[Den,gy] at h;grind
def Den.slice{e}(h:Den P (.slice e) tid):∃b,P.underlying tid=aa (.slice b)/\Den P e b/\Fw P b=true/\0<e.size:=by
 simp only[Den,gy,gO] at h;have c:=h.1;split at c
 {rename_i b f;simp at c;exact⟨b,f,c.1.1,c.1.2,by simpa using c.2⟩};cases c
def Den.arr{n e}(h:Den P (.arr n e) tid):∃b,P.underlying tid=aa (.array n b)/\Den P e b/\0<e.size:=by
 simp only[Den,gy,gO] at h;have c:=h.1.1;split at c
 {rename_i m b f;simp only[gO] at c;rw[gP c.1.1];exact⟨b,f,c.1.2,by simpa using c.2⟩};cases c
def Den.alw{n e}(h:Den P (.arr n e) tid):P.eqGuardType P.depth tid=false:=by simp only[Den,gy] at h;grind
def Den.pair{a b}(h:Den P (.pair a b) tid):∃e,P.underlying tid=aa (.struct e)/\sJ P (.pair a b) 0 e.toList/\P.eqGuardType P.depth tid=false/\P.stoodInHeld tid=false:=by
 simp only[Den,gy,gO] at h;obtain⟨⟨⟨c,l⟩,g⟩,i⟩:=h;split at c
 {rename_i e j;refine⟨e,j,?_,by simpa using g,by simpa using i⟩;split at c;{rename_i f r k;simp only[sJ,k,gy,Cx];exact c};cases c};cases c
def Den.info{t}(h:Den P t tid):∃i z,P.info? tid=aa i/\i.size=t.size/\i.zero=aa z/\z.cells.toList=gH t:=by induction t with|int k=>simp only[Den,gy,gO] at h;exact kQ h.2|bool=>simp only[Den,gy,gO] at h;exact kQ h.2|str=>simp only[Den,gy,gO] at h;exact kQ h.2|slice e=>simp only[Den,gy,gO] at h;exact kQ h.2|arr n e=>simp only[Den,gy,gO] at h;exact kQ h.1.2|pair a b=>simp only[Den,gy,gO] at h;exact kQ h.1.1.2|unit=>simp[Den,gy] at h|alt u a r f c=>simp only[Den,gy,gO] at h;exact c h.1.1|Cz=>simp only[Den,gy,gO] at h;exact kQ h.2
def Den.Cz(h:Den P .Cz tid):∃b,P.underlying tid=aa (.interface b):=by simp only[Den,gy] at h;grind
def Den.rest{u a r}(h:Den P (.alt u a r) tid):Den P r tid/\P.concrete u=true:=by simp only[Den,gy,gO] at h;exact h.1
def Ty.Mz:∀{t:Ty},t.aeR=true->t.size=1/\t.isAgg=false:=by intro t;induction t with|alt u a r c b=>intro h;exact b h|Cz=>intro h;exact⟨rfl,rfl⟩|_=>intro h;cases h
def Den.aeS{u a r}(_:Den P r tid)(h:Den P (.alt u a r) tid):r.size=1:=by simp only[Den,gy,gO] at h;exact(Ty.Mz h.2).1
def Den.agg{t}(h:Den P t tid) w:(isAgg tid).run P w=.ok t.isAgg w:=by induction t with|alt u a r f g=>exact g h.rest.1|Cz=>(obtain⟨_,c⟩:=h.Cz;unfold Go.isAgg;simp[run_underlying c,Ty.isAgg])|int k=>unfold Go.isAgg;simp[run_underlying h.int,Ty.isAgg]|bool=>unfold Go.isAgg;simp[run_underlying h.bool,Ty.isAgg]|str=>unfold Go.isAgg;simp[run_underlying h.str,Ty.isAgg]|slice e i=>(unfold Go.isAgg;obtain⟨_,c,_⟩:=h.slice;simp[run_underlying c,Ty.isAgg])|arr n e i=>(unfold Go.isAgg;obtain⟨_,c,_⟩:=h.arr;simp[run_underlying c,Ty.isAgg])|pair a b f j=>(unfold Go.isAgg;obtain⟨_,c,_⟩:=h.pair;simp[run_underlying c,Ty.isAgg])|unit=>simp[Den,gy] at h
def Den.sizeOf{t}(h:Den P t tid) w:(Go.sizeOf tid).run P w=.ok t.size w:=by obtain⟨i,z,b,c,_⟩:=h.info;simp[Go.sizeOf,typeInfo,b,c]
def Den.zero{t}(h:Den P t tid) w:∃z,(zeroValue tid).run P w=.ok z w/\z.cells.toList=gH t:=by obtain⟨i,z,b,f,c,e⟩:=h.info;exact⟨z,by simp[zeroValue,typeInfo,b,c],e⟩
def Den.cells{t}(h:Den P t tid):P.cellsOf tid=t.size:=by obtain⟨i,z,b,c,_⟩:=h.info;simp[Program.cellsOf,b,c]
def sJ.cons{a b off c}(h:sJ P (.pair a b) off c) :
  ∃f r,c=f::r/\f.offset=off/\f.name ≠ "_"/\Den P a f.type/\0<a.size/\sJ P b (off+a.size) r:=by
 cases c with|nil=>simp[sJ,gy] at h|cons f r =>simp only[sJ,gy,gO] at h;obtain⟨⟨⟨⟨e,g⟩,i⟩,j⟩,k⟩:=h;exact⟨f,r,rfl,gP e,by simpa using g,i,by simpa using j,k⟩
def sJ.at{t}:∀{off e k u o},sJ P t off e->x5 t k=aa u->iX t k=aa o ->
  ∃f,e[k]?=aa f/\f.offset=off+o/\Den P u f.type/\0<u.size:=by
 induction t with|pair a b i j =>(intro off e k u o h g c;obtain⟨f,r,rfl,m,n,p,q,s⟩:=h.cons;cases k with|zero =>simp only[x5,iX] at g c;grind|succ k =>simp only[x5,iX] at g c;cases l:iX b k with|none=>rw[l] at c;cases c|some v =>grind)|_=>intro off e k u o h g c;cases k<;>simp[x5] at g
end
def EB.cells:EB->List Value|.dat t=>gH t|.buf _ _=>[.slice af 0 0]|.fnc=>[.nilFunc]|_=>[.pointer af]
def MA:List EB->List Value|[]=>[]|f::r=>f.cells++MA r
def ajq:List EB->Nat|[]=>0|f::r=>f.size+ajq r
def QV(P:Program):Nat->List EB->List Field->Bool|_,[],[]=>true|off,f::r,g::s=>Nat.beq g.offset off&&Nat.blt 0 f.size&&(match P.info? g.type with|some i=>Nat.beq i.size f.size|none=>false)&&QV P (off+f.size) r s|_,_,_=>false
def Py(P:Program)(b:TypeId)(c:List EB):Bool :=(match P.underlying b with|some (.struct gs)=>QV P 0 c gs.toList|_=>false)&&ES P b (ajq c) (MA c)
def abX{P tid b}(h:Py P tid b=true) w:∃z,(zeroValue tid).run P w=.ok z w/\z.cells.toList=MA b:=by simp only[Py,gO] at h;obtain⟨i,z,c,g,e,f⟩:=kQ h.2;exact⟨z,by simp[zeroValue,typeInfo,c,e],f⟩
def aeT{P}:∀{b gs off k o},QV P off b gs=true->x6 b k=aa o->∃f i,gs[k]?=aa f/\f.offset=off+o/\P.info? f.type=aa i/\0<i.size:=by intro b;induction b with|nil=>intro gs off k o h c;cases c|cons f r j =>intro gs off k o h c;cases gs with|nil=>cases h|cons g s =>simp only[QV,gO] at h;obtain⟨⟨⟨l,m⟩,e⟩,n⟩:=h;cases k with|zero =>(obtain rfl:=aI c;split at e;{simp_all};cases e)|succ k =>simp only[x6] at c;grind
def ahH{P tid c k o}(h:Py P tid c=true)(e:x6 c k=aa o):∃(gs:Array Field) (f:Field) (i:TypeInfo),P.underlying tid=aa (.struct gs)/\gs.toList[k]?=aa f/\f.offset=o/\P.info? f.type=aa i/\0<i.size:=by
 simp only[Py,gO] at h;obtain⟨b,_⟩:=h;split at b
 {rename_i gs g;obtain⟨f,i,j,l,m,n⟩:=aeT b e;grind};cases b
def GI{P}:∀{b gs off},QV P off b gs=true->∃c,gs.mapM (λf=>(P.info? f.type).map λi=>(f.offset,i.size))=aa c /\
  ∀k o f,x6 b k=aa o->b[k]?=aa f->c[k]?=aa (off+o,f.size):=by
 intro b;induction b with|nil =>(intro gs off h;cases gs with|nil=>exact⟨[],rfl,λk o f _ l=>by cases l⟩|cons g s=>cases h)|cons f r m =>intro gs off h;cases gs with|nil=>cases h|cons g s =>simp only[QV,gO] at h;obtain⟨⟨⟨u,v⟩,e⟩,n⟩:=h;obtain⟨c,p,x⟩:=m n;split at e;{rename_i i t;refine⟨(g.offset,i.size)::c,by simp[t,p],λk o q j y=>?_⟩;cases k with|zero =>(obtain rfl:=aI j;simp_all)|succ k =>simp only[x6] at j;grind};cases e
structure ga (P:Program) (cx:Ctx):Prop where
 T:∀tid t,find cx.T tid=aa t->Den P t tid
 vP:∀tid,dm cx.vP tid=true->(∀w,(isAgg tid).run P w=.ok false w)/\(∀w,(Go.sizeOf tid).run P w=.ok 1 w)/\∃z,(∀w,(zeroValue tid).run P w=.ok z w)/\z.oneCell'=true
 EC:∀tid,dm cx.EC tid=true->∃e,P.underlying tid=aa (.pointer e)
 fns:∀f fn,find cx.fns f=aa fn->P.funcs[f]?=aa fn
 w9:∀tid fs,find cx.w9 tid=aa fs->Py P tid fs=true
 els:∀tid e,find cx.els tid=aa e->P.underlying tid=aa (.slice e)
def j7{o t}(h:Ij o t=true):o=aa t:=by
 unfold Ij at h;split at h
 {rw[Ty.eq_of_beq h]};cases h
def addr_add b o n:Addr.add ⟨b,o,af⟩ n=⟨b,o+n,af⟩:=by unfold Addr.add;split<;>simp_all
def ba(l:List Value)(b:Nat)(c:List Value):List Value:=l.take b++c++l.drop (b+c.length)
def bQ{l c off}(h:off+c.length<=l.length):(ba l off c).length=l.length:=by simp[ba];omega
def nY.same{cur cur' b}(h:nY cur b)(c:cur'.size=cur.size):nY cur' b:=λo e=>h o ah
section
variable {P:Program}
def ThB.same{e cur cur' b}(h:ThB e cur b)(c:cur'.size=cur.size):ThB e cur' b:=⟨h.th.same c,λf=>by rw[c];exact h.um f⟩
def dB g o t f:∀l i b w,w.heap[g]?=aa (.cells b t f)->nY b f ->
  o+i+l.length<=b.size->(∀v∈l,v.oneCell'=true)->(storeCells ⟨g,o,af⟩ l i).run P w=.ok () (w.setRow g (ba b.toList (o+i) l).toArray)
 | [],i,b,w,h,_,_,_=>by simp only[storeCells,ba,uC,qv,Gr,Gp,Array.toArray_toList];rw[setRow_self w g b t f h];rfl
 | v::rest,i,b,w,h,j,n,p=>by (have hi:o+i<b.size:=by simp at n;omega);(have c:w.cell? ⟨g,o+i,af⟩=aa b[o+i]:=by simp[World.cell?,h]);(have k:w.frozen? ⟨g,o+i,af⟩=false:=by have:=j _ hi;simp only[World.frozen?];grind);(have m:(store ((⟨g,o,af⟩:Addr).add i) v).run P w=.ok () (w.setRow g<|b.setIfInBounds (o+i) v):=by rw[addr_add,run_store P w _ v _ (p v aT),c];simp[k,setCell_eq_setRow w g _ b t f v h]);simp only[storeCells,Sem.run_bind,m,Result.andThen_ok,(dB g o t f rest (i+1) (b.setIfInBounds (o+i) v) _ (setRow_heap w g b _ t _ h) (j.same aT) (by simp at n⊢;omega) λx q=>p x (by simp[q])),setRow_setRow];congr 3;have e:=list_seg_step b.toList _ v rest ah;simpa [ba,Fo] using e
def cell_of_heap{w:World}{g cur t b}(c:w.heap[g]?=aa (.cells cur t b)) j:w.cell? ⟨g,j,af⟩=cur[j]?:=by simp[World.cell?,c]
def EE{w g off n cur t c}(e:w.heap[g]?=aa (.cells cur t c))(h:off+n<=cur.size) :
  (loadCells ⟨g,off,af⟩ n).run P w=.ok ((cur.toList.drop off).take n).toArray w:=by
 have:=run_loadCells_list (P:=P) w ⟨g,off,af⟩ ((cur.toList.drop off).take n) (λj v b=>by rw[addr_add,cell_of_heap e];rw[kn] at b;split at b;{grind};cases b)
 grind
def Is{w I g off cs}(h:GF w I g off cs):(loadCells ⟨g,off,af⟩ cs.length).run P w=.ok cs.toArray w :=run_loadCells_list w ⟨g,off,af⟩ cs (λj v b=>by rw[addr_add];exact(h j v b).1)
end
def ja{a b:Nat}(h:a≠b):Nat.beq a b=false:=by
 cases c:Nat.beq a b
 {rfl};simp_all
def aeU(a:Act) d t v (hd:d<a.tmps.size):(a.put (aa d) v).tmps.getD t undef=if t=d then v else a.tmps.getD t undef:=by simp only[Act.put,Yb];grind
def Vk(a:Act)(d:Option Nat) v:(a.put d v).tmps.size=a.tmps.size:=by cases d<;>simp[Act.put]
def put_defers(a:Act)(d:Option Nat) v:(a.put d v).defers=a.defers:=by cases d<;>rfl
section
variable {B:CG} {N:Nat} {γ bF:Gh} {σ:St} {a:Act} {w w':World} {mem':Nat->Option eF}
def dG.step(h:dG B N γ σ a w)(b:Ext B γ σ.mem w bF mem' w')(c:bH B bF mem' w'){d}(f:d<N){v val}(g:cQ bF mem' w' v .val [val]) :
  dG B N bF ({ bj:=σ.bj,mem:=mem':St }.put d v) (a.put (aa d) val) w' where
 bj:=λt=>by
  rw[aeU a d t val<|by rw[h.size];exact f];simp only[St.put];by_cases e:t=d;{simp_all};rw[aK e,ja e];exact(h.bj t).ext b
 size:=by rw[Vk];exact h.size
 defers:=by exact h.defers
 ok:=c
def dG.go(h:dG B N γ σ a w)(b:Ext B γ σ.mem w bF mem' w')(c:bH B bF mem' w'):dG B N bF { bj:=σ.bj,mem:=mem' } a w' where
 bj:=λt=>(h.bj t).ext b
 size:=h.size
 defers:=h.defers
 ok:=c
def dG.bu(h:dG B N γ σ a w)(b:Ext B γ σ.mem w bF mem' w')(c:bH B bF mem' w'){d}(e:∀k,d=aa k->k<N){v val}(f:cQ bF mem' w' v .val [val]) :
  dG B N bF ({ bj:=σ.bj,mem:=mem':St }.bu d v) (a.put d val) w':=by
 cases d with|none=>exact h.go b c|some d=>exact h.step b c (e d rfl) f
def dG.ya(h:dG B N γ σ a w){d}(b:∀k,d=aa k->k<N){v val}(c:cQ γ σ.mem w v .val [val]) : dG B N γ (σ.bu d v) (a.put d val) w:=h.bu (Ext.refl _ _ _ _) h.ok b c
end
def et{γ mem w t x v}:cQ γ mem w (.data t x) .val [v]↔∃cs,bL w γ.I t x cs/\v=df t cs:=by simp only[cQ,aes,U7]
def abY γ mem w v:cQ γ mem w (Mp v) .val [v]:=by
 unfold Mp;split
 .rename_i k n;cases c:(decide (k.min<=n)&&decide (n<=k.max));{exact⟨_,rfl⟩};simp at c;exact⟨[.int k n],⟨rfl,c.1,c.2⟩,rfl⟩
 .rename_i b;exact⟨[.bool b],rfl,rfl⟩
 .rename_i s;cases c:Nat.ble s.data.toList.length 4294967296;{exact⟨_,rfl⟩};refine⟨[.string s],⟨?_,?_⟩,rfl⟩;{grind};have:=KF c;simp only[maxLen];omega
 .rfl
 .rfl
 {rfl};exact⟨_,rfl⟩
def dG.dd{B N γ σ a w}(h:dG B N γ σ a w) x:cQ γ σ.mem w (dd σ x) .val [a.eval x]:=by cases x with|tmp t=>exact h.bj t|const v=>exact abY _ _ _ v|global g=>exact⟨_,rfl⟩|func f=>exact⟨#[],rfl,rfl,λi b c e=>by simp at e⟩
def cQ.kp{γ mem w v x}(h:cQ γ mem w v .val [x])(O:∀u,v≠.Ct u)(K:v=.undef->x.oneCell'=true):cQ γ mem w v .cells x.cells.toList:=by
 cases v with
 | undef=>exact⟨x,by cases x<;>first|rfl|(have:=K rfl;simp[Value.oneCell'] at this),K rfl⟩
 | data t y=>obtain⟨L,g,i⟩:=et.1 h;subst i;rw[vd g];exact g
 | qw=>obtain rfl:x=_:=by simpa [cQ] using h
       rfl
 | vN=>obtain rfl:x=_:=by simpa [cQ] using h
       rfl
 | vO=>obtain rfl:x=_:=by simpa [cQ] using h
       rfl
 | za b aR=>obtain⟨⟨v,g,i⟩,o⟩:=h;simp at g;subst g;refine⟨⟨x,?_,i⟩,?_⟩
            .cases x<;>first|rfl|(simp[Value.oneCell'] at i)
            .obtain⟨s,z,A,C⟩:=o;exact⟨s,z,A,λe=>by obtain⟨m,j,D,l⟩:=C e;refine⟨m,j,D,?_⟩;rcases l with l|l;{simp at l;subst l;exact .inl rfl};simp at l;subst l;exact .inr rfl⟩
 | cell t y=>obtain⟨m,H,L,g,i,o⟩:=h;simp at g;subst g;exact⟨m,H,L,rfl,i,o⟩
 | ptr b aR p=>obtain⟨⟨v,g,i⟩,o⟩:=h;simp at g;subst g;refine⟨⟨x,?_,i⟩,?_⟩
               .cases x<;>first|rfl|(simp[Value.oneCell'] at i)
               .obtain⟨s,z,A,C⟩:=o;exact⟨s,z,A,λe=>by obtain⟨m,j,D,l⟩:=C e;simp at l;subst l;exact⟨m,j,D,rfl⟩⟩
 | whole b aR=>obtain⟨⟨v,g,i⟩,o⟩:=h;simp at g;subst g;refine⟨⟨x,?_,i⟩,?_⟩
               .cases x<;>first|rfl|(simp[Value.oneCell'] at i)
               .obtain⟨s,z,A,C⟩:=o;exact⟨s,z,A,λe=>by obtain⟨u,n,D,l,E⟩:=C e;refine⟨u,n,D,l,?_⟩;rcases E with ⟨E,F⟩|⟨m,j,E,F⟩;{simp at F;subst F;exact .inl ⟨E,rfl⟩};simp at F;subst F;exact .inr ⟨m,j,E,rfl⟩⟩
 | part b aR lo n=>obtain⟨⟨v,g,i⟩,o⟩:=h;simp at g;subst g;refine⟨⟨x,?_,i⟩,?_⟩
                   .cases x<;>first|rfl|(simp[Value.oneCell'] at i)
                   .obtain⟨s,z,A,C⟩:=o;exact⟨s,z,A,λe=>by obtain⟨u,k,D,l,E,F,r,j,G,I⟩:=C e;simp at G;subst G;exact⟨u,k,D,l,E,F,r,j,rfl,I⟩⟩
 | win b aR q e k lo n=>obtain⟨⟨v,g,i⟩,o⟩:=h;simp at g;subst g;refine⟨⟨x,?_,i⟩,?_⟩
                        .cases x<;>first|rfl|(simp[Value.oneCell'] at i)
                        .obtain⟨s,z,A,C⟩:=o;exact⟨s,z,A,λe=>by obtain⟨Q,u,c,D,l,E,F,r,j,G,I⟩:=C e;simp at G;subst G;exact⟨Q,u,c,D,l,E,F,r,j,rfl,I⟩⟩
 | fn f M=>obtain⟨J,g,i⟩:=h;simp at g;subst g;exact⟨J,rfl,i⟩
 | mix p q=>obtain⟨R,S,g,i,o⟩:=h;simp at g;subst g;exact⟨R,S,by simp[Value.cells],i,o⟩
 | Ct u=>exact absurd rfl (O u)
 | nl=>exact h.elim
def cQ.length{γ mem w}:∀{v cs},cQ γ mem w v .cells cs->cs.length=dX v:=by intro v;induction v with|data t x=>intro cs h;exact bL.length h|mix a b c g=>(intro cs h;obtain⟨m,o,rfl,j,l⟩:=h;rw[iU,c j,g l];rfl)|undef=>(intro cs h;obtain⟨v,rfl,_⟩:=h;rfl)|qw=>intro cs h;rw[show cs=_ from h];rfl|vN=>intro cs h;rw[show cs=_ from h];rfl|vO=>intro cs h;rw[show cs=_ from h];rfl|za b aR=>(intro cs h;obtain⟨⟨_,rfl,_⟩,_⟩:=h;rfl)|cell t x=>(intro cs h;obtain⟨_,_,_,rfl,_⟩:=h;rfl)|ptr b aR p=>(intro cs h;obtain⟨⟨_,rfl,_⟩,_⟩:=h;rfl)|whole b aR=>(intro cs h;obtain⟨⟨_,rfl,_⟩,_⟩:=h;rfl)|part b aR lo n=>(intro cs h;obtain⟨⟨_,rfl,_⟩,_⟩:=h;rfl)|win b aR q e k lo n=>(intro cs h;obtain⟨⟨_,rfl,_⟩,_⟩:=h;rfl)|fn f i=>(intro cs h;obtain⟨_,rfl,_⟩:=h;rfl)|Ct u r=>intro cs h;exact h.elim|nl=>intro cs h;exact h.elim
def cQ.one{γ mem w}:∀{v cs},cQ γ mem w v .cells cs->∀c∈cs,c.oneCell'=true:=by intro v;induction v with|data t x=>intro cs h;exact bL.one h|mix a b l m =>(intro cs h c g;obtain⟨o,r,rfl,i,s⟩:=h;grind)|undef=>(intro cs h c g;obtain⟨v,rfl,i⟩:=h;simp at g;subst g;exact i)|qw=>intro cs h c g;rw[show cs=_ from h] at g;simp at g;subst g;rfl|vN=>intro cs h c g;rw[show cs=_ from h] at g;simp at g;subst g;rfl|vO=>intro cs h c g;rw[show cs=_ from h] at g;simp at g;subst g;rfl|za b aR=>(intro cs h c g;obtain⟨⟨_,rfl,i⟩,_⟩:=h;simp at g;subst g;exact i)|cell t x=>(intro cs h c g;obtain⟨_,_,_,rfl,_⟩:=h;simp at g;subst g;rfl)|ptr b aR p=>(intro cs h c g;obtain⟨⟨_,rfl,i⟩,_⟩:=h;simp at g;subst g;exact i)|whole b aR=>(intro cs h c g;obtain⟨⟨_,rfl,i⟩,_⟩:=h;simp at g;subst g;exact i)|part b aR lo n=>(intro cs h c g;obtain⟨⟨_,rfl,i⟩,_⟩:=h;simp at g;subst g;exact i)|win b aR q e k lo n=>(intro cs h c g;obtain⟨⟨_,rfl,i⟩,_⟩:=h;simp at g;subst g;exact i)|fn f j=>(intro cs h c g;obtain⟨_,rfl,_⟩:=h;simp at g;subst g;rfl)|Ct u y=>intro cs h;exact h.elim|nl=>intro cs h;exact h.elim
def vT{α}{l:List α}{i x}(h:idx l i=aa x):0<=i/\l[i.toNat]?=aa x:=by unfold idx at h;grind
def Fx{w I}:∀{t x cs k o u},bL w I t x cs->zL t x k=aa (o,u) ->
  ∃(c:Ty) (y:c.den),u=.data c y/\x5 t k=aa c/\iX t k=aa o/\o+c.size<=cs.length/\bL w I c y ((cs.drop o).take c.size):=by
 intro t;induction t with|pair a b j g =>(intro x cs k o u h e;obtain⟨s,v,rfl,f,l⟩:=h;cases k with|zero =>(obtain⟨rfl,rfl⟩:=e;refine⟨a,x.1,rfl,rfl,rfl,by rw[iU,f.length];omega,?_⟩;rw[EA,<-f.length,U0];exact f)|succ k =>simp only[zL] at e;cases i:zL b x.2 k with|none=>rw[i] at e;cases e|some r =>rw[i] at e;obtain⟨rfl,rfl⟩:=e;obtain⟨c,y,m,n,p,z,q⟩:=g l i;refine⟨c,y,m,n,by simp[iX,p],by rw[iU,f.length];omega,?_⟩;rw[<-f.length,<-A7,Ml];exact q)|_=>intro x cs k o u h e;cases k<;>simp[zL] at e
def As{γ mem w}:∀{v cs k o u},cQ γ mem w v .cells cs->wR v k=aa (o,u) ->
  o+dX u<=cs.length/\cQ γ mem w u .cells ((cs.drop o).take<|dX u):=by
 intro v;induction v with|data t x =>(intro cs k o u h c;obtain⟨m,y,rfl,_,_,e,f⟩:=Fx h c;exact⟨e,f⟩)|mix a b j g =>(intro cs k o u h c;obtain⟨n,p,rfl,e,f⟩:=h;cases k with|zero =>(obtain⟨rfl,rfl⟩:=c;refine⟨by rw[iU,e.length];omega,?_⟩;rw[EA,<-e.length,U0];exact e)|succ k =>simp only[wR] at c;cases i:wR b k with|none=>rw[i] at c;cases c|some r =>rw[i] at c;obtain⟨rfl,rfl⟩:=c;obtain⟨q,l⟩:=g f i;refine⟨by rw[iU,e.length];omega,?_⟩;rw[<-e.length,<-A7,Ml];exact l)|_=>intro cs k o u h c;cases k<;>simp[wR] at c
def LJ{γ mem w t v z es}(h:toS t v=aa z)(b:cQ γ mem w v .cells es):bL w γ.I t z es:=by cases v with|data u y =>(obtain⟨e,c⟩:=Ty.my h;subst e;subst c;exact b)|_=>cases h
def bind_some{α β}{t:Tree α}{f:α->Tree β}{y}(h:(t.bind f).run=aa y):∃x,t.run=aa x/\(f x).run=aa y:=by rw[Tree.run_bind] at h;exact Co.1 h
def ck{T α o}{k:T->Tree α}{y}(h:(Tree.look o k).run=aa y):∃x,o=aa x/\(k x).run=aa y:=by cases o with|none=>cases h|some x=>exact⟨x,rfl,h⟩
def cX{α c}{t:Tree α}{y}(h:(Tree.jU c t).run=aa y):c=true/\t.run=aa y:=by cases c with|false=>cases h|true=>exact⟨rfl,h⟩
def aA{α c}{t:Tree α}{y}(h:(bif c then t else .fail).run=aa y):c=true/\t.run=aa y:=by cases c with|false=>cases h|true=>exact⟨rfl,h⟩
def gV{α c}{t e:Tree α}{y}(h:(Tree.node c t e).run=aa y):(bif c then t else e).run=aa y:=by cases c<;>exact h
section
variable {γ:Gh} {mem:Nat->Option eF} {w:World}
def Vl:∀{t x cs k o u y f es},
  bL w γ.I t x cs->zL t x k=aa (o,u)->(∀v,(f u).run=aa v->cQ γ mem w v .cells es)->(SC t x k f).run=aa y->es.length=dX u ->bL w γ.I t y (ba cs o es):=by
 intro t;induction t with|pair a b s g =>(intro x cs k o u y f es h c m hs i;obtain⟨n,p,rfl,j,q⟩:=h;cases k with|zero =>(obtain⟨rfl,rfl⟩:=c;obtain⟨v,l,hs⟩:=bind_some hs;cases hv:toS a v with|none=>rw[hv] at hs;cases hs|some z =>rw[hv] at hs;obtain rfl:=aI hs;simp only[dX] at i;refine⟨es,p,?_,LJ hv (m v l),q⟩;simp only[ba,aew,Mj,Cx];rw[show es.length=n.length by rw[i,j.length],Ml])|succ k =>simp only[zL] at c;cases e:zL b x.2 k with|none=>rw[e] at c;cases c|some r =>rw[e] at c;obtain⟨rfl,rfl⟩:=c;obtain⟨z,A,hs⟩:=bind_some hs;obtain rfl:=aI hs;have:=g q e m A i;refine⟨n,ba p r.1 es,?_,j,this⟩;simp only[ba,<-j.length,aea,xW];rw[Fo,<-A7,Ml])|_=>intro x cs k o u y f es h c;cases k<;>simp[zL] at c
def Be:∀{i cs k o u c f es},
  cQ γ mem w i .cells cs->wR i k=aa (o,u)->(∀v,(f u).run=aa v->cQ γ mem w v .cells es)->(Fq i k f).run=aa c->es.length=dX u ->cQ γ mem w c .cells (ba cs o es):=by
 intro i;induction i with|data t x =>(intro cs k o u c f es h e j hs l;obtain⟨y,C,hs⟩:=bind_some hs;obtain rfl:=aI hs;exact Vl h e j C l)|mix a b D m =>(intro cs k o u c f es h e j hs l;obtain⟨q,s,rfl,n,A⟩:=h;cases k with|zero =>(obtain⟨rfl,rfl⟩:=e;obtain⟨v,p,hs⟩:=bind_some hs;obtain rfl:=aI hs;refine⟨es,s,?_,(j v p),A⟩;simp only[ba,aew,Mj,Cx];rw[show es.length=q.length by rw[l,n.length],Ml])|succ k =>simp only[wR] at e;cases g:wR b k with|none=>rw[g] at e;cases e|some r =>rw[g] at e;obtain⟨rfl,rfl⟩:=e;obtain⟨z,E,hs⟩:=bind_some hs;obtain rfl:=aI hs;have:=m A g j E l;refine⟨q,ba s r.1 es,?_,n,this⟩;simp only[ba,<-n.length,aea,xW];rw[Fo,<-A7,Ml])|_=>intro cs k o u c f es h e;cases k<;>simp[wR] at e
def zc:∀{p v u cs},cQ γ mem w v .cells cs->(nav p v).run=aa u->er p+dX u<=cs.length/\cQ γ mem w u .cells ((cs.drop<|er p).take<|dX u):=by intro p;induction p with|nil =>(intro v u cs h hn;obtain rfl:=aI hn;have g:=h.length;refine⟨by simp[er];omega,?_⟩;rw[show er []=0 from rfl,EA,<-g,zJ];exact h)|cons s p q =>intro v u cs h hn;cases s with|gR k off =>(simp only[nav] at hn;cases j:wR v k with|none=>rw[j] at hn;cases hn|some r =>rw[j] at hn;obtain⟨m,b⟩:=aA hn;obtain⟨E,t⟩:=As h j;obtain⟨z,c⟩:=q t b;have g:=t.length;simp only[er,<-(gP m)];refine⟨ah,?_⟩;rw[aau,Pw,A7,xY ah] at c;exact c)|idx i size =>simp only[nav] at hn;split at hn;{(rename_i n e l;obtain⟨m,b⟩:=aA hn;obtain⟨x,A,o⟩:=ck b;obtain⟨F,f⟩:=vT A;obtain⟨G,H,C⟩:=h;have y:=C _ x f;obtain⟨z,c⟩:=q (v:=.data e x) y o;have g:=y.length;have hi:i.toNat<n:=by have:=(iQ.1 f).1;omega);have D:_*e.size<=n*e.size:=ic _ hi;rw[KJ] at D;simp only[er,(gP m)];refine⟨ah,?_⟩;rw[aau,Pw,A7,xY ah] at c;exact c};cases hn
def ve cs a b n es (h:b+es.length<=n) (hn:a+n<=cs.length) :
  ba cs a (ba ((cs.drop a).take n) b es)=ba cs (a+b) es:=by
 have e:((cs.drop a).take n).length=n:=cR;have c:(ba ((cs.drop a).take n) b es).length=n:=by rw[bQ ah,e]
 have f:ba cs a (ba ((cs.drop a).take n) b es)=cs.take a++ba ((cs.drop a).take n) b es++cs.drop (a+n):=by rw[ba,c]
 rw[f];simp only[ba,xW];rw[Pw,xY ah,<-xW,<-List.take_add];have:cs.drop (a+n)=(cs.drop a).drop n:=by rw[A7]
 rw[this,<-abR (by rw[e];exact h),Gp,A7,Fo]
def MB{I e n}{l:List e.den}{cs es i y}(r:l.length=n)(s:n*e.size<=cs.length)
  (h:∀j x,l[j]?=aa x->bL w I e x ((cs.drop<|j*e.size).take e.size)) (k:i<n) (m:bL w I e y es) : ∀j x,(l.set i y)[j]?=aa x->bL w I e x (((ba cs (i*e.size) es).drop<|j*e.size).take e.size):=by
 intro j x b;have o:=m.length;have t:_*e.size<=n*e.size:=ic _ k;rw[List.getElem?_set] at b;split at b
 .rename_i c;split at b
  .obtain rfl:=aI b;have:((ba cs (i*e.size) es).drop<|i*e.size).take e.size=es:=by
    rw[ba];grind
   grind
  cases b
 .rename_i c;have p:j<n:=by have:=(iQ.1 b).1;omega
  have f:_*e.size<=n*e.size:=ic _ p;rw[KJ] at f;have key:((ba cs (i*e.size) es).drop<|j*e.size).take e.size=(cs.drop<|j*e.size).take e.size:=by apply KH;intro q;rw[kn,kn];split;{rename_i u;rw[vM,vM,ba];rcases ug j i with g|g;{have:_*e.size<=i*e.size:=ic _ g;grind};have:(i+1)*e.size<=j*e.size:=ic _ ah;grind};rfl
  grind
def Bf:∀{p v D u c cs es},cQ γ mem w v .cells cs->(nav p v).run=aa D->(A8 p v u).run=aa c->cQ γ mem w u .cells es->es.length=dX D ->
  cQ γ mem w c .cells (ba cs (er p) es):=by
 intro p;induction p with|nil =>(intro v D u c cs es h hn hs F o;obtain rfl:=aI hn;obtain rfl:=aI hs;have:=h.length;simp only[er,ba];grind)|cons s p M =>intro v D u c cs es h hn hs F o;cases s with|gR k off =>(simp only[nav] at hn;cases E:wR v k with|none=>rw[E] at hn;cases hn|some r =>rw[E] at hn;obtain⟨G,b⟩:=aA hn;obtain⟨T,H⟩:=As h E;obtain⟨q,U⟩:=zc H b;have j:=H.length;rw[j] at q;have:=Be (f:=λw=>A8 p w u) h E (λz I=>M H b I F o) hs (by rw[bQ<|by rw[j,o];exact q,j]);rw[ve cs r.1 _ _ es ah T,(gP G)] at this;exact this)|idx i size =>simp only[nav] at hn;split at hn;{rename_i n e l;obtain⟨G,b⟩:=aA hn;obtain⟨x,O,t⟩:=ck b;obtain⟨V,J,K⟩:=ck hs;obtain rfl:x=V:=aI (O.symm.trans J);obtain⟨z,I,g⟩:=bind_some K;cases L:toS e z with|none=>rw[L] at g;cases g|some y =>(rw[L] at g;obtain rfl:=aI g;obtain⟨Z,A⟩:=vT O;obtain⟨Q,W,R⟩:=h;have S:=R _ x A;have hi:i.toNat<n:=by have:=(iQ.1 A).1;omega);(have X:_*e.size<=n*e.size:=ic _ hi;rw[KJ] at X;have C:cQ γ mem w (.data e x) .cells _:=S;obtain⟨q,U⟩:=zc C t;have m:=S.length;rw[m] at q;have Y:(ba ((cs.drop<|i.toNat*e.size).take e.size) (er p) es).length=e.size:=by rw[bQ<|by rw[m,o];exact q,m]);simp only[er,(gP G)];rw[<-(ve cs _ _ e.size es ah ah)];refine⟨(@List.length_set _ l _ _).trans Q,?_,MB Q ah R hi (LJ L<|M C t I F o)⟩;rw[bQ ah];exact W};cases hn
end
open RowKit
section
variable {B:CG} {γ bF:Gh} {mem mem':Nat->Option eF} {w w':World}
def eL.keep{c p}(h:eL γ mem w c p)(q:Ext B γ mem w bF mem' w')(r:bF.loc c=γ.loc c)
  (v:∀b k,γ.loc c=aa (b,k)->w'.heap[b]?=w.heap[b]?):eL bF mem' w' c p:=by
 unfold eL at h⊢;cases g:p.buf with|true =>(rw[g] at h;obtain⟨e,l,y,z,f⟩:=h;refine⟨e,l,y,z,?_⟩;rcases f with ⟨f,n⟩|⟨b,j,m,tid,s,f,n,t,o,u,A,C,D⟩;{exact .inl ⟨r.trans f,n⟩};exact .inr ⟨b,j,m,tid,s,r.trans f,(v _ _ f).trans n,t,o,u,A,C,λi x E=>bL.mono q.I q.cells (D i x E)⟩)|false =>rw[g] at h;obtain⟨b,j,m,tid,s,f,n,t,F,u⟩:=h;exact⟨b,j,m,tid,s,r.trans f,(v _ _ f).trans n,t,F,u.ext q⟩
def dM{a}(h:w'.heap[a.block]?=w.heap[a.block]?):w'.cell? a=w.cell? a:=by simp[World.cell?,h]
def bR(c:Gh)(b:Nat)(L:Option (Nat×Nat)):Gh:={ c with loc:=λi=>if i=b then L else c.loc i }
def dy(c:Nat->Option eF)(b:Nat)(bx:eF):Nat->Option eF:=λi=>bif Nat.beq i b then aa bx else c i
def bE b bx:dy mem b bx b=aa bx:=by simp[dy]
def aZ{b c} e (h:c≠b):dy mem b e c=mem c:=by simp[dy,ja h]
def xd(h:bH B γ mem w){b bx L}(f:∀g,mem b=aa g->g.aR<bx.aR)
  (m:xc B w w') (i:∀k,k<w.heap.size->w'.heap[k]?=w.heap[k]?):Ext B γ mem w (bR γ b L) (dy mem b bx) w' where
 below:=m
 I:=λ_ _ x=>x
 sI:=λ_ _ x=>.inl x
 cells:=λj o x=>dM (i j<|h.vQ j o x)
 boxes:=λc cx l=>by
  by_cases e:c=b
  .subst e;refine⟨bx,bE _ _,Nat.le_of_lt (f _ l),λe=>absurd e ?_⟩;have:=f _ l;omega
  .exact⟨cx,by rw[aZ _ e];exact l,b0 _,λ_=>⟨by simp[bR,e],rfl,rfl⟩⟩
def bH.add(h:bH B γ mem w){b bx L}(m:∀p,mem b=aa p->p.aR<bx.aR)
  (q:xc B w w') (j:∀k,k<w.heap.size->w'.heap[k]?=w.heap[k]?) (r:∀f k,L=aa (f,k)->w.heap.size<=f/\f<w'.heap.size) (u:eL (bR γ b L) (dy mem b bx) w' b bx):bH B (bR γ b L) (dy mem b bx) w' where
 vR:=h.GG (xd (L:=L) h m q j)
 base:=fB h.base q.size
 boxes:=λc cx g=>by by_cases e:c=b;{subst e;rw[bE] at g;obtain rfl:=aI g;exact u};rw[aZ _ e] at g;refine(h.boxes c cx g).keep (xd h m q j) (by simp[bR,e]) λf k x=>j f (h.fresh c f k (by rw[g];simp) x).2
 inj:=λc d f k v g s i n=>by by_cases e:c=b;{by_cases o:d=b;{rw[e,o]};exfalso;simp only[bR,aQ e] at i;simp only[bR,aK o] at n;rw[aZ _ o] at s;have:=(h.fresh d f v s n).2;have:=(r _ _ i).1;omega};by_cases o:d=b;{exfalso;simp only[bR,aK e] at i;simp only[bR,aQ o] at n;rw[aZ _ e] at g;have:=(h.fresh c f k g i).2;have:=(r _ _ n).1;omega};simp only[bR,aK e] at i;simp only[bR,aK o] at n;rw[aZ _ e] at g;rw[aZ _ o] at s;exact h.inj c d f k v g s i n
 fresh:=λc f k g i=>by
  by_cases e:c=b
  .simp only[bR,aQ e] at i;obtain⟨n,y⟩:=r _ _ i;exact⟨.inl (by have:=h.base;omega),y⟩
  .simp only[bR,aK e] at i;rw[aZ _ e] at g;have:=h.fresh c f k g i;exact⟨this.1,Ai this.2 q.size⟩
 vQ:=λf l t=>Ai (h.vQ f l t) q.size
 sep:=λc cx f k l g i t=>by
  by_cases e:c=b
  .exfalso;simp only[bR,aQ e] at i;have:=(r _ _ i).1;have:=h.vQ f l t;omega
  .simp only[bR,aK e] at i;rw[aZ _ e] at g;exact h.sep c cx f k l g i t
def dh(w:World) o:∀k,k<w.heap.size->(w.alloc o).heap[k]?=w.heap[k]?:=λk b=>Below.heap_alloc w o k b
def vU cs:nY cs (0,0):=λo _ h=>ah
def yb e cs:ThB e cs (0,0):=⟨vU cs,λ_ h=>ah⟩
def bH.newVar(h:bH B γ mem w){b v tid aR}(c:∀f,mem b=aa f->f.aR<aR){cs} g (i:tid=0\/g=tid) (hv:cQ γ mem w v .cells cs.toList) :
  let bx:eF:={ val:=v,tid,buf:=false,ro:=false,lk:=false,aR }
  bH B (bR γ b<|some (w.heap.size,0)) (dy mem b bx) (w.alloc<|.cells cs g)/\Ext B γ mem w (bR γ b<|some (w.heap.size,0)) (dy mem b bx) (w.alloc<|.cells cs g):=by
 intro bx;have j:xc B w (w.alloc<|.cells cs g):=(xc.refl _ _).alloc h.base _;have hx:=xd (L:=aa (w.heap.size,0)) h (bx:=bx) c j (dh w _);refine⟨h.add c j (dh w _) (λl k e=>by obtain⟨rfl,rfl⟩:=eX (aI e);exact⟨b0 _,aT⟩) ?_,hx⟩;exact⟨w.heap.size,0,cs,g,_,by simp[bR],heap_alloc_new w _,vU cs,i,hv.ext hx⟩
def bH.aeV(h:bH B γ mem w){b e}{l:List e.den}{tid aR cap blk}(f:∀m,mem b=aa m->m.aR<aR){cs o p}(v:0<e.size)
  (u:xc B w w') (g:∀k,k<w.heap.size->w'.heap[k]?=w.heap[k]?) (r:w.heap.size<=blk) (j:w'.heap[blk]?=aa (.cells cs o p)) (s:ThB e cs p) (n:tid=0\/o=tid) (y:l.length<=cap) (z:cap<=maxLen) (A:cs.size=cap*e.size) (C:∀i x,l[i]?=aa x->bL w' γ.I e x ((cs.toList.drop<|i*e.size).take e.size)) : let t:eF:={ val:=.data (.slice e) l,tid,buf:=true,ro:=false,lk:=false,aR }
  bH B (bR γ b<|some (blk,cap)) (dy mem b t) w'/\Ext B γ mem w (bR γ b<|some (blk,cap)) (dy mem b t) w':=by
 intro t;refine⟨h.add f u g (λc k q=>by obtain⟨rfl,rfl⟩:=eX (aI q);exact⟨r,((xU.1 j).1)⟩) ?_,(xd h f u g)⟩;exact⟨e,l,rfl,v,.inr ⟨blk,cap,cs,o,p,by simp[bR],j,s,n,y,z,A,C⟩⟩
def bH.MC(h:bH B γ mem w){b e}{l:List e.den}{tid aR cap}(f:∀g,mem b=aa g->g.aR<aR){cs p r}(s:0<e.size)
  (t:xc B w w') (c:∀k,k<w.heap.size->w'.heap[k]?=w.heap[k]?) (j:w'.heap[w.heap.size]?=aa (.cells cs p r)) (n:ThB e cs r) (m:tid=0\/p=tid) (u:l.length<=cap) (v:cap<=maxLen) (y:cs.size=cap*e.size) (z:∀i x,l[i]?=aa x->bL w γ.I e x ((cs.toList.drop<|i*e.size).take e.size)) : let bx:eF:={ val:=.data (.slice e) l,tid,buf:=true,ro:=false,lk:=false,aR }
  bH B (bR γ b<|some (w.heap.size,cap)) (dy mem b bx) w'/\Ext B γ mem w (bR γ b<|some (w.heap.size,cap)) (dy mem b bx) w' :=h.aeV f s t c (b0 _) j n m u v y λi x A =>bL.mono (λ_ _ q=>q) (λblk o q=>dM (c blk<|h.vQ blk o q)) (z i x A)
def bH.MD(h:bH B γ mem w){b e tid aR}(c:∀f,mem b=aa f->f.aR<aR)(i:0<e.size) :
  let g:eF:={ val:=.data (.slice e) ([]),tid,buf:=true,ro:=false,lk:=false,aR }
  bH B (bR γ b af) (dy mem b g) w/\Ext B γ mem w (bR γ b af) (dy mem b g) w:=by
 intro g;refine⟨h.add c (xc.refl B w) (λ_ _=>rfl) (λj k e=>by cases e) ?_,(xd h c (xc.refl B w) λ_ _=>rfl)⟩;exact⟨e,[],rfl,i,.inl ⟨by simp[bR],rfl⟩⟩
def GJ{c off}(h:Yl c off)(b:c.ro=false):False:=by rw[Yl,b] at h;exact absurd h.1 aT
def bH.write(h:bH B γ mem w){b bx}(m:mem b=aa bx)(q:bx.ro=false){blk k}(r:γ.loc b=aa (blk,k)){cur cur' t y}
  (C:w.heap[blk]?=aa (.cells cur t y)) (J:cur'.size=cur.size) {v} (s:({ bx with val:=v }:eF).row=bx.row) (z:∀w' mem',Ext B γ mem w γ mem' w'->w'.heap[blk]?=aa (.cells cur' t y)->eL γ mem' w' b { bx with val:=v }) : bH B γ (dy mem b { bx with val:=v }) (w.setRow blk cur')/\Ext B γ mem w γ (dy mem b { bx with val:=v }) (w.setRow blk cur'):=by
 have g:=λi n=>setRow_other w blk i cur' (n);have hx:Ext B γ mem w γ (dy mem b { bx with val:=v }) (w.setRow blk cur') :=
  { below:=⟨rfl,rfl,rfl,aT,λi n=>g i λe=>n (by rw[e];exact(h.fresh b blk k (by rw[m];simp) r).1)⟩
    I:=λ_ _ x=>x
    sI:=λ_ _ x=>.inl x
    cells:=λc o x=>by
     by_cases e:c=blk
     .subst e;exact(GJ (h.sep b bx c k o m r x) q).elim
     .exact dM (g c e)
    boxes:=λc cx j=>by
     by_cases e:c=b
     .subst e;obtain rfl:cx=bx:=aI (j.symm.trans m);exact⟨_,bE _ _,b0 _,λ_=>⟨rfl,rfl,s⟩⟩
     .exact⟨cx,by rw[aZ _ e];exact j,b0 _,λ_=>⟨rfl,rfl,rfl⟩⟩ }
 refine⟨?_,hx⟩;exact
  { vR:=h.GG hx
    base:=by have:=h.base;simpa using this
    boxes:=λc cx j=>by
     by_cases e:c=b
     .subst e;rw[bE] at j;obtain rfl:=aI j;exact z _ _ hx (setRow_heap w blk cur cur' t y C)
     .rw[aZ _ e] at j;refine(h.boxes c cx j).keep hx rfl λf u A=>g f λD=>e ?_;subst D;exact h.inj c b f u k (by rw[j];simp) (by rw[m];simp) A r
    inj:=λc d f E F j G p H=>h.inj c d f E F (by
     by_cases e:c=b
     .subst e;rw[m];simp
     .rwa [aZ _ e] at j) (by
     by_cases e:d=b
     .subst e;rw[m];simp
     .rwa [aZ _ e] at G) p H
    fresh:=λc f u j p=>by
     have:=h.fresh c f u (by
      by_cases e:c=b
      .subst e;rw[m];simp
      .rwa [aZ _ e] at j) p
     exact⟨this.1,by simpa using this.2⟩
    vQ:=λf l n=>by have:=h.vQ f l n;simpa using this
    sep:=λc cx f u l j p n=>by
     by_cases e:c=b
     .subst e;rw[r] at p;obtain⟨rfl,rfl⟩:=eX (aI p);exact(GJ (h.sep c bx blk k l m r n) q).elim
     .rw[aZ _ e] at j;exact h.sep c cx f u l j p n }
def ME(f:Gh)(b:Nat)(n:Nat):Gh:={ f with I:=λc e=>f.I c e\/((∃k,f.loc b=aa (c,k))/\e<n) }
def bH.freeze(h:bH B γ mem w){b j}(l:mem b=aa j){e n}(r:j.row=aa (e,n)) :
  bH B (ME γ b<|n*e.size) (dy mem b { j with ro:=true }) w/\Ext B γ mem w (ME γ b<|n*e.size) (dy mem b { j with ro:=true }) w:=by
 have hx:Ext B γ mem w (ME γ b<|n*e.size) (dy mem b { j with ro:=true }) w :=
  { below:=xc.refl _ _
    I:=λ_ _ x=>.inl x
    sI:=λy o x=>by
     rcases x with x|⟨⟨k,x⟩,_⟩
     .exact .inl x
     .exact .inr (h.fresh b y k (by rw[l];simp) x).1
    cells:=λ_ _ _=>rfl
    boxes:=λc cx g=>by
     by_cases e:c=b
     .subst e;obtain rfl:cx=j:=aI (g.symm.trans l);exact⟨_,bE _ _,b0 _,λ_=>⟨rfl,rfl,rfl⟩⟩
     .exact⟨cx,by rw[aZ _ e];exact g,b0 _,λ_=>⟨rfl,rfl,rfl⟩⟩ }
 refine⟨?_,hx⟩;exact
  { vR:=h.GG hx
    base:=h.base
    boxes:=λc cx g=>by
     by_cases e:c=b
     .subst e;rw[bE] at g;obtain rfl:=aI g;have:=(h.boxes c j l).keep hx rfl (λ_ _ _=>rfl);exact this
     .rw[aZ _ e] at g;exact(h.boxes c cx g).keep hx rfl (λ_ _ _=>rfl)
    inj:=λc d f C D g E q F=>h.inj c d f C D (by
     by_cases e:c=b
     .subst e;rw[l];simp
     .rwa [aZ _ e] at g) (by
     by_cases e:d=b
     .subst e;rw[l];simp
     .rwa [aZ _ e] at E) q F
    fresh:=λc f s g q=>h.fresh c f s (by
     by_cases e:c=b
     .subst e;rw[l];simp
     .rwa [aZ _ e] at g) q
    vQ:=λf p i=>by
     rcases i with i|⟨⟨k,v⟩,_⟩
     .exact h.vQ f p i
     .exact(h.fresh b f k (by rw[l];simp) v).2
    sep:=λc cx f s p g q i=>by
     by_cases z:c=b
     .subst z;rw[bE] at g;obtain rfl:=aI g;rcases i with i|⟨⟨k,v⟩,A⟩
      .obtain⟨J,G⟩:=h.sep c j f s p l q i;exact⟨rfl,G⟩
      .refine⟨rfl,λ_ u m H=>?_⟩;have t:j.row=aa (u,m):=H;rw[r] at t;obtain⟨rfl,rfl⟩:=eX (aI t);exact A
     .rw[aZ _ z] at g;rcases i with i|⟨⟨k,v⟩,A⟩
      .exact h.sep c cx f s p g q i
      .exact absurd (h.inj c b f s k (by rw[g];simp) (by rw[l];simp) q v) z }
end
end Go.Ge
namespace Go.Ge
open RowKit
def py(P:Program)(B:CG)(N:Nat)(γ:Gh)(c:St)(a:Act)(w:World)(d:Option Nat)(s:Sem Value)(b:St):Prop :=∃v w' bF,s.run P w=.ok v w'/\dG B N bF b (a.put d v) w'/\Ext B γ c.mem w bF b.mem w'
section
variable {P:Program} {B:CG} {N:Nat} {γ:Gh} {σ aV:St} {a:Act} {w:World} {d:Option Nat}
def bM(h:dG B N γ σ a w)(b:∀k,d=aa k->k<N){s v x}(c:s.run P w=.ok x w)(e:cQ γ σ.mem w v .val [x]) :  py P B N γ σ a w d s (σ.bu d v) :=⟨x,w,γ,c,h.ya b e,by cases d<;>exact Ext.refl _ _ _ _⟩
def ed{β b val tid buf}{k:Nat->St->Tree β}{y}(h:(σ.bB b val tid buf k).run=aa y) :
  ∃aR,(∀c,σ.mem b=aa c->c.aR<aR)/\(k aR<|σ.cD b { val,tid,buf,ro:=false,lk:=false,aR }).run=aa y:=by
 unfold St.bB at h;split at h
 .rename_i bx f;cases e:bx.lk with|true=>rw[e] at h;cases h|false =>grind
 .grind
def yc(c:St) b e:(c.cD b e).mem=dy c.mem b e:=rfl
def gW{mem b aR bx}(h:mem b=aa bx)(e:bx.aR=aR){K}(c:K bx):oI mem b aR K :=⟨bx,h,ah,λ_=>c⟩
def Au{cx}(l:ga P cx){nb bf ty x}(h:dG B N γ σ a w)(c:∀k,d=aa k->k<N)
  (b:(kP cx nb bf d ty (dd σ x) σ).run=aa aV):py P B N γ σ a w d (pure<|a.eval x) aV:=by
 have hv:=h.dd x;unfold kP at b;split at b
 .rename_i hn;rw[hn] at hv;obtain⟨_,b⟩:=aA b;obtain rfl:=aI b;exact bM h c rfl hv
 .rename_i hn;rw[hn] at hv;have hx:a.eval x=.slice af 0 0:=by simpa [cQ] using hv
  split at b
  .rename_i k e m;cases i:dm bf k with
   | true =>
     rw[i] at b;simp at b;obtain⟨n,f,g⟩:=ed b;obtain rfl:=aI g;obtain⟨o,q,r,s,p⟩:=(l.T _ _ m).slice;obtain⟨m1,j⟩:=h.ok.MD f p;refine⟨_,w,_,rfl,h.step j m1 (c k rfl) ?_,j⟩;rw[hx];exact⟨⟨_,rfl,rfl⟩,gW (bE _ _) rfl ⟨e,0,rfl,rfl,.inl ⟨by simp[bR],rfl⟩⟩⟩
   | false =>
     rw[i] at b;obtain rfl:=aI b;exact bM h c rfl (by rw[hx];exact⟨_,.inl ⟨⟨af,rfl⟩,rfl⟩,rfl⟩)
  .obtain rfl:=aI b;exact bM h c rfl (by rw[hx];rfl)
 .obtain rfl:=aI b;exact bM h c rfl hv
def Bg{b:Bool}{v}(h:cQ γ σ.mem w (.data .bool b) .val [v]):v=.bool b:=by obtain⟨c,e,f⟩:=et.1 h;rw[f,show c=_ from e];rfl
def wE{k}{n:Int}{v}(h:cQ γ σ.mem w (.data (.int k) n) .val [v]):v=.int k n/\k.min<=n/\n<=k.max:=by obtain⟨e,b,c⟩:=et.1 h;rw[c,b.1];exact⟨rfl,b.2⟩
def zQ{s:bb}{v}(h:cQ γ σ.mem w (.data .str s) .val [v]):v=.string ⟨s.toArray⟩/\s.length<=maxLen:=by obtain⟨cs,b,c⟩:=et.1 h;rw[c,b.1];exact⟨rfl,b.2⟩
def hM(b:Bool):cQ γ σ.mem w (.data .bool b) .val [.bool b]:=⟨_,rfl,rfl⟩
def mkInt{k:IntKind}{n}(h:k.min<=n/\n<=k.max):cQ γ σ.mem w (.data (.int k) n) .val [.int k n]:=⟨_,⟨rfl,h.1,h.2⟩,rfl⟩
def mkStr{s:bb}(h:s.length<=maxLen):cQ γ σ.mem w (.data .str s) .val [.string ⟨s.toArray⟩]:=⟨_,⟨rfl,h⟩,rfl⟩
def MF{c x y}(h:dG B N γ σ a w)(j:∀k,d=aa k->k<N)(f:(qx d (dd σ c) (dd σ x) (dd σ y) σ).run=aa aV) :
  py P B N γ σ a w d (do pure (if <-asBool (a.eval c) then a.eval x else a.eval y)) aV:=by
 have q:=h.dd c;have hx:=h.dd x;have l:=h.dd y;unfold qx at f;split at f
 .rename_i i m;rw[m] at q;have b:(do pure (if <-asBool (a.eval c) then a.eval x else a.eval y):Sem Value).run P w=.ok (if(show Bool from i)=true then a.eval x else a.eval y) w:=by rw[(Bg q)];cases i<;>rfl
  split at f;{rename_i t s u v n o;rw[n] at hx;rw[o] at l;split at f;{rename_i z p;obtain rfl:=aI f;obtain⟨e,r⟩:=Ty.my p;subst e;subst r;refine bM h j b ?_;cases i;{exact l};exact hx};cases f};have g:=gV f;cases i;{obtain rfl:=aI g;exact bM h j b l};obtain rfl:=aI g;exact bM h j b hx
 .cases f
def fW(k:IntKind) n:k.min<=k.wrap n/\k.wrap n<=k.max:=wrap_within k n
def ahI{k:IntKind}{x y:Int}(h:k.min<=x/\x<=k.max):k.min<=x.tmod y/\x.tmod y<=k.max:=by
 have b:k.min<=0:=by cases k<;>decide
 have c:0<=k.max:=by cases k<;>decide
 have f:(x.tmod y).natAbs<=x.natAbs:=by rw[Int.natAbs_tmod];apply Nat.mod_le
 rcases Int.le_total 0 x with e|e
 .have:=Int.tmod_nonneg y e;omega
 have:x.tmod y<=0:=by have:=Int.tmod_nonneg y (show 0<=-x by omega);simp_all
 omega
def ahJ{k:IntKind}{x} n (h:k.min<=x/\x<=k.max):k.min<=x.fdiv (2 ^ n)/\x.fdiv (2 ^ n)<=k.max:=by
 have f:k.min<=0:=by cases k<;>decide
 have g:0<=k.max:=by cases k<;>decide
 have b:(0:Int)<2 ^ n:=Int.pow_pos aF;have e:x.fdiv _=x / 2 ^ n:=ajc _ ah;rcases Int.le_total 0 x with c|c
 .have j:=Int.ediv_nonneg c (Int.le_of_lt b);have i:=Int.ediv_le_self (2 ^ n) c;omega
 have i:x / 2 ^ n<1:=Int.ediv_lt_of_lt_mul b ah;have l:x<=x / 2 ^ n:=by rw[Int.le_ediv_iff_mul_le b];have:=Int.mul_le_mul_of_nonpos_left c b;grind
 omega
def SM{op l}(h:Gu op=aa l):(op=.shl/\l=true)\/(op=.shr/\l=false):=by cases op<;>simp[Gu] at h<;>simp[h]
def uF{op l}(h:isEq op=aa l):(op=.eql/\l=true)\/(op=.neq/\l=false):=by cases op<;>simp[isEq] at h<;>simp[h]
def iw(b:BinOp)(c:TypeId)(x y:Operand)(u v:Value):Sem Value:=do eqGuard b c x y u v;binOp b c u v
def SN{op k n m v g x y}(h:k.min<=n/\n<=k.max)(f:Gu op=af)(c:(Yd op k n m).run=aa v) :
  ∃r,(iw op g x y (.int k n)<|.int k m).run P w=.ok r w/\cQ γ σ.mem w v .val [r]:=by
 unfold iw;cases op<;>simp only[eqGuard_at_int]<;>simp only[Yd] at c
 case add=>obtain rfl:=aI c;exact⟨.int k _,by simp only[binOp_add];rfl,mkInt (fW _ _)⟩
 case sub=>obtain rfl:=aI c;exact⟨.int k _,by simp only[binOp_sub];rfl,mkInt (fW _ _)⟩
 case mul=>obtain rfl:=aI c;exact⟨.int k _,by simp only[binOp_mul];rfl,mkInt (fW _ _)⟩
 case quo =>
  have b:=gV c;cases e:aD m 0
  .rw[e] at b;obtain rfl:=aI b;exact⟨.int k _,by simp only[binOp_quo,Op.intDiv,aK (by simpa [aD] using e)];rfl,mkInt (fW _ _)⟩
  .rw[e] at b;cases b
 case rem =>
  have b:=gV c;cases e:aD m 0
  .rw[e] at b;obtain rfl:=aI b;exact⟨.int k _,by simp only[binOp_rem,Op.intDiv,aK (by simpa [aD] using e)];rfl,mkInt (ahI h)⟩
  .rw[e] at b;cases b
 case and=>obtain rfl:=aI c;exact⟨.int k _,by simp only[binOp_and];rfl,mkInt (fW _ _)⟩
 case or=>obtain rfl:=aI c;exact⟨.int k _,by simp only[binOp_or];rfl,mkInt (fW _ _)⟩
 case xor=>obtain rfl:=aI c;exact⟨.int k _,by simp only[binOp_xor];rfl,mkInt (fW _ _)⟩
 case andNot=>obtain rfl:=aI c;exact⟨.int k _,by simp only[binOp_andNot];rfl,mkInt (fW _ _)⟩
 case shl=>cases f
 case shr=>cases f
 case eql=>obtain rfl:=aI c;exact⟨.bool _,by simp[binOp];rfl,hM _⟩
 case neq=>obtain rfl:=aI c;exact⟨.bool _,by simp[binOp,nt];rfl,hM _⟩
 case lss=>obtain rfl:=aI c;exact⟨.bool _,by simp[binOp,Op.intCmp,aL],hM _⟩
 case leq=>obtain rfl:=aI c;exact⟨.bool _,by simp[binOp,Op.intCmp,cl],hM _⟩
 case gtr=>obtain rfl:=aI c;exact⟨.bool _,by simp[binOp,Op.intCmp,aL],hM _⟩
 case geq=>obtain rfl:=aI c;exact⟨.bool _,by simp[binOp,Op.intCmp,cl],hM _⟩
def kq s:(⟨s.toArray⟩:ByteArray).toList=s:=by rw[ByteArray.toList_eq]
def abZ s t:(s==t)=bg s t:=by rw[Pu];simp[bg]
def SO{op s t v f x y}(b:(Ye op s t).run=aa v) :
  ∃r,(iw op f x y (.string ⟨s.toArray⟩)<|.string ⟨t.toArray⟩).run P w=.ok r w/\cQ γ σ.mem w v .val [r]:=by
 unfold iw;cases op<;>simp only[eqGuard_at_string,Sem.run_bind,Sem.run_pure,Result.andThen_ok]<;>simp only[Ye] at b<;>try (cases b;done)
 case add =>
  obtain⟨g,c⟩:=cX b;obtain rfl:=aI c;have i:s.length+t.length<=4294967296:=by have h:=fy g;simp only[plus,len] at h;omega
  refine⟨.string ⟨(s++t).toArray⟩,?_,mkStr (by simp only[app,iU,maxLen];omega)⟩;have e:∀l:bb,(⟨l.toArray⟩:ByteArray).size=l.length:=λl=>rfl;have:¬(((s.length+t.length:Nat):Int) > IntKind.i64.max):=by rw[IntKind.max_i64];omega
  simp only[binOp,Op.stringOp,e,this];congr 2
 case eql=>obtain rfl:=aI b;exact⟨.bool _,by simp only[binOp,Op.stringOp,kq,abZ,Sem.run_pure],hM _⟩
 case neq=>obtain rfl:=aI b;exact⟨.bool<|nt _,by simp only[binOp,Op.stringOp,kq,abZ,Sem.run_pure];rfl,hM _⟩
 case lss=>obtain rfl:=aI b;exact⟨.bool _,by simp only[binOp,Op.stringOp,kq,abZ,Sem.run_pure];rfl,hM _⟩
 case leq=>obtain rfl:=aI b;exact⟨.bool _,by simp only[binOp,Op.stringOp,kq,abZ,Sem.run_pure];rfl,hM _⟩
 case gtr=>obtain rfl:=aI b;exact⟨.bool<|nt _,by simp only[binOp,Op.stringOp,kq,abZ,Sem.run_pure];rfl,hM _⟩
 case geq=>obtain rfl:=aI b;exact⟨.bool _,by simp only[binOp,Op.stringOp,kq];rfl,hM _⟩
def Vm{op left k c n m e x y}(f:k.min<=n/\n<=k.max)(g:Gu op=aa left)(h:aL m 0=false) :
  ∃r,(iw op e x y (.int k n)<|.int c m).run P w=.ok r w/\cQ γ σ.mem w (.data (.int k)<|bif left then oD k n m else jT k n m) .val [r]:=by
 have b:¬m<0:=by simpa [aL] using h
 unfold iw;rcases SM g with ⟨rfl,rfl⟩|⟨rfl,rfl⟩
 .exact⟨.int k _,by simp only[ binOp_shl,Op.shift,aK b];rfl,mkInt (fW _ _)⟩
 .exact⟨.int k _,by simp only[ binOp_shr,Op.shift,aK b];rfl,mkInt (ahJ _ f)⟩
def DO{t tid}(c:Den P t tid){cs off}(h:off+t.size<=cs.size)(f:t.isAgg=false->t.size=1) :
  (part tid cs off).run P w=.ok (df t<|(cs.toList.drop off).take t.size) w:=by
 unfold part;rw[Sem.run_bind,c.agg w];cases b:t.isAgg with|true =>simp only[y9,Sem.run_bind,c.sizeOf w,Result.andThen_ok,Sem.run_pure,df,b];congr 2;grind|false =>(have hs:=f b;simp only[ df];have g:off<cs.size:=ah;have e:(cs.toList.drop off).take 1=[cs[off]]:=by apply KH;grind);simp_all
def vV:∀{t:Ty},t.isAgg=false->t.size=1:=by intro t h;induction t with|alt u a r c b=>exact b h|arr|pair|unit=>cases h|_=>rfl
def ET{γ:Gh}{w:World}:∀(t:Ty),(∀(d:Nat) (tid:TypeId) (x y:t.den) (cx cy:List Value) (c:Bool),Den P t tid->bL w γ.I t x cx->bL w γ.I t y cy->Ty.eqv t x y=aa c->t.KK<d ->
   (Op.equalIn d tid (df t cx)<|df t cy).run P w=.ok c w) /\
  (∀(d off:Nat) (o:List Field) (x y:t.den) (cx cy:List Value) (l m:Array Value) (c:Bool),sJ P t off o->bL w γ.I t x cx->bL w γ.I t y cy->Ty.eqv t x y=aa c->t.KK<d ->l.toList.drop off=cx->m.toList.drop off=cy->off<=l.size->off<=m.size->(Op.eqFields d l m o).run P w=.ok c w):=by
 intro t;induction t with
 | int k =>refine⟨λd tid x y cx cy c g s v j hs=>?_,λd off o x y cx cy l m c g=>by simp[sJ,gy] at g⟩;obtain⟨d,rfl⟩:∃e,d=e+1:=⟨d-1,ah⟩;rw[s.1,v.1];obtain rfl:=aI j;show(Op.equalIn (d+1) tid (.int k x)<|.int k y).run P w=_;rw[run_equalIn_int w d tid k k x y g.int];congr 1
 | bool =>refine⟨λd tid x y cx cy c g s v j hs=>?_,λd off o x y cx cy l m c g=>by simp[sJ,gy] at g⟩;obtain⟨d,rfl⟩:∃e,d=e+1:=⟨d-1,ah⟩;rw[show cx=_ from s,show cy=_ from v];obtain rfl:=aI j;exact run_equalIn_bool' w d tid x y g.bool
 | str =>refine⟨λd tid x y cx cy c g s v j hs=>?_,λd off o x y cx cy l m c g=>by simp[sJ,gy] at g⟩;obtain⟨d,rfl⟩:∃e,d=e+1:=⟨d-1,ah⟩;rw[s.1,v.1];obtain rfl:=aI j;have F:=run_equalIn_string w d tid ⟨List.toArray x⟩ ⟨List.toArray y⟩ g.str;rw[kq<|show bb from x,kq (show bb from y),abZ] at F;exact F
 | slice e ih=>exact⟨(λd tid x y cx cy c g s v j=>by cases j),(λd off o x y cx cy l m c g=>by simp[sJ,gy] at g)⟩
 | alt u a r R ihr=>exact⟨(λd tid x y cx cy c g s v j=>by cases j),(λd off o x y cx cy l m c g=>by simp[sJ,gy] at g)⟩
 | Cz=>exact⟨(λd tid x y cx cy c g s v j=>by cases j),(λd off o x y cx cy l m c g=>by simp[sJ,gy] at g)⟩
 | arr n e ih =>refine⟨λd tid x y cx cy c g s v j hs=>?_,(λd off o x y cx cy l m c g=>by simp[sJ,gy] at g)⟩;cases e with|int k =>(obtain⟨d,rfl⟩:∃e,d=e+1:=⟨d-1,ah⟩;obtain⟨d,rfl⟩:∃e,d=e+1:=⟨d-1,by have:(Ty.arr n<|.int k).KK=1+1:=rfl;omega⟩;obtain rfl:=aI j;obtain⟨S,G,D,T⟩:=g.arr;obtain⟨i,z,i1,i2,_,_⟩:=D.info;have H:=D.cells;show(Op.equalIn _ tid (.agg cx.toArray)<|.agg cy.toArray).run P w=_;(rw[run_equalIn_array w _ cx.toArray cy.toArray G i1,H];obtain⟨U,bw,A⟩:=s;obtain⟨V,hyc,C⟩:=v;have hz:(Ty.int k).size=1:=rfl;rw[hz] at bw A hyc C⊢;change List Int at x y;have item:∀M,(∀i∈M,i<n)->(Op.eqItems (d+1) S 1 cx.toArray cy.toArray M).run P w=.ok (M.all λi=>decide (x[i]?=y[i]?)) w:=by intro M;induction M with|nil=>intro _;rfl|cons i M ihs =>intro hi;have J:=hi i (rU ..);obtain⟨a,hxi⟩:∃a,x[i]?=aa a:=⟨_,ft (by rw[show x.length=n from U];exact J)⟩;obtain⟨b,hyi⟩:∃a,y[i]?=aa a:=⟨_,ft (by rw[show y.length=n from V];exact J)⟩;have O:=DO (w:=w) D (cs:=cx.toArray) (off:=i*1) cR (λ_=>hz);have Q:=DO (w:=w) D (cs:=cy.toArray) (off:=i*1) cR (λ_=>hz);have ex:=(A i _ hxi).1;have ey:=(C i _ hyi).1;rw[hz] at O Q;rw[ ex] at O;rw[ ey] at Q;simp only[Op.eqItems,Sem.run_bind,O,Q,Result.andThen_ok];have K:=run_equalIn_int w d S k k a b D.int;simp only[df,Ty.isAgg,Cp,List.headD_cons,K,Result.andThen_ok];cases hb:(a==b) with|true =>grind|false =>simp_all);rw[item _ λi hi=>Mm.1 hi];congr 1;unfold eqL;rw[Pu];simp only[ A6];constructor;{intro h;apply KH;intro i;by_cases J:i<n;{grind};rw[Ev<|by rw[show x.length=n from U];omega,Ev (by rw[show y.length=n from V];omega)]};grind)|_=>cases j
 | unit =>refine⟨(λd tid x y cx cy c g=>by simp[Den,gy] at g),λd off o x y cx cy l m c g s v j hs F h2 h3 h4=>?_⟩;cases o with|nil=>(obtain rfl:=aI j;rfl)|cons f r=>simp[sJ,gy] at g
 | pair a b R ihb =>
   have key:(∀d off o (x y:(Ty.pair a b).den) cx cy l m c,sJ P (.pair a b) off o->bL w γ.I _ x cx->bL w γ.I _ y cy->Ty.eqv _ x y=aa c->(Ty.pair a b).KK<d+1 ->
    l.toList.drop off=cx->m.toList.drop off=cy->off<=l.size->off<=m.size->(Op.eqFields d l m o).run P w=.ok c w):=by
    intro d off o x y cx cy l m c g s v j hs F h2 h3 h4;obtain⟨f,r,rfl,G,D,T,k4,k5⟩:=g.cons;obtain⟨x1,x2,A,W,yd⟩:=s;obtain⟨y1,y2,C,X,hy2⟩:=v;simp only[Ty.eqv] at j;cases E:Ty.eqv a x.1 y.1 with|none=>rw[E] at j;cases j|some p =>cases L:Ty.eqv b x.2 y.2 with|none=>rw[E,L] at j;cases j|some q =>(rw[E,L] at j;obtain rfl:=aI j;have Y:=W.length;have Z:=X.length;have lx:l.size-off=x1.length+x2.length:=by have:=congrArg List.length (F.trans A);simpa using this);(have ly:m.size-off=y1.length+y2.length:=by have:=congrArg List.length (h2.trans C);simpa using this);(have O:=DO (w:=w) T (cs:=l) (off:=f.offset) ah vV;have Q:=DO (w:=w) T (cs:=m) (off:=f.offset) ah vV;have ex:(l.toList.drop f.offset).take a.size=x1:=by rw[G,F,A,<-Y,U0]);(have ey:(m.toList.drop f.offset).take a.size=y1:=by rw[G,h2,C,<-Z,U0]);rw[ex] at O;rw[ey] at Q;have X6:(Ty.pair a b).KK=a.KK+b.KK+1:=rfl;have K:=R.1 d f.type x.1 y.1 x1 y1 p T W X E ah;simp only[Op.eqFields,aQ D,Sem.run_bind,O,Q,K,Result.andThen_ok];cases p with|false=>simp[an]|true =>simp;rw[ihb.2 d _ r x.2 y.2 x2 y2 l m q k5 yd hy2 L ah (by rw[<-A7,F,A,<-Y,Ml]) (by rw[<-A7,h2,C,<-Z,Ml]) ah ah];simp[an]
   (refine⟨λd tid x y cx cy c g s v j hs=>?_,λd off o x y cx cy l m c g s v j hs=>key d off o x y cx cy l m c g s v j ah⟩;obtain⟨d,rfl⟩:∃e,d=e+1:=⟨d-1,ah⟩;obtain⟨o,G,D,T,k4⟩:=g.pair;have hf:P.fieldsOf tid=o:=by simp[Program.fieldsOf,G]);show(Op.equalIn _ tid (.agg _)<|.agg _).run P w=_;rw[run_equalIn_struct w d tid _ _ (by rw[hf];exact G) k4,hf];exact key d 0 o.toList x y cx cy _ _ c D s v j ah aT aT aT aT
end
end Go.Ge
namespace Go.Ge
open RowKit
section
variable {P:Program} {B:CG} {N:Nat} {γ:Gh} {σ aV:St} {a:Act} {w:World} {d:Option Nat} {cx:Ctx}
def MG b c {e x y} (f:P.underlying e=aa .bool) :
  (iw .eql e x y (.bool b)<|.bool c).run P w=.ok (.bool<|Yc b c) w/\(iw .neq e x y (.bool b)<|.bool c).run P w=.ok (.bool<|nt<|Yc b c) w:=by
 constructor<;>simp only[iw,eqGuard_at_bool,binOp,Op.equal,Op.maxDepth,Sem.run_bind,Sem.run_pure,Result.andThen_ok,(run_equalIn_bool' w 9999 e b c f)]<;>rfl
def Vn{c e}(f:P.underlying c=aa (.pointer e)) a b (h:a=af\/b=af) n :
  (Op.equalIn (n+1) c (.pointer a)<|.pointer b).run P w=.ok (a.isNone&&b.isNone) w:=by
 cases a with|none=>cases b<;>simp only[Op.equalIn,Sem.run_bind,run_underlying f,Result.andThen_ok]<;>rfl|some a=>cases b with|none=>simp only[Op.equalIn,Sem.run_bind,run_underlying f];rfl|some b=>simp at h
def zR{c e x y}(f:P.underlying c=aa (.pointer e)) a b (h:a=af\/b=af) :
  (iw .eql c x y (.pointer a)<|.pointer b).run P w=.ok (.bool<|a.isNone&&b.isNone) w/\(iw .neq c x y (.pointer a)<|.pointer b).run P w=.ok (.bool<|!(a.isNone&&b.isNone)) w:=by
 constructor<;>simp only[iw,eqGuard_at_pointer,binOp,Op.equal,Op.maxDepth,Sem.run_bind,Sem.run_pure,Result.andThen_ok,(Vn f a b h 9999)]
def ab0(I:ga P cx){op}{j:TypeId}{x y u v p q r}(E:cQ γ σ.mem w p .val [u])(F:cQ γ σ.mem w q .val [v])
  (o:(bin (find cx.T j) (dm cx.EC j) op p q).run=aa r):∃z,(iw op j x y u v).run P w=.ok z w/\cQ γ σ.mem w r .val [z]:=by
 unfold bin at o;split at o
 ·
  obtain⟨rfl,J⟩:=wE E;obtain⟨rfl,U⟩:=wE F;split at o
  .rename_i left hs;have f:=gV o;rename_i k n k' m _;cases K:aL m 0
   .rw[K] at f;obtain rfl:=aI f;exact Vm J hs K
   .rw[K] at f;cases f
  .rename_i hs;obtain⟨s,f⟩:=aA o;have V:=Ak s;subst V;exact SN J hs f
 ·
  obtain⟨rfl,J⟩:=zQ E;obtain⟨rfl,U⟩:=zQ F;exact SO o
 ·
  rename_i b c;obtain rfl:=Bg E;obtain rfl:=Bg F;obtain⟨s,f⟩:=aA o;have A:=I.T _ _ (j7 s);have e:=MG (w:=w) b c (x:=x) (y:=y) A.bool;split at f
  .rename_i t;obtain rfl:=aI f;rcases uF t with ⟨rfl,_⟩|⟨_,h⟩
   .exact⟨.bool _,e.1,hM _⟩
   .cases h
  .rename_i t;obtain rfl:=aI f;rcases uF t with ⟨_,h⟩|⟨rfl,_⟩
   .cases h
   .exact⟨.bool _,e.2,hM _⟩
  .cases f
 ·
  rename_i ta tb L W X;obtain⟨s,f⟩:=aA o;simp only[gO] at s;have A:=I.T _ _ (j7 s.1);split at f
  .rename_i Y e C t;obtain⟨M,O⟩:=Ty.my C;subst M;subst O;split at f
   .rename_i c D;obtain rfl:=aI f;obtain⟨g,Q,rfl⟩:=et.1 E;obtain⟨i,R,rfl⟩:=et.1 F;have G:=(ET (P:=P) (γ:=γ) (w:=w) _).1 10000 j L _ g i c A Q R D (by have:=KF s.2;omega);obtain⟨fs,j1,j2,Z,j4⟩:=A.pair;have H:∀op,(eqGuard op j x y (.agg g.toArray)<|.agg i.toArray).run P w=.ok () w:=λop=>run_eqGuard_agg w op j x y _ _ Z;rcases uF t with ⟨rfl,rfl⟩|⟨rfl,rfl⟩
    .refine⟨.bool c,?_,hM _⟩;show(iw .eql j x y (.agg _)<|.agg _).run P w=_
     simp only[iw,Sem.run_bind,H,Result.andThen_ok];have l:(Op.equalIn 10000 j (.agg g.toArray)<|.agg i.toArray).run P w=.ok c w:=G;rw[run_eql_struct,l];rfl
    .refine⟨.bool<|nt c,?_,hM _⟩;show(iw .neq j x y (.agg _)<|.agg _).run P w=_
     simp only[iw,Sem.run_bind,H,Result.andThen_ok];have l:(Op.equalIn 10000 j (.agg g.toArray)<|.agg i.toArray).run P w=.ok c w:=G;rw[run_neq_struct,l];rfl
   .cases f
  .cases f
 ·
  rename_i nn ee L W X;obtain⟨s,f⟩:=aA o;simp only[gO] at s;have A:=I.T _ _ (j7 s.1);split at f
  .rename_i Y e C t;obtain⟨M,O⟩:=Ty.my C;subst M;subst O;split at f
   .rename_i c D;obtain rfl:=aI f;obtain⟨g,Q,rfl⟩:=et.1 E;obtain⟨i,R,rfl⟩:=et.1 F;have G:=(ET _).1 10000 j L _ g i c A Q R D (by have:=KF s.2;omega);have H:∀op,(eqGuard op j x y (.agg g.toArray)<|.agg i.toArray).run P w=.ok () w:=λop=>run_eqGuard_agg w op j x y _ _ A.alw;rcases uF t with ⟨rfl,rfl⟩|⟨rfl,rfl⟩
    .refine⟨.bool c,?_,hM _⟩;show(iw .eql j x y (.agg _)<|.agg _).run P w=_
     simp only[iw,Sem.run_bind,H,Result.andThen_ok];have l:(Op.equalIn 10000 j (.agg g.toArray)<|.agg i.toArray).run P w=.ok c w:=G;rw[run_eql_struct,l];rfl
    .refine⟨.bool _,?_,hM _⟩;show(iw .neq j x y (.agg _)<|.agg _).run P w=_
     simp only[iw,Sem.run_bind,H,Result.andThen_ok];have l:(Op.equalIn 10000 j (.agg g.toArray)<|.agg i.toArray).run P w=.ok c w:=G;rw[run_neq_struct,l];rfl
   .cases f
  .cases f
 ·
  obtain rfl:u=_:=by simpa [cQ] using E
  obtain rfl:v=_:=by simpa [cQ] using F
  split at o
  .rename_i e hp t;obtain rfl:=aI o;obtain⟨el,S⟩:=I.EC _ hp;have q:=zR (w:=w) (x:=x) (y:=y) S af af (.inl rfl);rcases uF t with ⟨rfl,rfl⟩|⟨rfl,rfl⟩
   .exact⟨_,q.1,hM _⟩
   .exact⟨_,q.2,hM _⟩
  .cases o
 .cases o
def lL{b aR}(h:live σ b aR=true):∃c,σ.mem b=aa c/\c.aR=aR:=by
 unfold live at h;split at h
 {rename_i c e;exact⟨c,e,gP h⟩};cases h
def bp{mem b aR bx}(e:mem b=aa bx)(f:bx.aR=aR){K}(h:oI mem b aR K):K bx:=by obtain⟨g,c,j,i⟩:=h;rw[e] at c;obtain rfl:=aI c;exact i f
def Yn(m:ga P cx){op}{n:TypeId}{x y u v p q r}(o:cQ γ σ.mem w p .val [u])(s:cQ γ σ.mem w q .val [v])
  (l:(aeI σ (find cx.T n) (dm cx.EC n) op p q).run=aa r):∃z,(iw op n x y u v).run P w=.ok z w/\cQ γ σ.mem w r .val [z]:=by
 unfold aeI at l;split at l
 .rename_i b t p;obtain⟨h,c⟩:=aA l;simp only[gO] at h;obtain⟨D,i,f⟩:=lL h.1;obtain⟨j,A,_,g⟩:=bp i f o.2;obtain rfl:u=_:=by simpa using g
  obtain rfl:v=_:=by simpa [cQ] using s
  obtain⟨E,k⟩:=m.EC _ h.2;have q:=zR (P:=P) (w:=w) (x:=x) (y:=y) k (aa ⟨j,er p,af⟩) af (.inr rfl);split at c;{rename_i e C;obtain rfl:=aI c;rcases uF C with ⟨rfl,rfl⟩|⟨rfl,rfl⟩;{exact⟨_,q.1,hM _⟩};exact⟨_,q.2,hM _⟩};cases c
 .rename_i b t p;obtain⟨h,c⟩:=aA l;simp at h;obtain⟨D,i,f⟩:=lL h.1;obtain⟨j,A,_,g⟩:=bp i f s.2;obtain rfl:v=_:=by simpa using g
  obtain rfl:u=_:=by simpa [cQ] using o
  obtain⟨E,k⟩:=m.EC _ h.2;have q:=zR (w:=w) (x:=x) (y:=y) k af (aa ⟨j,er p,af⟩) (.inl rfl);split at c;{rename_i e C;obtain rfl:=aI c;rcases uF C with ⟨rfl,rfl⟩|⟨rfl,rfl⟩;{exact⟨_,q.1,hM _⟩};exact⟨_,q.2,hM _⟩};cases c
 .exact ab0 m o s l
def aeW{op u p r}(c:cQ γ σ.mem w p .val [u])(b:(un op p).run=aa r):∃z,(Op.unary op u).run P w=.ok z w/\cQ γ σ.mem w r .val [z]:=by
 unfold un at b;split at b
 .obtain rfl:=Bg c;obtain rfl:=aI b;exact⟨_,rfl,hM _⟩
 .obtain⟨rfl,e⟩:=wE c;obtain rfl:=aI b;exact⟨_,rfl,mkInt (fW _ _)⟩
 {obtain⟨rfl,e⟩:=wE c;obtain rfl:=aI b;rename_i k n;refine⟨_,?_,mkInt (fW _ _)⟩;cases f:k.signed<;>simp[Op.unary,Op.intBits,gQ,f]};cases b
def aeX(K:bH B γ σ.mem w){b n}(L:σ.mem b=aa n){blk cap}(A:γ.loc b=aa (blk,cap)){p v}(j:(ahD n.buf p n.val).run=aa v) :
  ∃c tid m,w.heap[blk]?=aa (.cells c tid m)/\nY c m/\er p+dX v<=c.size/\cQ γ σ.mem w v .cells ((c.toList.drop<|er p).take<|dX v):=by
 have f:=K.boxes b n L;unfold eL at f;cases h:n.buf with|false =>(rw[h] at f j;obtain⟨o,q,c,tid,m,y,H,g,r,C⟩:=f;rw[A] at y;obtain⟨rfl,rfl⟩:=eX (aI y);obtain⟨I,z⟩:=zc C j;exact⟨c,tid,m,H,g,by simpa using I,z⟩)|true =>rw[h] at f j;obtain⟨e,l,y,H,g⟩:=f;rw[y] at j;rcases g with ⟨g,_⟩|⟨o,q,c,tid,m,g,C,M,r,S,T,U,O⟩;{rw[A] at g;cases g};rw[A] at g;obtain⟨rfl,rfl⟩:=eX (aI g);cases p with|nil=>cases j|cons s p =>cases s with|gR k off=>cases j|idx i size =>obtain⟨D,E⟩:=aA j;have t:=gP D;obtain⟨x,Q,F⟩:=ck E;obtain⟨V,u⟩:=vT Q;have J:=O _ x u;have R:=J.length;have hi:=(iQ.1 u).1;have G:(i.toNat+1)*e.size<=cap*e.size:=ic _ ah;rw[KJ] at G;obtain⟨I,z⟩:=zc (v:=.data e x) J F;refine⟨c,tid,m,C,M.th,?_,?_⟩;{simp only[er,t];omega};rw[aau,Pw,A7,xY ah] at z;simp only[ t];exact z
def Av{t tid}(i:Den P t tid){blk off x cs}(g:bL w γ.I t x cs)(b:(loadCells ⟨blk,off,af⟩ cs.length).run P w=.ok cs.toArray w)
  (e:∀j v,cs[j]?=aa v->w.cell? ⟨blk,off+j,af⟩=aa v):(loadVar tid ⟨blk,off,af⟩).run P w=.ok (df t cs) w:=by
 unfold loadVar;rw[Sem.run_bind,i.agg w];have h:=g.length;cases f:t.isAgg with|true =>simp only[y9,Sem.run_bind,i.sizeOf w,Result.andThen_ok,<-h,b,Sem.run_pure,df,f,xZ]|false =>rw[(vV f)] at h;obtain⟨c,rfl⟩:=aaj.1 h;have:=e 0 c rfl;simp at this;simp[df,f,this]
def MH:∀{u v},aaz u v=true->dX v=u.size:=by intro u;induction u with|pair a b f e =>(intro v h;cases v with|data t x=>(obtain rfl:=Ty.eq_of_beq h;rfl)|mix p q =>(obtain⟨c,g⟩:=aei.1 h;have i:dX p=a.size:=by unfold Vc at c;split at c;{rfl};{obtain rfl:=Ty.eq_of_beq c;rfl};cases c);show dX p+dX q=a.size+b.size;rw[i,e g]|_=>cases h)|_ =>intro v h;cases v with|data t x=>(obtain rfl:=Ty.eq_of_beq h;rfl)|_=>cases h
def QW{u v}(b:Vc u v=true):dX v=u.size:=by
 unfold Vc at b;split at b
 .rfl
 {obtain rfl:=Ty.eq_of_beq b;rfl};cases b
def Vo(q:ga P cx){ty x}(h:dG B N γ σ a w)(r:(na cx d ty (dd σ x) σ).run=aa aV) :
  ∃u m E,aV=σ.bu d u/\a.eval x=.pointer (aa E)/\(loadVar ty E).run P w=.ok m w/\cQ γ σ.mem w u .val [m]:=by
 have hv:=h.dd x;unfold na at r;split at r
 .rename_i u y L;rw[L] at hv;obtain⟨J,s⟩:=aA r;obtain rfl:=aI s;have K:=q.T _ _ (j7 J);obtain⟨F,off,cs,C,W,X⟩:=hv;obtain C:a.eval x=_:=by simpa using C
  have M:=Av K W (Is X) (λj v D=>(X j v D).1);exact⟨_,_,_,rfl,C,M,cs,W,rfl⟩
 .rename_i b aR p L;rw[L] at hv;split at r
  .rename_i bx J;obtain⟨G,s⟩:=aA r;obtain⟨v,hn,O⟩:=bind_some s;obtain⟨g,Q⟩:=aA O;obtain rfl:=aI Q;obtain⟨F,cap,M,l⟩:=bp J (gP G) hv.2;obtain l:a.eval x=_:=by simpa using l
   obtain⟨H,tid,fr,Y,g2,g3,t⟩:=aeX h.ok J M hn;have z:=EE (P:=P) Y g3;have A:=t.length;have i:∀j R,((H.toList.drop _).take<|dX v)[j]?=aa R->w.cell? ⟨F,er p+j,af⟩=aa R:=λj R D=>by
    rw[cell_of_heap Y];rw[kn] at D;split at D
    .simpa using D
    .cases D
   have single:∀(o:(isAgg ty).run P w=.ok false w) (C:dX v=1) (n:∀c,cQ γ σ.mem w v .cells [c]->cQ γ σ.mem w v .val [c]),
     ∃u m E,σ.bu d v=σ.bu d u/\a.eval x=.pointer (aa E)/\(loadVar ty E).run P w=.ok m w/\cQ γ σ.mem w u .val [m]:=by
    intro o C n;rw[C] at A t i;obtain⟨c,S⟩:=aaj.1 A;rw[S] at t i;have:=i 0 c rfl;simp at this;refine⟨_,c,_,rfl,l,?_,n c t⟩;simp[loadVar,o,this]
   cases v with
   | mix Z q' =>
     simp only[DK] at g;split at g
     .rename_i u U;have K:=q.T _ _ U;have V:Ty.isAgg u=true:=by
       cases u with
       | pair a b=>rfl
       | _=>cases g
      refine⟨_,.agg ((H.toList.drop<|er p).take<|dX<|.mix Z q').toArray,_,rfl,l,?_,?_⟩
      .rw[(MH g)] at z⊢;simp only[loadVar,Sem.run_bind,K.agg w,V,Result.andThen_ok,y9,K.sizeOf w,z,Sem.run_pure]
      .obtain⟨c1,c2,e1,e2,e3⟩:=t;exact⟨c1,c2,by rw[e1],e2,e3⟩
     .cases g
   | data u y =>
     rw[show DK cx ty _=false from rfl,Bool.or_false] at g;exact⟨_,_,_,rfl,l,(Av (q.T _ _<|j7 g) t (by rw[A];exact z) i),_,t,rfl⟩
   | whole b' I =>
     simp only[A9] at g;split at g
     .rename_i e U;exact single (by have:=(q.T _ _ U).agg w;exact this) rfl (λc k=>k)
     .cases g
   | ptr b' I Z=>exact single ((q.vP _<|by simpa [DK,A9] using g).1 w) rfl (λc k=>k)
   | vN=>exact single ((q.vP _<|by simpa [DK,A9] using g).1 w) rfl (λc k=>k)
   | fn f abT=>exact single ((q.vP _<|by simpa [DK,A9] using g).1 w) rfl (λc k=>k)
   | _=>cases g
  .cases r
 .cases r
def MI(b:ga P cx){ty x}(h:dG B N γ σ a w)(c:∀k,d=aa k->k<N)(e:(na cx d ty (dd σ x) σ).run=aa aV) :
  py P B N γ σ a w d (Instr.loadAt ty<|a.eval x) aV:=by
 obtain⟨u,f,l,rfl,g,i,j⟩:=Vo b h e;refine bM h c ?_ j;rw[g];simp only[Instr.loadAt,Instr.sureAddr,Sem.run_bind,Sem.run_pure,Result.andThen_ok,i]
end
end Go.Ge
