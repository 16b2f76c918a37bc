/- A ghost interpreter of the model's code, and that it tells the truth: part 2. It says of a function of plain data what a call of it comes to. -/
import Derived.Test.YtpmecibilnjeiaaGreatDoorGeA
import Derived.Laws.StructEq
import Derived.ChangeKeysEq
set_option linter.unusedVariables false
set_option linter.unusedSimpArgs false
set_option linter.unusedSectionVars false
namespace Go.Ge
structure Gh where
 I:Nat->Nat->Prop
 loc:Nat->Option (Nat×Nat)
def bW(t:Ty)(cs:List Value):Value:=bif t.isAgg then .agg cs.toArray else cs.headD undef
def bD(w:World)(I:Nat->Nat->Prop):(t:Ty)->t.den->List Value->Prop
 | .int k,n,cs=>cs=[.int k n]/\k.min<=(show Int from n)/\(show Int from n)<=k.max
 | .bool,b,cs=>cs=[.bool b]
 | .str,s,cs=>cs=[.string ⟨List.toArray (α:=UInt8) s⟩]/\List.length (α:=UInt8) s<=maxLen
 | .slice e,l,cs=>((∃base,cs=[.slice base 0 0])/\l=([]:List e.den)) \/
  ∃f off g,cs=[.slice (some ⟨f,off,none⟩) (List.length (α:=e.den) l) g]/\List.length (α:=e.den) l<=g/\g<=maxLen /\
   ∀(i:Nat) (x:e.den),(show List e.den from l)[i]?=some x->∃es:List Value,es.length=e.size /\
    (∀(j:Nat) v,es[j]?=some v->w.cell? ⟨f,off+i*e.size+j,none⟩=some v/\I f (off+i*e.size+j))/\bD w I e x es
 | .arr n e,l,cs=>List.length (α:=e.den) l=n/\cs.length=n*e.size /\
  ∀(i:Nat) (x:e.den),(show List e.den from l)[i]?=some x->bD w I e x ((cs.drop<|i*e.size).take e.size)
 | .pair a b,x,cs=>∃h m,cs=h++m/\bD w I a x.1 h/\bD w I b x.2 m
 | .unit,_,cs=>cs=[]
 | .alt u a r,x,cs=>match(show a.den⊕r.den from x) with
   | .inl y=>r.size=1/\∃c,cs=[.iface u<|bW a c]/\bD w I a y c
   | .inr z=>bD w I r z cs
 | .za,_,cs=>cs=[.nilIface]
theorem bD.length{w:World}{I:Nat->Nat->Prop}:∀{t:Ty} {x:t.den} {cs:List Value},bD w I t x cs->cs.length=t.size:=by
 intro t;induction t with
 | int k=>intro x cs h;rw[h.1];rfl
 | bool=>intro x cs h;rw[h];rfl
 | str=>intro x cs h;rw[h.1];rfl
 | slice e l=>intro x cs h;rcases h with ⟨⟨_,h⟩,_⟩|⟨_,_,_,h,_⟩<;>rw[h]<;>rfl
 | arr n e l=>intro x cs h;exact h.2.1
 | pair a b f g=>intro x cs h;obtain⟨o,p,rfl,i,m⟩:=h;rw[gI,f i,g m];rfl
 | unit=>intro x cs h;rw[h];rfl
 | alt u a r f j =>
   intro x cs h;rcases x with y|z
   .obtain⟨i,c,rfl,_⟩:=h;exact i.symm
   .exact j (show bD w I r z cs from h)
 | za=>intro x cs h;rw[show cs=_ from h];rfl
theorem bD.mono{w w':World}{I I':Nat->Nat->Prop}(D:∀b o,I b o->I' b o)(E:∀b o,I b o->w'.cell? ⟨b,o,none⟩=w.cell? ⟨b,o,none⟩) :
  ∀{t:Ty} {x:t.den} {cs:List Value},bD w I t x cs->bD w' I' t x cs:=by
 intro t;induction t with
 | int k=>intro x cs h;exact h
 | bool=>intro x cs h;exact h
 | str=>intro x cs h;exact h
 | slice e m =>
   intro x cs h;rcases h with h|⟨blk,off,p,g,l,q,F⟩
   .exact .inl h
   .refine .inr ⟨blk,off,p,g,l,q,λi y s=>?_⟩;obtain⟨es,G,H,J⟩:=F i y s;exact⟨es,G,λj v K=>by obtain⟨a,b⟩:=H j v K;exact⟨by rw[E _ _ b];exact a,D _ _ b⟩,m J⟩
 | arr n e m=>intro x cs h;exact⟨h.1,h.2.1,λi y s=>m (h.2.2 i y s)⟩
 | pair a b f A=>intro x cs h;obtain⟨L,M,O,g,l⟩:=h;exact⟨L,M,O,f g,A l⟩
 | unit=>intro x cs h;exact h
 | alt u a r f C =>
   intro x cs h;rcases x with y|z
   .obtain⟨g,c,l,q⟩:=h;exact⟨g,c,l,f q⟩
   .exact C (show bD w I r z cs from h)
 | za=>intro x cs h;exact h
theorem bD.one{w:World}{I:Nat->Nat->Prop}:∀{t:Ty} {x:t.den} {cs:List Value},bD w I t x cs->∀v∈cs,v.oneCell'=true:=by
 intro t;induction t with
 | int k=>intro x cs h v f;rw[h.1] at f;simp at f;subst f;rfl
 | bool=>intro x cs h v f;rw[h] at f;simp at f;subst f;rfl
 | str=>intro x cs h v f;rw[h.1] at f;simp at f;subst f;rfl
 | slice e s=>intro x cs h v f;rcases h with ⟨⟨_,h⟩,_⟩|⟨_,_,_,h,_⟩<;>rw[h] at f<;>simp at f<;>subst f<;>rfl
 | arr n e s =>
   intro x cs h v f;obtain⟨i,j,A⟩:=h;obtain⟨k,D,l⟩:=MO f;have C:0<e.size:=by
    rcases Qp e.size with m|m
    .rw[m,Nat.mul_zero] at j;omega
    .exact m
   have hdiv:k / e.size<n:=by rw[Vn C];omega
   have hx:∃y,(show List e.den from x)[k / e.size]?=some y:=⟨_,gH (by rw[i];exact hdiv)⟩;obtain⟨y,E⟩:=hx;refine s (A _ y E) v ?_;have F:=wM k C;have o:k / e.size*e.size+k % e.size=k:=by rw[Vy];exact Qs k e.size
   have:((cs.drop<|k / e.size*e.size).take e.size)[k % e.size]?=some v:=by
    rw[fA,aV F,mF,o,gH D,l]
   exact eF this
 | pair a b g p =>
   intro x cs h v f;obtain⟨G,H,rfl,i,j⟩:=h;rcases ra.1 f with f|f
   .exact g i v f
   .exact p j v f
 | unit=>intro x cs h v f;rw[h] at f;cases f
 | alt u a r g q =>
   intro x cs h v f;rcases x with y|z
   .obtain⟨i,c,rfl,A⟩:=h;simp at f;subst f;rfl
   .exact q (show bD w I r z cs from h) v f
 | za=>intro x cs h v f;rw[show cs=_ from h] at f;simp at f;subst f;rfl
theorem rD{w:World}{I:Nat->Nat->Prop}:∀{t:Ty} {x:t.den} {cs:List Value},bD w I t x cs->(bW t cs).cells.toList=cs:=by
 intro t;induction t with
 | int k=>intro x cs h;unfold bW;rw[h.1];rfl
 | bool=>intro x cs h;unfold bW;rw[h];rfl
 | str=>intro x cs h;unfold bW;rw[h.1];rfl
 | slice e=>intro x cs h;unfold bW;rcases h with ⟨⟨_,h⟩,_⟩|⟨_,_,_,h,_⟩<;>rw[h]<;>rfl
 | arr n e=>intro x cs h;rfl
 | pair a b=>intro x cs h;rfl
 | unit=>intro x cs h;rfl
 | alt u a r g f =>
   intro x cs h;rcases x with y|z
   .obtain⟨i,c,rfl,j⟩:=h;unfold bW Ty.isAgg;cases r.isAgg<;>rfl
   .exact f (show bD w I r z cs from h)
 | za=>intro x cs h;unfold bW;rw[show cs=_ from h];rfl
inductive Mode where
 | cells|val|many
def uq(b:Option Addr)(c:Nat):Prop:=c=0\/∃e f,b=some ⟨e,f,none⟩
def cC:List BV->Nat
 | []=>0
 | .fW _ off::p=>off+cC p
 | .idx i size::p=>i.toNat*size+cC p
theorem zp(p q:List BV):cC (p++q)=cC p+cC q:=by
 induction p with
 | nil=>simp[cC]
 | cons s p b=>cases s<;>simp[cC,b]<;>omega
section
variable (γ:Gh) (mem:Nat->Option bB) (w:World)
def C0(g:bB)(b:Nat)(h:Int)(c:Option Addr)(e:Nat):Prop:=h=0->g.buf=true->(γ.loc b=none/\c=none/\e=0)\/∃f,γ.loc b=some (f,e)/\c=some ⟨f,0,none⟩
def C1(I:Nat->Nat->Prop)(b c:Nat)(e:List Value):Prop:=∀(j:Nat) v,e[j]?=some v->w.cell? ⟨b,c+j,none⟩=some v/\I b (c+j)
def mO(b c:Nat)(K:bB->Prop):Prop:=∃e,mem b=some e/\c<=e.aM/\(e.aM=c->K e)
def cf:aL->Mode->List Value->Prop
 | .undef,.val,vs=>∃v,vs=[v]
 | .undef,.cells,vs=>∃v,vs=[v]/\v.oneCell'=true
 | .undef,.many,_=>False
 | .data t x,.cells,vs=>bD w γ.I t x vs
 | .data t x,.val,vs=>∃cs,bD w γ.I t x cs/\vs=[bW t cs]
 | .data _ _,.many,_=>False
 | .mix a b,.cells,vs=>∃l m,vs=l++m/\cf a .cells l/\cf b .cells m
 | .mix a b,.val,vs=>∃l m,vs=[.agg (l++m).toArray]/\cf a .cells l/\cf b .cells m
 | .mix a b,.many,vs=>∃v r,vs=v::r/\cf a .val [v]/\cf b .many r
 | .nl,.many,vs=>vs=[]
 | .nl,_,_=>False
 | .yC u,.val,vs=>∃h:Array Value,vs=[.tuple h]/\cf u .many h.toList
 | .yC _,_,_=>False
 | .dM,.many,_=>False
 | .dM,_,vs=>vs=[.pointer none]
 | .sf,.many,_=>False
 | .sf,_,vs=>vs=[.nilIface]
 | .vj _ _,.many,_=>False
 | .vj b aM,_,vs=>(∃v,vs=[v]/\v.oneCell'=true)/\mO mem b aM λ_=>∃g cap,γ.loc b=some (g,cap)/\(vs=[.pointer none]\/vs=[.pointer<|some ⟨g,0,none⟩])
 | .oq,.many,_=>False
 | .oq,_,vs=>vs=[.slice none 0 0]
 | .cell _ _,.many,_=>False
 | .cell t x,_,vs=>∃g off cs,vs=[.pointer<|some ⟨g,off,none⟩]/\bD w γ.I t x cs/\C1 w γ.I g off cs
 | .ptr _ _ _,.many,_=>False
 | .ptr b aM p,_,vs=>(∃v,vs=[v]/\v.oneCell'=true)/\mO mem b aM λ_=>∃g cap,γ.loc b=some (g,cap)/\vs=[.pointer<|some ⟨g,cC p,none⟩]
 | .whole _ _,.many,_=>False
 | .whole b aM,_,vs=>(∃v,vs=[v]/\v.oneCell'=true)/\mO mem b aM λbx=>∃e n,bx.buf=true/\bx.row=some (e,n) /\
  ((γ.loc b=none/\vs=[.slice none 0 0])\/∃g cap,γ.loc b=some (g,cap)/\vs=[.slice (some ⟨g,0,none⟩) n cap])
 | .part _ _ _ _,.many,_=>False
 | .part b aM lo n,_,vs=>(∃v,vs=[v]/\v.oneCell'=true)/\mO mem b aM λbx=>∃e k,bx.row=some (e,k)/\0<=lo/\0<=n/\lo+n<=k /\
  ∃base cap,vs=[.slice base n.toNat cap]/\n.toNat<=cap/\cap<=maxLen/\(uq base cap/\C0 γ bx b lo base cap)/\(n=0\/∃g c,γ.loc b=some (g,c)/\base=some ⟨g,lo.toNat*e.size,none⟩)
 | .win _ _ _ _ _ _ _,.many,_=>False
 | .win b aM q e k lo n,_,vs=>(∃v,vs=[v]/\v.oneCell'=true)/\mO mem b aM λ_=>q≠[]/\∃g c,γ.loc b=some (g,c)/\0<=lo/\0<=n/\lo+n<=k /\
  ∃base cap,vs=[.slice base n.toNat cap]/\n.toNat<=cap/\(n=0\/base=some ⟨g,cC q+lo.toNat*e.size,none⟩)
 | .fn _ _,.many,_=>False
 | .fn f j,_,vs=>∃h:Array Value,vs=[wP f h]/\h.size=j.length /\
  ∀(i:Nat) b aM,j[i]?=some (b,aM)->mO mem b aM λ_=>∃g cap,γ.loc b=some (g,cap)/\h[i]?=some (.pointer<|some ⟨g,0,none⟩)
def mi(c:Array Value)(e:Nat×Nat):Prop:=∀b,b<c.size->¬(e.1<=b/\b<e.2)
def Ty.isInt:Ty->Bool
 | .int _=>true
 | _=>false
structure Zx (e:Ty) (cur:Array Value) (fr:Nat×Nat):Prop where
 th:mi cur fr
 um:e.isInt=false->¬(fr.1<=cur.size/\cur.size<fr.2)
def cB(b:Nat)(bx:bB):Prop :=
 match bx.buf with
 | true=>∃(e:Ty) (l:List e.den),bx.val=.data (.slice e) l/\0<e.size /\
  ((γ.loc b=none/\l=[])\/∃f cap c tid g,γ.loc b=some (f,cap)/\w.heap[f]?=some (.cells c tid g)/\Zx e c g/\(bx.tid=0\/tid=bx.tid)/\l.length<=cap/\cap<=maxLen /\
   c.size=cap*e.size/\∀(i:Nat) (x:e.den),l[i]?=some x->bD w γ.I e x ((c.toList.drop<|i*e.size).take e.size))
 | false=>∃f cap c tid g,γ.loc b=some (f,cap)/\w.heap[f]?=some (.cells c tid g)/\mi c g/\(bx.tid=0\/tid=bx.tid)/\cf γ mem w bx.val .cells c.toList
end
def Tp(b:bB):Nat->Prop:=λc=>b.ro=true/\(b.buf=true->∀e n,b.row=some (e,n)->c<n*e.size)
abbrev fD:=Nat->(Obj->Prop)->Prop
def vk:fD:=λ_ _=>False
def EP(G:fD)(w:World):Prop:=∀b Q,G b Q->∃o,w.heap[b]?=some o/\Q o
structure qM where
 lo:Nat
 X:Nat->Prop
 G:fD
def qM.has(B:qM)(k:Nat):Prop:=B.lo<=k\/B.X k
def mo(G:fD)(n:Nat):qM:=⟨n,λ_=>False,G⟩
theorem qM.new{B:qM}{n:Nat}(h:B.lo<=n):B.has n:=.inl h
theorem p5{G:fD}{n k:Nat}:(mo G n).has k↔n<=k:=⟨λh=>h.elim id False.elim,.inl⟩
structure tX (B:qM) (w w':World):Prop where
 os:w'.os=w.os
 tape:w'.tape=w.tape
 output:w'.output=w.output
 size:w.heap.size<=w'.heap.size
 block:∀k,¬B.has k->w'.heap[k]?=w.heap[k]?
theorem tX.refl(B:qM)(w:World):tX B w w:=⟨rfl,rfl,rfl,bZ _,λ_ _=>rfl⟩
theorem tX.trans{B:qM}{a b c:World}(h:tX B a b)(k:tX B b c):tX B a c :=
 ⟨k.os.trans h.os,k.tape.trans h.tape,k.output.trans h.output,fM h.size k.size,λi e=>(k.block i e).trans (h.block i e)⟩
theorem tX.of{B:qM}{w b:World}(h:RowKit.Below B.lo w b):tX B w b:=⟨h.os,h.tape,h.output,h.size,λk c=>h.block k (Vt λq=>c (.inl q))⟩
theorem tX.below{G:fD}{n:Nat}{w b:World}(h:tX (mo G n) w b):RowKit.Below n w b:=⟨h.os,h.tape,h.output,h.size,λk c=>h.block k λq=>by have:=p5.1 q;omega⟩
theorem tX.drew{B:qM}{a w:World}(h:tX B a w):tX B a w.drew:=⟨h.os,h.tape,h.output,h.size,h.block⟩
theorem tX.alloc{B:qM}{a w:World}(h:tX B a w)(b:B.lo<=w.heap.size)(o:Obj):tX B a (w.alloc o):=h.trans (.of<|(RowKit.Below.refl _ _).alloc b o)
structure bu (B:qM) (γ:Gh) (mem:Nat->Option bB) (w:World):Prop where
 base:B.lo<=w.heap.size
 boxes:∀b bx,mem b=some bx->cB γ mem w b bx
 inj:∀b c blk k k',mem b≠none->mem c≠none->γ.loc b=some (blk,k)->γ.loc c=some (blk,k')->b=c
 fresh:∀b blk k,mem b≠none->γ.loc b=some (blk,k)->B.has blk/\blk<w.heap.size
 sg:∀blk off,γ.I blk off->blk<w.heap.size
 sep:∀b bx blk k off,mem b=some bx->γ.loc b=some (blk,k)->γ.I blk off->Tp bx off
 cT:∀b Q,B.G b Q->¬B.has b/\∃o,w.heap[b]?=some o/\Q o
structure cM (B:qM) (N:Nat) (γ:Gh) (σ:St) (a:Act) (w:World):Prop where
 slots:∀t,cf γ σ.mem w (σ.slots t) .val [a.tmps.getD t undef]
 size:a.tmps.size=N
 defers:a.defers=[]
 ok:bu B γ σ.mem w
structure Ext (B:qM) (γ:Gh) (mem:Nat->Option bB) (w:World) (bM:Gh) (dO:Nat->Option bB) (w':World):Prop where
 below:tX B w w'
 I:∀b o,γ.I b o->bM.I b o
 ox:∀b o,bM.I b o->γ.I b o\/B.has b
 cells:∀b o,γ.I b o->w'.cell? ⟨b,o,none⟩=w.cell? ⟨b,o,none⟩
 boxes:∀b bx,mem b=some bx->∃si,dO b=some si/\bx.aM<=si.aM/\(si.aM=bx.aM->bM.loc b=γ.loc b/\si.buf=bx.buf/\si.row=bx.row)
theorem bu.C2{B:qM}{k j:Gh}{e f:Nat->Option bB}{w l:World}(h:bu B k e w)(x:Ext B k e w j f l):∀b Q,B.G b Q->¬B.has b/\∃o,l.heap[b]?=some o/\Q o:=λb Q g=>by
 obtain⟨i,o,c,q⟩:=h.cT b Q g;exact⟨i,o,(x.below.block b i).trans c,q⟩
theorem bu.Ow{B:qM}{e:Gh}{c:Nat->Option bB}{w:World}(h:bu B e c w):EP B.G w:=λb Q g=>(h.cT b Q g).2
theorem Ext.refl(B:qM)(γ:Gh)(mem:Nat->Option bB)(w:World):Ext B γ mem w γ mem w :=
 ⟨tX.refl _ _,λ_ _ h=>h,λ_ _ h=>.inl h,λ_ _ _=>rfl,λb bx h=>⟨bx,h,bZ _,λ_=>⟨rfl,rfl,rfl⟩⟩⟩
theorem Ext.trans{B:qM}{n j f:Gh}{l g c:Nat->Option bB}{w p m:World}(h:Ext B n l w j g p)(k:Ext B j g p f c m) :
  Ext B n l w f c m where
 below:=h.below.trans k.below
 I:=λb o x=>k.I _ _ (h.I _ _ x)
 ox:=λb o x=>by
  rcases k.ox b o x with y|y
  .exact h.ox b o y
  .exact .inr y
 cells:=λb o x=>(k.cells _ _<|h.I _ _ x).trans (h.cells _ _ x)
 boxes:=λb bx x=>by
  obtain⟨si,q,r,s⟩:=h.boxes b bx x;obtain⟨i,t,u,v⟩:=k.boxes b si q;refine⟨i,t,fM r u,λe=>?_⟩;have z:si.aM=bx.aM:=by omega
  have A:i.aM=si.aM:=by omega
  obtain⟨C,D,E⟩:=s z;obtain⟨F,G,H⟩:=v A;exact⟨F.trans C,G.trans D,H.trans E⟩
theorem mO.ext{B:qM}{k j:Gh}{g c:Nat->Option bB}{w o:World}(h:Ext B k g w j c o){b i:Nat}{K l:bB->Prop}(p:mO g b i K)
  (q:∀f si,g b=some f->c b=some si->j.loc b=k.loc b->si.buf=f.buf->si.row=f.row->K f->l si):mO c b i l:=by
 obtain⟨f,m,r,s⟩:=p;obtain⟨si,n,t,u⟩:=h.boxes b f m;refine⟨si,n,fM r t,λe=>?_⟩;have v:f.aM=i:=by omega
 obtain⟨x,y,z⟩:=u (by omega);exact q f si m n x y z (s v)
theorem C1.ext{w e:World}{I f:Nat->Nat->Prop}(g:∀b o,I b o->f b o)(i:∀b o,I b o->e.cell? ⟨b,o,none⟩=w.cell? ⟨b,o,none⟩){blk c:Nat}{cs:List Value}
  (h:C1 w I blk c cs):C1 e f blk c cs :=
 λj v k=>by obtain⟨a,b⟩:=h j v k;exact⟨by rw[i _ _ b];exact a,g _ _ b⟩
theorem cf.ext{B:qM}{M F:Gh}{G s:Nat->Option bB}{w O:World}(h:Ext B M G w F s O):∀{v:aL} {m:Mode} {vs:List Value},cf M G w v m vs->cf F s O v m vs:=by
 intro v;induction v with
 | undef=>intro m vs r;cases m<;>exact r
 | data t x =>
   intro m vs r;cases m with
   | cells=>exact bD.mono h.I h.cells r
   | val=>obtain⟨cs,g,j⟩:=r;exact⟨cs,bD.mono h.I h.cells g,j⟩
   | many=>exact r
 | oq=>intro m vs r;cases m<;>exact r
 | dM=>intro m vs r;cases m<;>exact r
 | sf=>intro m vs r;cases m<;>exact r
 | vj b aM =>
   intro m vs r;cases m with
   | many=>exact r
   | cells=>exact⟨r.1,r.2.ext h λl si _ _ c _ _ k=>by rw[c];exact k⟩
   | val=>exact⟨r.1,r.2.ext h λl si _ _ c _ _ k=>by rw[c];exact k⟩
 | cell t x =>
   intro m vs r;cases m with
   | many=>exact r
   | cells=>obtain⟨blk,y,cs,g,j,z⟩:=r;exact⟨blk,y,cs,g,bD.mono h.I h.cells j,z.ext h.I h.cells⟩
   | val=>obtain⟨blk,y,cs,g,j,z⟩:=r;exact⟨blk,y,cs,g,bD.mono h.I h.cells j,z.ext h.I h.cells⟩
 | ptr b aM p =>
   intro m vs r;cases m with
   | many=>exact r
   | cells=>exact⟨r.1,r.2.ext h λl si _ _ c _ _ k=>by rw[c];exact k⟩
   | val=>exact⟨r.1,r.2.ext h λl si _ _ c _ _ k=>by rw[c];exact k⟩
 | whole b aM =>
   intro m vs r;cases m with
   | many=>exact r
   | cells=>exact⟨r.1,r.2.ext h λl si _ _ c A C k=>by rw[c,A,C];exact k⟩
   | val=>exact⟨r.1,r.2.ext h λl si _ _ c A C k=>by rw[c,A,C];exact k⟩
 | part b aM lo n =>
   intro m vs r;cases m with
   | many=>exact r
   | cells=>exact⟨r.1,r.2.ext h λl si _ _ c A C k=>by unfold C0 at k⊢;rw[c,A,C];exact k⟩
   | val=>exact⟨r.1,r.2.ext h λl si _ _ c A C k=>by unfold C0 at k⊢;rw[c,A,C];exact k⟩
 | win b aM q e k lo n =>
   intro m vs r;cases m with
   | many=>exact r
   | cells=>exact⟨r.1,r.2.ext h λl si _ _ c _ _ k=>by rw[c];exact k⟩
   | val=>exact⟨r.1,r.2.ext h λl si _ _ c _ _ k=>by rw[c];exact k⟩
 | fn f Q =>
   intro m vs r;cases m with
   | many=>exact r
   | cells=>obtain⟨o,g,j,z⟩:=r;exact⟨o,g,j,λi b aM L=>(z i b aM L).ext h λl si _ _ c _ _ k=>by rw[c];exact k⟩
   | val=>obtain⟨o,g,j,z⟩:=r;exact⟨o,g,j,λi b aM L=>(z i b aM L).ext h λl si _ _ c _ _ k=>by rw[c];exact k⟩
 | mix a b D E =>
   intro m vs r;cases m with
   | cells=>obtain⟨H,J,K,g,j⟩:=r;exact⟨H,J,K,D g,E j⟩
   | val=>obtain⟨H,J,K,g,j⟩:=r;exact⟨H,J,K,D g,E j⟩
   | many=>obtain⟨H,J,K,g,j⟩:=r;exact⟨H,J,K,D g,E j⟩
 | yC u R =>
   intro m vs r;cases m with
   | val=>obtain⟨o,g,j⟩:=r;exact⟨o,g,R j⟩
   | cells=>exact r
   | many=>exact r
 | nl=>intro m vs r;cases m<;>exact r
def eP:Ty->List Value
 | .int k=>[.int k 0]
 | .bool=>[.bool false]
 | .str=>[.string ⟨#[]⟩]
 | .slice _=>[.slice none 0 0]
 | .arr n e=>(List.replicate n<|eP e).flatten
 | .pair a b=>eP a++eP b
 | .unit=>[]
 | .alt _ _ r=>eP r
 | .za=>[.nilIface]
theorem dQ(t:Ty):(eP t).length=t.size:=by
 induction t with
 | arr n e h=>simp[eP,Ty.size,h]
 | pair a b c f=>simp[eP,Ty.size,c,f]
 | alt u a r c g=>exact g
 | _=>rfl
theorem eL{b:Type}(l:List b):∀(n i:Nat),i<n->((List.replicate n l).flatten.drop<|i*l.length).take l.length=l
 | 0,i,h=>absurd h (by omega)
 | n+1,0,_=>by simp[YY]
 | n+1,i+1,h=>by
   rw[YY,Y4,zg,Vz,<-vb,Bb];exact eL l n i (by omega)
theorem nJ(w:World)(I:Nat->Nat->Prop):∀t:Ty,bD w I t t.zero (eP t):=by
 intro t;induction t with
 | int k=>exact⟨rfl,by cases k<;>decide,by cases k<;>decide⟩
 | bool=>rfl
 | str=>exact⟨rfl,mK _⟩
 | slice e j=>exact .inl ⟨⟨none,rfl⟩,rfl⟩
 | arr n e j =>
   refine⟨Ql,by rw[dQ];rfl,λi x l=>?_⟩;have c:(List.replicate n e.zero)[i]?=some x:=l;rw[Vl] at c;split at c
   .rename_i m;obtain rfl:e.zero=x:=by simpa using c
    have:=eL (eP e) n i m;rw[dQ] at this;show bD w I e e.zero (((List.replicate n<|eP e).flatten.drop<|i*e.size).take e.size)
    rw[this];exact j
   .cases c
 | pair a b f g=>exact⟨_,_,rfl,f,g⟩
 | unit=>rfl
 | alt u a r f h=>exact h
 | za=>rfl
def Ox:Value->Value->Bool
 | .int k n,.int c m=>Nat.beq (yB k) (yB c)&&decide (n=m)
 | .bool a,.bool b=>a==b
 | .string a,.string b=>decide (a.data.toList=b.data.toList)
 | .slice none 0 0,.slice none 0 0=>true
 | .pointer none,.pointer none=>true
 | .nilIface,.nilIface=>true
 | _,_=>false
theorem Tq{a b:Value}(h:Ox a b=true):a=b:=by
 unfold Ox at h;split at h
 .simp only[dv,nE] at h;rw[wN h.1,h.2]
 .simpa using h
 .rename_i a b;obtain⟨⟨a⟩⟩:=a;obtain⟨⟨b⟩⟩:=b;have c:a=b:=by simpa using h
  rw[c]
 .rfl
 .rfl
 .rfl
 .cases h
def C3:List Value->List Value->Bool
 | [],[]=>true
 | a::r,b::s=>Ox a b&&C3 r s
 | _,_=>false
theorem F1:∀{a b:List Value},C3 a b=true->a=b
 | [],[],_=>rfl
 | a::r,b::s,h=>by simp only[C3,dv] at h;rw[Tq h.1,F1 h.2]
 | [],_::_,h=>by cases h
 | _::_,[],h=>by cases h
def Bl(P:Program)(c:TypeId)(b:Nat)(e:List Value):Bool :=
 match P.info? c with
 | some i=>Nat.beq i.size b&&(match i.zero with|some z=>C3 z.cells.toList e|none=>false)
 | none=>false
theorem jL{P:Program}{c:TypeId}{b:Nat}{e:List Value}(h:Bl P c b e=true) :
  ∃i z,P.info? c=some i/\i.size=b/\i.zero=some z/\z.cells.toList=e:=by
 unfold Bl at h;split at h
 .rename_i i f;simp only[dv] at h;split at h
  .rename_i z g;exact⟨i,z,f,eX h.1,g,F1 h.2⟩
  .cases h.2
 .cases h
def ER(P:Program)(b:TypeId):Bool :=
 match P.info? b with
 | some i=>Nat.ble i.bytes 32768
 | none=>false
def Ty.Zy:Ty->Bool
 | .alt _ _ r=>r.Zy
 | .za=>true
 | _=>false
def eZ(P:Program):Ty->Bool->TypeId->Nat->List Field->Bool
 | .int k,false,tid,_,_=>(match P.underlying tid with|some (.int g)=>Nat.beq (yB k) (yB g)|_=>false)&&Bl P tid 1 [.int k 0]
 | .bool,false,tid,_,_=>(match P.underlying tid with|some .bool=>true|_=>false)&&Bl P tid 1 [.bool false]
 | .str,false,tid,_,_=>(match P.underlying tid with|some .string=>true|_=>false)&&Bl P tid 1 [.string ⟨#[]⟩]
 | .slice e,false,tid,_,_=>(match P.underlying tid with|some (.slice c)=>eZ P e false c 0 []&&ER P c&&Nat.blt 0 e.size|_=>false)&&Bl P tid 1 [.slice none 0 0]
 | .arr n e,false,tid,_,_=>(match P.underlying tid with|some (.array m c)=>Nat.beq n m&&eZ P e false c 0 []&&Nat.blt 0 e.size|_=>false)&&Bl P tid (n*e.size) (eP<|.arr n e)&&!P.eqGuardType P.depth tid
 | .pair a b,false,tid,_,_=>(match P.underlying tid with
  | some (.struct h)=>(match h.toList with
    | f::r=>Nat.beq f.offset 0&&decide (f.name ≠ "_")&&eZ P a false f.type 0 []&&Nat.blt 0 a.size&&eZ P b true 0 a.size r
    | []=>false)
  | _=>false)&&Bl P tid (a.size+b.size) (eP<|.pair a b)&&!P.eqGuardType P.depth tid&&!P.stoodInHeld tid
 | .unit,false,tid,_,_=>false
 | .alt u _ r,false,tid,_,_=>eZ P r false tid 0 []&&P.concrete u&&r.Zy
 | .za,false,tid,_,_=>(match P.underlying tid with|some (.interface _)=>true|_=>false)&&Bl P tid 1 [.nilIface]
 | .pair a b,true,_,off,f::r=>Nat.beq f.offset off&&decide (f.name ≠ "_")&&eZ P a false f.type 0 []&&Nat.blt 0 a.size&&eZ P b true 0 (off+a.size) r
 | .unit,true,_,_,[]=>true
 | _,_,_,_,_=>false
def Den(P:Program)(t:Ty)(b:TypeId):Prop:=eZ P t false b 0 []=true
def pS(P:Program)(t:Ty)(off:Nat)(b:List Field):Prop:=eZ P t true 0 off b=true
section
variable {P:Program} {tid:TypeId}
theorem Den.int{k:IntKind}(h:Den P (.int k) tid):P.underlying tid=some (.int k):=by
 simp only[Den,eZ,dv] at h;have b:=h.1;split at b
 .rename_i e c;rw[c,wN b]
 .cases b
theorem Den.bool(h:Den P .bool tid):P.underlying tid=some .bool:=by
 simp only[Den,eZ,dv] at h;have b:=h.1;split at b
 .rename_i c;rw[c]
 .cases b
theorem Den.str(h:Den P .str tid):P.underlying tid=some .string:=by
 simp only[Den,eZ,dv] at h;have b:=h.1;split at b
 .rename_i c;rw[c]
 .cases b
theorem Den.slice{e:Ty}(h:Den P (.slice e) tid):∃b,P.underlying tid=some (.slice b)/\Den P e b/\ER P b=true/\0<e.size:=by
 simp only[Den,eZ,dv] at h;have c:=h.1;split at c
 .rename_i b f;simp only[dv] at c;exact⟨b,f,c.1.1,c.1.2,by simpa using c.2⟩
 .cases c
theorem Den.arr{n:Nat}{e:Ty}(h:Den P (.arr n e) tid):∃b,P.underlying tid=some (.array n b)/\Den P e b/\0<e.size:=by
 simp only[Den,eZ,dv] at h;have c:=h.1.1;split at c
 .rename_i m b f;simp only[dv] at c;rw[eX c.1.1];exact⟨b,f,c.1.2,by simpa using c.2⟩
 .cases c
theorem Den.aeU{n:Nat}{e:Ty}(h:Den P (.arr n e) tid):P.eqGuardType P.depth tid=false:=by
 simp only[Den,eZ,dv,j7] at h;exact h.2
theorem Den.pair{a b:Ty}(h:Den P (.pair a b) tid):∃e,P.underlying tid=some (.struct e)/\pS P (.pair a b) 0 e.toList/\P.eqGuardType P.depth tid=false/\P.stoodInHeld tid=false:=by
 simp only[Den,eZ,dv] at h;obtain⟨⟨⟨c,l⟩,g⟩,i⟩:=h;split at c
 .rename_i e j;refine⟨e,j,?_,by simpa using g,by simpa using i⟩;split at c
  .rename_i f r k;simp only[pS,k,eZ,qI];exact c
  .cases c
 .cases c
theorem Den.info{t:Ty}(h:Den P t tid):∃i z,P.info? tid=some i/\i.size=t.size/\i.zero=some z/\z.cells.toList=eP t:=by
 induction t with
 | int k=>simp only[Den,eZ,dv] at h;exact jL h.2
 | bool=>simp only[Den,eZ,dv] at h;exact jL h.2
 | str=>simp only[Den,eZ,dv] at h;exact jL h.2
 | slice e=>simp only[Den,eZ,dv] at h;exact jL h.2
 | arr n e=>simp only[Den,eZ,dv] at h;exact jL h.1.2
 | pair a b=>simp only[Den,eZ,dv] at h;exact jL h.1.1.2
 | unit=>simp[Den,eZ] at h
 | alt u a r f c=>simp only[Den,eZ,dv] at h;exact c h.1.1
 | za=>simp only[Den,eZ,dv] at h;exact jL h.2
theorem Den.za(h:Den P .za tid):∃c,P.underlying tid=some (.interface c):=by
 simp only[Den,eZ,dv] at h;have b:=h.1;split at b
 .exact⟨_,by assumption⟩
 .cases b
theorem Den.rest{u:Nat}{a r:Ty}(h:Den P (.alt u a r) tid):Den P r tid/\P.concrete u=true:=by
 simp only[Den,eZ,dv] at h;exact h.1
theorem Ty.IK:∀{t:Ty},t.Zy=true->t.size=1/\t.isAgg=false:=by
 intro t;induction t with
 | alt u a r c b=>intro h;exact b h
 | za=>intro h;exact⟨rfl,rfl⟩
 | _=>intro h;cases h
theorem Den.Zz{u:Nat}{a r:Ty}(_:Den P r tid)(h:Den P (.alt u a r) tid):r.size=1:=by
 simp only[Den,eZ,dv] at h;exact(Ty.IK h.2).1
theorem Den.agg{t:Ty}(h:Den P t tid)(w:World):(isAgg tid).run P w=.ok t.isAgg w:=by
 induction t with
 | alt u a r f g=>exact g h.rest.1
 | za=>obtain⟨_,c⟩:=h.za;unfold Go.isAgg;simp[run_underlying c,Ty.isAgg]
 | int k=>unfold Go.isAgg;simp[run_underlying h.int,Ty.isAgg]
 | bool=>unfold Go.isAgg;simp[run_underlying h.bool,Ty.isAgg]
 | str=>unfold Go.isAgg;simp[run_underlying h.str,Ty.isAgg]
 | slice e i=>unfold Go.isAgg;obtain⟨_,c,_⟩:=h.slice;simp[run_underlying c,Ty.isAgg]
 | arr n e i=>unfold Go.isAgg;obtain⟨_,c,_⟩:=h.arr;simp[run_underlying c,Ty.isAgg]
 | pair a b f j=>unfold Go.isAgg;obtain⟨_,c,_⟩:=h.pair;simp[run_underlying c,Ty.isAgg]
 | unit=>simp[Den,eZ] at h
theorem Den.sizeOf{t:Ty}(h:Den P t tid)(w:World):(Go.sizeOf tid).run P w=.ok t.size w:=by
 obtain⟨i,z,b,c,_⟩:=h.info;simp[Go.sizeOf,typeInfo,b,c]
theorem Den.zero{t:Ty}(h:Den P t tid)(w:World):∃z,(zeroValue tid).run P w=.ok z w/\z.cells.toList=eP t:=by
 obtain⟨i,z,b,f,c,e⟩:=h.info;exact⟨z,by simp[zeroValue,typeInfo,b,c],e⟩
theorem Den.cells{t:Ty}(h:Den P t tid):P.cellsOf tid=t.size:=by
 obtain⟨i,z,b,c,_⟩:=h.info;simp[Program.cellsOf,b,c]
theorem pS.cons{a b:Ty}{off:Nat}{c:List Field}(h:pS P (.pair a b) off c) :
  ∃f r,c=f::r/\f.offset=off/\f.name ≠ "_"/\Den P a f.type/\0<a.size/\pS P b (off+a.size) r:=by
 cases c with
 | nil=>simp[pS,eZ] at h
 | cons f r =>
   simp only[pS,eZ,dv] at h;obtain⟨⟨⟨⟨e,g⟩,i⟩,j⟩,k⟩:=h;exact⟨f,r,rfl,eX e,by simpa using g,i,by simpa using j,k⟩
theorem pS.at{t:Ty}:∀{off:Nat} {g:List Field} {k:Nat} {u:Ty} {o:Nat},pS P t off g->uf t k=some u->jJ t k=some o ->
  ∃f,g[k]?=some f/\f.offset=off+o/\Den P u f.type/\0<u.size:=by
 induction t with
 | pair a b l i =>
   intro off g k u o h e c;obtain⟨f,r,rfl,y,z,m,n,p⟩:=h.cons;cases k with
   | zero =>
     simp only[uf,jJ,sa] at e c;subst e c;exact⟨f,rfl,by omega,m,n⟩
   | succ k =>
     simp only[uf,jJ] at e c;cases j:jJ b k with
     | none=>rw[j] at c;cases c
     | some A =>
       rw[j] at c;simp only[EG,sa] at c;obtain⟨q,s,C,v,x⟩:=i p e j;exact⟨q,by simpa using s,by omega,v,x⟩
 | _=>intro off g k u o h e c;cases k<;>simp[uf] at e
end
def nG.cells:nG->List Value
 | .zf t=>eP t
 | .buf _ _=>[.slice none 0 0]
 | _=>[.pointer none]
def IL:List nG->List Value
 | []=>[]
 | f::r=>f.cells++IL r
def adk:List nG->Nat
 | []=>0
 | f::r=>f.size+adk r
def M7(P:Program):Nat->List nG->List Field->Bool
 | _,[],[]=>true
 | off,f::r,g::s=>Nat.beq g.offset off&&Nat.blt 0 f.size&&(match P.info? g.type with|some i=>Nat.beq i.size f.size|none=>false)&&M7 P (off+f.size) r s
 | _,_,_=>false
def IM(P:Program)(b:TypeId)(c:List nG):Bool :=
 (match P.underlying b with|some (.struct gs)=>M7 P 0 c gs.toList|_=>false)&&Bl P b (adk c) (IL c)
theorem WO{P:Program}{b:TypeId}{c:List nG}(h:IM P b c=true)(w:World):∃z,(zeroValue b).run P w=.ok z w/\z.cells.toList=IL c:=by
 simp only[IM,dv] at h;obtain⟨i,z,e,j,f,g⟩:=jL h.2;exact⟨z,by simp[zeroValue,typeInfo,e,f],g⟩
theorem ZA{P:Program}:∀{c:List nG} {gs:List Field} {off k o:Nat},M7 P off c gs=true->xI c k=some o->∃f i,gs[k]?=some f/\f.offset=off+o/\P.info? f.type=some i/\0<i.size:=by
 intro c;induction c with
 | nil=>intro gs off k o h b;cases b
 | cons f r l =>
   intro gs off k o h b;cases gs with
   | nil=>cases h
   | cons g s =>
     simp only[M7,dv] at h;obtain⟨⟨⟨m,n⟩,e⟩,p⟩:=h;cases k with
     | zero =>
       obtain rfl:=aG b;split at e
       .rename_i i q;have t:=eX e;have u:0<f.size:=by simpa using n
        exact⟨g,i,rfl,by rw[eX m];rfl,q,by omega⟩
       .cases e
     | succ k =>
       simp only[xI] at b;split at b
       .rename_i A j;obtain rfl:=aG b;obtain⟨v,i,x,C,y,z⟩:=l p j;exact⟨v,i,x,by omega,y,z⟩
       .cases b
theorem abC{P:Program}{b:TypeId}{e:List nG}{k o:Nat}(h:IM P b e=true)(g:xI e k=some o):∃(gs:Array Field) (f:Field) (i:TypeInfo),P.underlying b=some (.struct gs)/\gs.toList[k]?=some f/\f.offset=o/\P.info? f.type=some i/\0<i.size:=by
 simp only[IM,dv] at h;obtain⟨c,_⟩:=h;split at c
 .rename_i gs j;obtain⟨f,i,l,p,m,n⟩:=ZA c g;exact⟨gs,f,i,j,l,by omega,m,n⟩
 .cases c
theorem C4{P:Program}:∀{b:List nG} {gs:List Field} {off:Nat},M7 P off b gs=true->∃e:List (Nat×Nat),gs.mapM (λf=>(P.info? f.type).map λi=>(f.offset,i.size))=some e /\
  ∀k o f,xI b k=some o->b[k]?=some f->e[k]?=some (off+o,f.size):=by
 intro b;induction b with
 | nil =>
   intro gs off h;cases gs with
   | nil=>exact⟨[],rfl,λk o f _ n=>by cases n⟩
   | cons g s=>cases h
 | cons f r p =>
   intro gs off h;cases gs with
   | nil=>cases h
   | cons g s =>
     simp only[M7,dv] at h;obtain⟨⟨⟨t,A⟩,j⟩,u⟩:=h;obtain⟨e,v,x⟩:=p u;split at j
     .rename_i i y;refine⟨(g.offset,i.size)::e,by simp[y,v],λk o q c m=>?_⟩;cases k with
      | zero =>
        obtain rfl:=aG c;obtain rfl:=aG m;rw[YQ,eX t,eX j];rfl
      | succ k =>
        simp only[xI] at c;split at c
        .rename_i z l;obtain rfl:=aG c;have:=x k z q l (by simpa using m);rw[Qj,this,xF]
        .cases c
     .cases j
structure fv (P:Program) (cx:Ctx):Prop where
 T:∀tid t,find cx.T tid=some t->Den P t tid
 rb:∀tid,cI cx.rb tid=true->(∀w,(isAgg tid).run P w=.ok false w)/\(∀w,(Go.sizeOf tid).run P w=.ok 1 w)/\∃z,(∀w,(zeroValue tid).run P w=.ok z w)/\z.oneCell'=true
 lu:∀tid,cI cx.lu tid=true->∃e,P.underlying tid=some (.pointer e)
 fns:∀f fn,find cx.fns f=some fn->P.funcs[f]?=some fn
 sS:∀tid fs,find cx.sS tid=some fs->IM P tid fs=true
 VC:∀tid e,find cx.VC tid=some e->P.underlying tid=some (.slice e)
theorem iY{o:Option Ty}{t:Ty}(h:EJ o t=true):o=some t:=by
 unfold EJ at h;split at h
 .rw[Ty.eq_of_beq h]
 .cases h
theorem addr_add(b o n:Nat):Addr.add ⟨b,o,none⟩ n=⟨b,o+n,none⟩:=by
 unfold Addr.add;split<;>simp_all
def aR(l:List Value)(b:Nat)(c:List Value):List Value:=l.take b++c++l.drop (b+c.length)
theorem bL{l c:List Value}{b:Nat}(h:b+c.length<=l.length):(aR l b c).length=l.length:=by
 simp[aR];omega
theorem mi.same{cur b:Array Value}{c:Nat×Nat}(h:mi cur c)(e:b.size=cur.size):mi b c:=λo f=>h o (by omega)
section
variable {P:Program}
theorem Zx.same{e:Ty}{cur b:Array Value}{c:Nat×Nat}(h:Zx e cur c)(f:b.size=cur.size):Zx e b c:=⟨h.th.same f,λg=>by rw[f];exact h.um g⟩
theorem cL(g o:Nat)(t:TypeId)(f:Nat×Nat):∀(vs:List Value) (i:Nat) (cur:Array Value) (w:World),w.heap[g]?=some (.cells cur t f)->mi cur f ->
  o+i+vs.length<=cur.size->(∀v∈vs,v.oneCell'=true)->(storeCells ⟨g,o,none⟩ vs i).run P w=.ok () (w.setRow g (aR cur.toList (o+i) vs).toArray)
 | [],i,cur,w,h,_,_,_=>by
   simp only[storeCells,aR,y9,eG,wL,vV,Array.toArray_toList];rw[setRow_self w g cur t f h];rfl
 | v::rest,i,cur,w,h,j,l,n=>by
   have hi:o+i<cur.size:=by simp at l;omega
   have c:w.cell? ⟨g,o+i,none⟩=some cur[o+i]:=by simp[World.cell?,h,hi]
   have k:w.frozen? ⟨g,o+i,none⟩=false:=by
    have:=j (o+i) hi;simp only[World.frozen?,h];obtain⟨a,b⟩:=f;simp only[Bool.and_eq_false_iff,GK];simp only at this;omega
   have m:(store ((⟨g,o,none⟩:Addr).add i) v).run P w=.ok () (w.setRow g<|cur.setIfInBounds (o+i) v):=by
    rw[addr_add,run_store P w _ v _ (n v<|by simp),c];simp[k,setCell_eq_setRow w g (o+i) cur t f v h]
   have p:=cL g o t f rest (i+1) (cur.setIfInBounds (o+i) v) (w.setRow g<|cur.setIfInBounds (o+i) v) (setRow_heap w g cur _ t _ h) (j.same<|by simp) (by simp at l⊢;omega) (λx q=>n x (by simp[q]));simp only[storeCells,Sem.run_bind,m,Result.andThen_ok,p,setRow_setRow]
   congr 3
   have e:=list_seg_step cur.toList (o+i) v rest (by simp at l⊢;omega);simpa [aR,ac0,xF] using e
theorem cell_of_heap{w:World}{g:Nat}{cur:Array Value}{t:TypeId}{b:Nat×Nat}(c:w.heap[g]?=some (.cells cur t b))(j:Nat):w.cell? ⟨g,j,none⟩=cur[j]?:=by
 simp[World.cell?,c]
theorem Bc{w:World}{g b n:Nat}{c:Array Value}{t:TypeId}{f:Nat×Nat}(i:w.heap[g]?=some (.cells c t f))(h:b+n<=c.size) :
  (loadCells ⟨g,b,none⟩ n).run P w=.ok ((c.toList.drop b).take n).toArray w:=by
 have k:((c.toList.drop b).take n).length=n:=by simp;omega
 have:=run_loadCells_list (P:=P) w ⟨g,b,none⟩ ((c.toList.drop b).take n) (λj v e=>by
  rw[addr_add,cell_of_heap i];rw[fA] at e;split at e
  .rw[mF] at e;simpa using e
  .cases e)
 rwa [k] at this
theorem ES{w:World}{I:Nat->Nat->Prop}{g b:Nat}{c:List Value}(h:C1 w I g b c):(loadCells ⟨g,b,none⟩ c.length).run P w=.ok c.toArray w :=
 run_loadCells_list (P:=P) w ⟨g,b,none⟩ c (λj v e=>by rw[addr_add];exact(h j v e).1)
end
theorem iW{a b:Nat}(h:a≠b):Nat.beq a b=false:=by
 cases c:Nat.beq a b
 .rfl
 .exact absurd (eX c) h
theorem ZB(a:Act)(d t:Nat)(v:Value)(b:d<a.tmps.size):(a.put (some d) v).tmps.getD t undef=if t=d then v else a.tmps.getD t undef:=by
 simp only[Act.put,Ti,YL];by_cases h:d=t
 .subst h;simp[b]
 .rw[aX h,aX λe=>h e.symm]
theorem QI(a:Act)(d:Option Nat)(v:Value):(a.put d v).tmps.size=a.tmps.size:=by cases d<;>simp[Act.put]
theorem put_defers(a:Act)(d:Option Nat)(v:Value):(a.put d v).defers=a.defers:=by cases d<;>rfl
section
variable {B:qM} {N:Nat} {γ bM:Gh} {σ:St} {a:Act} {w w':World} {dO:Nat->Option bB}
theorem cM.step(h:cM B N γ σ a w)(b:Ext B γ σ.mem w bM dO w')(c:bu B bM dO w'){d:Nat}(f:d<N){v:aL}{val:Value}(g:cf bM dO w' v .val [val]) :
  cM B N bM ({ slots:=σ.slots,mem:=dO:St }.put d v) (a.put (some d) val) w' where
 slots:=λt=>by
  rw[ZB a d t val<|by rw[h.size];exact f];simp only[St.put];by_cases e:t=d
  .subst e;simpa using g
  .rw[aX e,iW e];exact(h.slots t).ext b
 size:=by rw[QI];exact h.size
 defers:=by rw[put_defers];exact h.defers
 ok:=c
theorem cM.go(h:cM B N γ σ a w)(b:Ext B γ σ.mem w bM dO w')(c:bu B bM dO w'):cM B N bM { slots:=σ.slots,mem:=dO } a w' where
 slots:=λt=>(h.slots t).ext b
 size:=h.size
 defers:=h.defers
 ok:=c
theorem cM.aW(h:cM B N γ σ a w)(b:Ext B γ σ.mem w bM dO w')(c:bu B bM dO w'){d:Option Nat}(e:∀k,d=some k->k<N){v:aL}{val:Value}(f:cf bM dO w' v .val [val]) :
  cM B N bM ({ slots:=σ.slots,mem:=dO:St }.aW d v) (a.put d val) w':=by
 cases d with
 | none=>exact h.go b c
 | some d=>exact h.step b c (e d rfl) f
theorem cM.ur(h:cM B N γ σ a w){d:Option Nat}(b:∀k,d=some k->k<N){v:aL}{val:Value}(c:cf γ σ.mem w v .val [val]) :
 cM B N γ (σ.aW d v) (a.put d val) w:=h.aW (Ext.refl _ _ _ _) h.ok b c
end
theorem dS{γ:Gh}{b:Nat->Option bB}{w:World}{t:Ty}{x:t.den}{v:Value}:cf γ b w (.data t x) .val [v]↔∃cs,bD w γ.I t x cs/\v=bW t cs:=by
 simp only[cf,MV,and_true]
theorem WQ(f:Gh)(e:Nat->Option bB)(w:World)(v:Value):cf f e w (Iz v) .val [v]:=by
 unfold Iz;split
 .rename_i k n;cases c:(decide (k.min<=n)&&decide (n<=k.max))
  .exact⟨_,rfl⟩
  .simp only[dv,nE] at c;exact⟨[.int k n],⟨rfl,c.1,c.2⟩,rfl⟩
 .rename_i b;exact⟨[.bool b],rfl,rfl⟩
 .rename_i s;cases c:Nat.ble s.data.toList.length 4294967296
  .exact⟨_,rfl⟩
  .refine⟨[.string s],⟨?_,?_⟩,rfl⟩
   .obtain⟨⟨l⟩⟩:=s;rfl
   .have:=BT c;simp only[maxLen];omega
 .rfl
 .rfl
 .rfl
 .exact⟨_,rfl⟩
theorem cM.cu{B:qM}{N:Nat}{e:Gh}{c:St}{a:Act}{w:World}(h:cM B N e c a w)(x:Operand):cf e c.mem w (cu c x) .val [a.eval x]:=by
 cases x with
 | tmp t=>exact h.slots t
 | const v=>exact WQ _ _ _ v
 | global g=>exact⟨_,rfl⟩
 | func f =>
   show cf e c.mem w (bif Nat.blt f 10000000 then .fn f [] else .undef) .val _
   cases j:Nat.blt f 10000000 with
   | false=>exact⟨_,rfl⟩
   | true=>exact⟨#[],by unfold wP;rw[j];rfl,rfl,λi b aM k=>by simp at k⟩
theorem F2(f:Nat)(b:Array Value):(wP f b).cells.toList=[wP f b]:=by
 simp only[wP];cases Nat.blt f 10000000<;>rfl
theorem cf.kV{K:Gh}{F:Nat->Option bB}{w:World}{v:aL}{x:Value}(h:cf K F w v .val [x])(O:∀u,v≠.yC u)(L:v=.undef->x.oneCell'=true):cf K F w v .cells x.cells.toList:=by
 cases v with
 | undef=>exact⟨x,by cases x<;>first|rfl|(have:=L rfl;simp[Value.oneCell'] at this),L rfl⟩
 | data t y=>obtain⟨cs,g,i⟩:=dS.1 h;subst i;show bD _ _ _ _ _;rw[rD g];exact g
 | oq=>obtain rfl:x=_:=by simpa [cf] using h
       rfl
 | dM=>obtain rfl:x=_:=by simpa [cf] using h
       rfl
 | sf=>obtain rfl:x=_:=by simpa [cf] using h
       rfl
 | vj b aM=>obtain⟨⟨v,g,i⟩,o⟩:=h;simp at g;subst g;refine⟨⟨x,?_,i⟩,?_⟩
            .cases x<;>first|rfl|(simp[Value.oneCell'] at i)
            .obtain⟨bx,s,z,A⟩:=o;exact⟨bx,s,z,λe=>by
              obtain⟨m,j,C,l⟩:=A e;refine⟨m,j,C,?_⟩;rcases l with l|l
              .simp at l;subst l;exact .inl rfl
              .simp at l;subst l;exact .inr rfl⟩
 | cell t y=>obtain⟨m,I,cs,g,i,o⟩:=h;simp at g;subst g;exact⟨m,I,cs,rfl,i,o⟩
 | ptr b aM p=>obtain⟨⟨v,g,i⟩,o⟩:=h;simp at g;subst g;refine⟨⟨x,?_,i⟩,?_⟩
               .cases x<;>first|rfl|(simp[Value.oneCell'] at i)
               .obtain⟨bx,s,z,A⟩:=o;exact⟨bx,s,z,λe=>by obtain⟨m,j,C,l⟩:=A e;simp at l;subst l;exact⟨m,j,C,rfl⟩⟩
 | whole b aM=>obtain⟨⟨v,g,i⟩,o⟩:=h;simp at g;subst g;refine⟨⟨x,?_,i⟩,?_⟩
               .cases x<;>first|rfl|(simp[Value.oneCell'] at i)
               .obtain⟨bx,s,z,A⟩:=o;exact⟨bx,s,z,λe=>by
                 obtain⟨u,n,C,l,D⟩:=A e;refine⟨u,n,C,l,?_⟩;rcases D with ⟨D,E⟩|⟨m,j,D,E⟩
                 .simp at E;subst E;exact .inl ⟨D,rfl⟩
                 .simp at E;subst E;exact .inr ⟨m,j,D,rfl⟩⟩
 | part b aM lo n=>obtain⟨⟨v,g,i⟩,o⟩:=h;simp at g;subst g;refine⟨⟨x,?_,i⟩,?_⟩
                   .cases x<;>first|rfl|(simp[Value.oneCell'] at i)
                   .obtain⟨bx,s,z,A⟩:=o;exact⟨bx,s,z,λe=>by
                     obtain⟨u,k,C,l,D,E,r,j,G,J⟩:=A e;simp at G;subst G;exact⟨u,k,C,l,D,E,r,j,rfl,J⟩⟩
 | win b aM q e k lo n=>obtain⟨⟨v,g,i⟩,o⟩:=h;simp at g;subst g;refine⟨⟨x,?_,i⟩,?_⟩
                        .cases x<;>first|rfl|(simp[Value.oneCell'] at i)
                        .obtain⟨bx,s,z,A⟩:=o;exact⟨bx,s,z,λe=>by
                          obtain⟨Q,u,c,C,l,D,E,r,j,G,J⟩:=A e;simp at G;subst G;exact⟨Q,u,c,C,l,D,E,r,j,rfl,J⟩⟩
 | fn f M=>obtain⟨H,g,i⟩:=h;simp at g;subst g;exact⟨H,F2 f H,i⟩
 | mix p q=>obtain⟨R,S,g,i,o⟩:=h;simp at g;subst g;exact⟨R,S,by simp[Value.cells],i,o⟩
 | yC u=>exact absurd rfl (O u)
 | nl=>exact h.elim
theorem cf.length{γ:Gh}{mem:Nat->Option bB}{w:World}:∀{v:aL} {cs:List Value},cf γ mem w v .cells cs->cs.length=cV v:=by
 intro v;induction v with
 | data t x=>intro cs h;exact bD.length h
 | mix a b c g=>intro cs h;obtain⟨m,o,rfl,j,l⟩:=h;rw[gI,c j,g l];rfl
 | undef=>intro cs h;obtain⟨v,rfl,_⟩:=h;rfl
 | oq=>intro cs h;rw[show cs=_ from h];rfl
 | dM=>intro cs h;rw[show cs=_ from h];rfl
 | sf=>intro cs h;rw[show cs=_ from h];rfl
 | vj b aM=>intro cs h;obtain⟨⟨_,rfl,_⟩,_⟩:=h;rfl
 | cell t x=>intro cs h;obtain⟨_,_,_,rfl,_⟩:=h;rfl
 | ptr b aM p=>intro cs h;obtain⟨⟨_,rfl,_⟩,_⟩:=h;rfl
 | whole b aM=>intro cs h;obtain⟨⟨_,rfl,_⟩,_⟩:=h;rfl
 | part b aM lo n=>intro cs h;obtain⟨⟨_,rfl,_⟩,_⟩:=h;rfl
 | win b aM q e k lo n=>intro cs h;obtain⟨⟨_,rfl,_⟩,_⟩:=h;rfl
 | fn f i=>intro cs h;obtain⟨_,rfl,_⟩:=h;simp only[wP];cases Nat.blt f 10000000<;>rfl
 | yC u r=>intro cs h;exact h.elim
 | nl=>intro cs h;exact h.elim
theorem cf.one{r:Gh}{j:Nat->Option bB}{w:World}:∀{v:aL} {cs:List Value},cf r j w v .cells cs->∀c∈cs,c.oneCell'=true:=by
 intro v;induction v with
 | data t x=>intro cs h;exact bD.one h
 | mix a b l m =>
   intro cs h c g;obtain⟨y,z,rfl,i,s⟩:=h;rcases ra.1 g with g|g
   .exact l i c g
   .exact m s c g
 | undef=>intro cs h c g;obtain⟨v,rfl,i⟩:=h;simp at g;subst g;exact i
 | oq=>intro cs h c g;rw[show cs=_ from h] at g;simp at g;subst g;rfl
 | dM=>intro cs h c g;rw[show cs=_ from h] at g;simp at g;subst g;rfl
 | sf=>intro cs h c g;rw[show cs=_ from h] at g;simp at g;subst g;rfl
 | vj b aM=>intro cs h c g;obtain⟨⟨_,rfl,i⟩,_⟩:=h;simp at g;subst g;exact i
 | cell t x=>intro cs h c g;obtain⟨_,_,_,rfl,_⟩:=h;simp at g;subst g;rfl
 | ptr b aM p=>intro cs h c g;obtain⟨⟨_,rfl,i⟩,_⟩:=h;simp at g;subst g;exact i
 | whole b aM=>intro cs h c g;obtain⟨⟨_,rfl,i⟩,_⟩:=h;simp at g;subst g;exact i
 | part b aM lo n=>intro cs h c g;obtain⟨⟨_,rfl,i⟩,_⟩:=h;simp at g;subst g;exact i
 | win b aM q e k lo n=>intro cs h c g;obtain⟨⟨_,rfl,i⟩,_⟩:=h;simp at g;subst g;exact i
 | fn f o=>intro cs h c g;obtain⟨_,rfl,_⟩:=h;simp at g;subst g;simp only[wP];cases Nat.blt f 10000000<;>rfl
 | yC u A=>intro cs h;exact h.elim
 | nl=>intro cs h;exact h.elim
theorem sj{α:Type}{l:List α}{i:Int}{x:α}(h:idx l i=some x):0<=i/\l[i.toNat]?=some x:=by
 unfold idx at h;split at h
 .rename_i b;exact⟨b,h⟩
 .cases h
theorem B0{w:World}{I:Nat->Nat->Prop}:∀{t:Ty} {x:t.den} {cs:List Value} {k o:Nat} {u:aL},bD w I t x cs->pe t x k=some (o,u) ->
  ∃(e:Ty) (y:e.den),u=.data e y/\uf t k=some e/\jJ t k=some o/\o+e.size<=cs.length/\bD w I e y ((cs.drop o).take e.size):=by
 intro t;induction t with
 | pair a b j g =>
   intro x cs k o u h c;obtain⟨s,v,rfl,f,l⟩:=h;cases k with
   | zero =>
     simp only[pe,sa,CL] at c;obtain⟨rfl,rfl⟩:=c;refine⟨a,x.1,rfl,rfl,rfl,by rw[gI,f.length];omega,?_⟩;rw[wK,<-f.length,Iw];exact f
   | succ k =>
     simp only[pe] at c;cases i:pe b x.2 k with
     | none=>rw[i] at c;cases c
     | some r =>
       rw[i] at c;simp only[sa,CL] at c;obtain⟨rfl,rfl⟩:=c;obtain⟨e,y,m,n,p,z,q⟩:=g l (show pe b x.2 k=some (r.1,r.2) from i);refine⟨e,y,m,n,by simp[jJ,p],by rw[gI,f.length];omega,?_⟩;rw[<-f.length,<-vb,Bb];exact q
 | _=>intro x cs k o u h c;cases k<;>simp[pe] at c
theorem ET{l:Gh}{f:Nat->Option bB}{w:World}:∀{v:aL} {cs:List Value} {k o:Nat} {u:aL},cf l f w v .cells cs->mM v k=some (o,u) ->
  o+cV u<=cs.length/\cf l f w u .cells ((cs.drop o).take<|cV u):=by
 intro v;induction v with
 | data t x =>
   intro cs k o u h c;obtain⟨p,y,rfl,_,_,e,g⟩:=B0 (w:=w) h c;exact⟨e,g⟩
 | mix a b m i =>
   intro cs k o u h c;obtain⟨q,s,rfl,e,g⟩:=h;cases k with
   | zero =>
     simp only[mM,sa,CL] at c;obtain⟨rfl,rfl⟩:=c;refine⟨by rw[gI,e.length];omega,?_⟩;rw[wK,<-e.length,Iw];exact e
   | succ k =>
     simp only[mM] at c;cases j:mM b k with
     | none=>rw[j] at c;cases c
     | some r =>
       rw[j] at c;simp only[sa,CL] at c;obtain⟨rfl,rfl⟩:=c;obtain⟨z,n⟩:=i g (show mM b k=some (r.1,r.2) from j);refine⟨by rw[gI,e.length];omega,?_⟩;rw[<-e.length,<-vb,Bb];exact n
 | _=>intro cs k o u h c;cases k<;>simp[mM] at c
theorem H2{c:Gh}{b:Nat->Option bB}{w:World}{t:Ty}{v:aL}{z:t.den}{f:List Value}(h:toS t v=some z)(g:cf c b w v .cells f):bD w c.I t z f:=by
 cases v with
 | data u y =>
   obtain⟨e,i⟩:=Ty.kR (show Ty.to u t y=some z from h);subst e;subst i;exact g
 | _=>cases h
theorem bind_some{α b:Type}{t:Tree α}{f:α->Tree b}{y:b}(h:(t.bind f).run=some y):∃x,t.run=some x/\(f x).run=some y:=by
 rw[Tree.run_bind] at h;exact A7.1 h
theorem bY{T α:Type}{o:Option T}{k:T->Tree α}{y:α}(h:(Tree.look o k).run=some y):∃x,o=some x/\(k x).run=some y:=by
 cases o with
 | none=>cases h
 | some x=>exact⟨x,rfl,h⟩
theorem cl{α:Type}{c:Bool}{t:Tree α}{y:α}(h:(Tree.need c t).run=some y):c=true/\t.run=some y:=by
 cases c with
 | false=>cases h
 | true=>exact⟨rfl,h⟩
theorem ay{α:Type}{c:Bool}{t:Tree α}{y:α}(h:(bif c then t else .fail).run=some y):c=true/\t.run=some y:=by
 cases c with
 | false=>cases h
 | true=>exact⟨rfl,h⟩
theorem gg{b:Type}{c:Bool}{t e:Tree b}{y:b}(h:(Tree.node c t e).run=some y):(bif c then t else e).run=some y:=by
 cases c<;>exact h
section
variable {γ:Gh} {mem:Nat->Option bB} {w:World}
theorem QJ:∀{t:Ty} {x:t.den} {cs:List Value} {k o:Nat} {u:aL} {y:t.den} {f:aL->Tree aL} {es:List Value},
  bD w γ.I t x cs->pe t x k=some (o,u)->(∀v,(f u).run=some v->cf γ mem w v .cells es)->(HQ t x k f).run=some y->es.length=cV u ->
  bD w γ.I t y (aR cs o es):=by
 intro t;induction t with
 | pair a b A i =>
   intro x cs k o u y f es h c n e j;obtain⟨p,q,rfl,l,s⟩:=h;cases k with
   | zero =>
     simp only[pe,sa,CL] at c;obtain⟨rfl,rfl⟩:=c;obtain⟨v,m,e⟩:=bind_some e;have C:=n v m;cases hv:toS a v with
     | none=>rw[hv] at e;cases e
     | some z =>
       rw[hv] at e;obtain rfl:=aG e;simp only[cV] at j;refine⟨es,q,?_,H2 hv C,s⟩;simp only[aR,MW,sd,qI];rw[show es.length=p.length by rw[j,l.length],Bb]
   | succ k =>
     simp only[pe] at c;cases g:pe b x.2 k with
     | none=>rw[g] at c;cases c
     | some r =>
       rw[g] at c;simp only[sa,CL] at c;obtain⟨rfl,rfl⟩:=c;obtain⟨z,D,e⟩:=bind_some e;obtain rfl:=aG e;have:=i s (show pe b x.2 k=some (r.1,r.2) from g) n D j;refine⟨p,aR q r.1 es,?_,l,this⟩;simp only[aR,<-l.length,Vj,kP]
       congr 1;congr 1;congr 1
       rw[xF,<-vb,Bb]
 | _=>intro x cs k o u y f es h c;cases k<;>simp[pe] at c
theorem IP:∀{j:aL} {cs:List Value} {k o:Nat} {u c:aL} {f:aL->Tree aL} {es:List Value},
  cf γ mem w j .cells cs->mM j k=some (o,u)->(∀v,(f u).run=some v->cf γ mem w v .cells es)->(EI j k f).run=some c->es.length=cV u ->
  cf γ mem w c .cells (aR cs o es):=by
 intro j;induction j with
 | data t x =>
   intro cs k o u c f es h e l g m;obtain⟨y,D,g⟩:=bind_some g;obtain rfl:=aG g;exact QJ h e l D m
 | mix a b E n =>
   intro cs k o u c f es h e l g m;obtain⟨s,A,rfl,p,C⟩:=h;cases k with
   | zero =>
     simp only[mM,sa,CL] at e;obtain⟨rfl,rfl⟩:=e;obtain⟨v,q,g⟩:=bind_some g;have F:=l v q;obtain rfl:=aG g;refine⟨es,A,?_,F,C⟩;simp only[aR,MW,sd,qI];rw[show es.length=s.length by rw[m,p.length],Bb]
   | succ k =>
     simp only[mM] at e;cases i:mM b k with
     | none=>rw[i] at e;cases e
     | some r =>
       rw[i] at e;simp only[sa,CL] at e;obtain⟨rfl,rfl⟩:=e;obtain⟨z,G,g⟩:=bind_some g;obtain rfl:=aG g;have:=n C (show mM b k=some (r.1,r.2) from i) l G m;refine⟨s,aR A r.1 es,?_,p,this⟩;simp only[aR,<-p.length,Vj,kP]
       congr 1;congr 1;congr 1
       rw[xF,<-vb,Bb]
 | _=>intro cs k o u c f es h e;cases k<;>simp[mM] at e
theorem vl:∀{p:List BV} {v u:aL} {cs:List Value},cf γ mem w v .cells cs->(WH p v).run=some u->cC p+cV u<=cs.length/\cf γ mem w u .cells ((cs.drop<|cC p).take<|cV u):=by
 intro p;induction p with
 | nil =>
   intro v u cs h b;obtain rfl:=aG b;have f:=h.length;refine⟨by simp[cC];omega,?_⟩;rw[show cC []=0 from rfl,wK,<-f,wI];exact h
 | cons s p A =>
   intro v u cs h b;cases s with
   | fW k off =>
     simp only[WH] at b;cases o:mM v k with
     | none=>rw[o] at b;cases b
     | some r =>
       rw[o] at b;obtain⟨q,c⟩:=ay b;have g:=eX q;obtain⟨H,C⟩:=ET h (show mM v k=some (r.1,r.2) from o);obtain⟨t,j⟩:=A C c;have f:=C.length;simp only[cC,<-g];rw[f] at t;refine⟨by omega,?_⟩;rw[Vu,Bj,vb,pc (by omega)] at j;exact j
   | idx i size =>
     simp only[WH] at b;split at b
     .rename_i n e l;obtain⟨q,c⟩:=ay b;have y:=eX q;obtain⟨x,E,z⟩:=bY c;obtain⟨I,m⟩:=sj E;obtain⟨J,K,F⟩:=h;have D:=F _ x m;obtain⟨t,j⟩:=A (v:=.data e x) (show cf γ mem w (.data e x) .cells _ from D) z;have f:=D.length;have hi:i.toNat<n:=by have:=(fU.1 m).1;omega
      have G:(i.toNat+1)*e.size<=n*e.size:=gb _ hi;rw[zg] at G;rw[f] at t;simp only[cC,y];refine⟨by omega,?_⟩;rw[Vu,Bj,vb,pc (by omega)] at j;exact j
     .cases b
theorem rE(cs:List Value)(a b:Nat)(n:Nat)(c:List Value)(h:b+c.length<=n)(i:a+n<=cs.length) :
  aR cs a (aR ((cs.drop a).take n) b c)=aR cs (a+b) c:=by
 have f:((cs.drop a).take n).length=n:=by simp;omega
 have e:(aR ((cs.drop a).take n) b c).length=n:=by rw[bL<|by omega,f]
 have g:aR cs a (aR ((cs.drop a).take n) b c)=cs.take a++aR ((cs.drop a).take n) b c++cs.drop (a+n):=by
  rw[aR,e]
 rw[g];simp only[aR,kP];rw[Bj,pc (by omega),<-kP,<-List.take_add]
 congr 1;congr 1
 have:cs.drop (a+n)=(cs.drop a).drop n:=by rw[vb]
 rw[this,<-WC (by rw[f];exact h),vV,vb,xF]
theorem IQ{I:Nat->Nat->Prop}{e:Ty}{n:Nat}{l:List e.den}{cs f:List Value}{i:Nat}{y:e.den}(u:l.length=n)(v:n*e.size<=cs.length)
  (h:∀(j:Nat) (x:e.den),l[j]?=some x->bD w I e x ((cs.drop<|j*e.size).take e.size)) (r:i<n) (o:bD w I e y f) :
  ∀(j:Nat) (x:e.den),(l.set i y)[j]?=some x->bD w I e x (((aR cs (i*e.size) f).drop<|j*e.size).take e.size):=by
 intro j x c;have k:=o.length;have s:(i+1)*e.size<=n*e.size:=gb _ r;rw[zg] at s;have b:(cs.take<|i*e.size).length=i*e.size:=by rw[fT];omega
 rw[Vq] at c;split at c
 .rename_i g;subst g;split at c
  .obtain rfl:=aG c;have:((aR cs (i*e.size) f).drop<|i*e.size).take e.size=f:=by
    rw[aR,kP]
    conv=>lhs;arg 2;arg 1;rw[<-b]
    rw[b,CI b,<-k,Iw]
   rw[this];exact o
  .cases c
 .rename_i g;have t:j<n:=by have:=(fU.1 c).1;omega
  have m:(j+1)*e.size<=n*e.size:=gb _ t;rw[zg] at m;have key:((aR cs (i*e.size) f).drop<|j*e.size).take e.size=(cs.drop<|j*e.size).take e.size:=by
   apply Lj;intro q;rw[fA,fA];split
   .rename_i z;rw[mF,mF,aR];rcases tr j i with p|p
    .have:(j+1)*e.size<=i*e.size:=gb _ p;rw[zg] at this;rw[kP,Og (by omega),fA,aV (by omega)]
    .have:(i+1)*e.size<=j*e.size:=gb _ (by omega);rw[zg] at this;rw[Ik<|by rw[gI];omega,mF,gI,b]
     congr 1;omega
   .rfl
  rw[key];exact h j x c
theorem xN:∀{p:List BV} {v G u c:aL} {cs es:List Value},cf γ mem w v .cells cs->(WH p v).run=some G->(vY p v u).run=some c->cf γ mem w u .cells es->es.length=cV G ->
  cf γ mem w c .cells (aR cs (cC p) es):=by
 intro p;induction p with
 | nil =>
   intro v G u c cs es h b q H t;obtain rfl:=aG b;obtain rfl:=aG q;have:=h.length;simp only[cC,aR,MW,sd,qI];rw[GL<|by omega,y9];exact H
 | cons s p T =>
   intro v G u c cs es h b q H t;cases s with
   | fW k off =>
     simp only[WH] at b;cases I:mM v k with
     | none=>rw[I] at b;cases b
     | some r =>
       rw[I] at b;obtain⟨J,g⟩:=ay b;have A:=eX J;obtain⟨Y,K⟩:=ET h (show mM v k=some (r.1,r.2) from I);obtain⟨C,Z⟩:=vl K g;have m:=K.length;rw[m] at C;have:=IP (f:=λw=>vY p w u) h (show mM v k=some (r.1,r.2) from I) (λz L=>T (u:=u) K g L H t) q (by rw[bL<|by rw[m,t];exact C,m]);rw[rE cs r.1 (cC p) (cV r.2) es (by omega) Y,A] at this;exact this
   | idx i size =>
     simp only[WH] at b;split at b
     .rename_i n e l;obtain⟨J,g⟩:=ay b;have M:=eX J;obtain⟨x,U,D⟩:=bY g;simp only[vY] at q;obtain⟨x',O,Q⟩:=bY q;obtain rfl:x=x':=aG (U.symm.trans O);obtain⟨z,L,j⟩:=bind_some Q;cases R:toS e z with
      | none=>rw[R] at j;cases j
      | some y =>
        rw[R] at j;obtain rfl:=aG j;obtain⟨h0,E⟩:=sj U;obtain⟨V,k2,W⟩:=h;have X:=W _ x E;have hi:i.toNat<n:=by have:=(fU.1 E).1;omega
        have hm:(i.toNat+1)*e.size<=n*e.size:=gb _ hi;rw[zg] at hm;have F:cf γ mem w (.data e x) .cells ((cs.drop<|i.toNat*e.size).take e.size):=X;obtain⟨C,Z⟩:=vl F D;have o:=X.length;rw[o] at C;have S:=H2 R (T F D L H t);have hsl:(aR ((cs.drop<|i.toNat*e.size).take e.size) (cC p) es).length=e.size:=by rw[bL<|by rw[o,t];exact C,o]
        have e1:=rE cs (i.toNat*e.size) (cC p) e.size es (by omega) (by omega);simp only[cC,M];rw[<-e1];refine⟨?_,?_,?_⟩
        .exact(@List.length_set _ (l:List e.den) _ _).trans V
        .rw[bL<|by omega];exact k2
        .exact IQ V (by omega) W hi S
     .cases b
end
open RowKit
section
variable {B:qM} {γ bM:Gh} {mem dO:Nat->Option bB} {w w':World}
theorem cB.keep{c:Nat}{bx:bB}(h:cB γ mem w c bx)(p:Ext B γ mem w bM dO w')(q:bM.loc c=γ.loc c)
  (u:∀b k,γ.loc c=some (b,k)->w'.heap[b]?=w.heap[b]?):cB bM dO w' c bx:=by
 unfold cB at h⊢;cases g:bx.buf with
 | true =>
   rw[g] at h;obtain⟨e,l,v,y,f⟩:=h;refine⟨e,l,v,y,?_⟩;rcases f with ⟨f,n⟩|⟨b,j,m,tid,r,f,n,s,o,t,z,A,C⟩
   .exact .inl ⟨q.trans f,n⟩
   .exact .inr ⟨b,j,m,tid,r,q.trans f,(u _ _ f).trans n,s,o,t,z,A,λi x D=>bD.mono p.I p.cells (C i x D)⟩
 | false =>
   rw[g] at h;obtain⟨b,j,m,tid,r,f,n,s,E,t⟩:=h;exact⟨b,j,m,tid,r,q.trans f,(u _ _ f).trans n,s,E,t.ext p⟩
theorem di{a:Addr}(h:w'.heap[a.block]?=w.heap[a.block]?):w'.cell? a=w.cell? a:=by simp[World.cell?,h]
def bF(c:Gh)(b:Nat)(L:Option (Nat×Nat)):Gh:={ c with loc:=λi=>if i=b then L else c.loc i }
def cD(c:Nat->Option bB)(b:Nat)(bx:bB):Nat->Option bB:=λi=>bif Nat.beq i b then some bx else c i
theorem bp(b:Nat)(bx:bB):cD mem b bx b=some bx:=by simp[cD]
theorem aS{b c:Nat}(bx:bB)(h:c≠b):cD mem b bx c=mem c:=by simp[cD,iW h]
theorem tw(h:bu B γ mem w){b:Nat}{bx:bB}{L:Option (Nat×Nat)}(f:∀g,mem b=some g->g.aM<bx.aM)
  (m:tX B w w') (i:∀k,k<w.heap.size->w'.heap[k]?=w.heap[k]?):Ext B γ mem w (bF γ b L) (cD mem b bx) w' where
 below:=m
 I:=λ_ _ x=>x
 ox:=λ_ _ x=>.inl x
 cells:=λj o x=>di (i j<|h.sg j o x)
 boxes:=λc cx l=>by
  by_cases e:c=b
  .subst e;refine⟨bx,bp _ _,Zi (f _ l),λe=>absurd e ?_⟩;have:=f _ l;omega
  .exact⟨cx,by rw[aS _ e];exact l,bZ _,λ_=>⟨by simp[bF,e],rfl,rfl⟩⟩
theorem bu.add(h:bu B γ mem w){b:Nat}{bx:bB}{L:Option (Nat×Nat)}(m:∀p,mem b=some p->p.aM<bx.aM)
  (q:tX B w w') (j:∀k,k<w.heap.size->w'.heap[k]?=w.heap[k]?) (r:∀f k,L=some (f,k)->w.heap.size<=f/\f<w'.heap.size)
  (u:cB (bF γ b L) (cD mem b bx) w' b bx):bu B (bF γ b L) (cD mem b bx) w' where
 cT:=h.C2 (tw (L:=L) h m q j)
 base:=fM h.base q.size
 boxes:=λc cx g=>by
  by_cases e:c=b
  .subst e;rw[bp] at g;obtain rfl:=aG g;exact u
  .rw[aS _ e] at g;refine(h.boxes c cx g).keep (tw h m q j) (by simp[bF,e]) λf k x=>j f (h.fresh c f k (by rw[g];simp) x).2
 inj:=λc d f k v g s i n=>by
  by_cases e:c=b
  .by_cases o:d=b
   .rw[e,o]
   .exfalso;simp only[bF,aV e] at i;simp only[bF,aX o] at n;rw[aS _ o] at s;have:=(h.fresh d f v s n).2;have:=(r _ _ i).1;omega
  .by_cases o:d=b
   .exfalso;simp only[bF,aX e] at i;simp only[bF,aV o] at n;rw[aS _ e] at g;have:=(h.fresh c f k g i).2;have:=(r _ _ n).1;omega
   .simp only[bF,aX e] at i;simp only[bF,aX o] at n;rw[aS _ e] at g;rw[aS _ o] at s;exact h.inj c d f k v g s i n
 fresh:=λc f k g i=>by
  by_cases e:c=b
  .simp only[bF,aV e] at i;obtain⟨n,y⟩:=r _ _ i;exact⟨.inl (by have:=h.base;omega),y⟩
  .simp only[bF,aX e] at i;rw[aS _ e] at g;have:=h.fresh c f k g i;exact⟨this.1,A9 this.2 q.size⟩
 sg:=λf l t=>A9 (h.sg f l t) q.size
 sep:=λc cx f k l g i t=>by
  by_cases e:c=b
  .exfalso;simp only[bF,aV e] at i;have:=(r _ _ i).1;have:=h.sg f l t;omega
  .simp only[bF,aX e] at i;rw[aS _ e] at g;exact h.sep c cx f k l g i t
theorem cw(w:World)(o:Obj):∀k,k<w.heap.size->(w.alloc o).heap[k]?=w.heap[k]?:=λk b=>Below.heap_alloc w o k b
theorem sk(b:Array Value):mi b (0,0):=λo _ h=>by omega
theorem uu(e:Ty)(b:Array Value):Zx e b (0,0):=⟨sk b,λ_ h=>by omega⟩
theorem bu.newVar(h:bu B γ mem w){b:Nat}{v:aL}{tid:TypeId}{aM:Nat}(c:∀f,mem b=some f->f.aM<aM){cs:Array Value}(g:TypeId)(i:tid=0\/g=tid)(l:cf γ mem w v .cells cs.toList) :
  let bx:bB:={ val:=v,tid,buf:=false,ro:=false,lk:=false,aM }
  bu B (bF γ b<|some (w.heap.size,0)) (cD mem b bx) (w.alloc<|.cells cs g)/\Ext B γ mem w (bF γ b<|some (w.heap.size,0)) (cD mem b bx) (w.alloc<|.cells cs g):=by
 intro bx;have j:tX B w (w.alloc<|.cells cs g):=(tX.refl _ _).alloc h.base _;have hx:=tw (L:=some (w.heap.size,0)) h (bx:=bx) c j (cw w _);refine⟨h.add c j (cw w _) (λm k e=>by obtain⟨rfl,rfl⟩:=bk (aG e);exact⟨bZ _,by simp⟩) ?_,hx⟩;exact⟨w.heap.size,0,cs,g,(0,0),by simp[bF],heap_alloc_new w _,sk cs,i,l.ext hx⟩
theorem bu.ZC(h:bu B γ mem w){b:Nat}{e:Ty}{l:List e.den}{tid:TypeId}{aM f g:Nat}(j:∀o,mem b=some o->o.aM<aM){p:Array Value}{s:TypeId}{t:Nat×Nat}(A:0<e.size)
  (z:tX B w w') (m:∀k,k<w.heap.size->w'.heap[k]?=w.heap[k]?) (u:w.heap.size<=g) (n:w'.heap[g]?=some (.cells p s t)) (v:Zx e p t) (r:tid=0\/s=tid)
  (C:l.length<=f) (D:f<=maxLen) (E:p.size=f*e.size) (F:∀(i:Nat) (x:e.den),l[i]?=some x->bD w' γ.I e x ((p.toList.drop<|i*e.size).take e.size)) :
  let bx:bB:={ val:=.data (.slice e) l,tid,buf:=true,ro:=false,lk:=false,aM }
  bu B (bF γ b<|some (g,f)) (cD mem b bx) w'/\Ext B γ mem w (bF γ b<|some (g,f)) (cD mem b bx) w':=by
 intro bx;have y:g<w'.heap.size:=(va.1 n).1;have hx:=tw (L:=some (g,f)) h (bx:=bx) j z m;refine⟨h.add j z m (λc k q=>by obtain⟨rfl,rfl⟩:=bk (aG q);exact⟨u,y⟩) ?_,hx⟩;exact⟨e,l,rfl,A,.inr ⟨g,f,p,s,t,by simp[bF],n,v,r,C,D,E,F⟩⟩
theorem bu.IU(h:bu B γ mem w){b:Nat}{e:Ty}{l:List e.den}{tid:TypeId}{aM cap:Nat}(f:∀g,mem b=some g->g.aM<aM){n:Array Value}{r:TypeId}{s:Nat×Nat}(t:0<e.size)
  (u:tX B w w') (c:∀k,k<w.heap.size->w'.heap[k]?=w.heap[k]?) (j:w'.heap[w.heap.size]?=some (.cells n r s)) (p:Zx e n s) (m:tid=0\/r=tid)
  (v:l.length<=cap) (y:cap<=maxLen) (z:n.size=cap*e.size) (A:∀(i:Nat) (x:e.den),l[i]?=some x->bD w γ.I e x ((n.toList.drop<|i*e.size).take e.size)) :
  let bx:bB:={ val:=.data (.slice e) l,tid,buf:=true,ro:=false,lk:=false,aM }
  bu B (bF γ b<|some (w.heap.size,cap)) (cD mem b bx) w'/\Ext B γ mem w (bF γ b<|some (w.heap.size,cap)) (cD mem b bx) w' :=
 h.ZC f t u c (bZ _) j p m v y z λi x C =>
  bD.mono (λ_ _ q=>q) (λblk o q=>di (c blk<|h.sg blk o q)) (A i x C)
theorem bu.IV(h:bu B γ mem w){b:Nat}{e:Ty}{tid:TypeId}{aM:Nat}(c:∀f,mem b=some f->f.aM<aM)(g:0<e.size) :
  let bx:bB:={ val:=.data (.slice e) ([]:List e.den),tid,buf:=true,ro:=false,lk:=false,aM }
  bu B (bF γ b none) (cD mem b bx) w/\Ext B γ mem w (bF γ b none) (cD mem b bx) w:=by
 intro bx;have hx:=tw (L:=none) h (bx:=bx) c (tX.refl B w) (λ_ _=>rfl);refine⟨h.add c (tX.refl B w) (λ_ _=>rfl) (λi k e=>by cases e) ?_,hx⟩;exact⟨e,[],rfl,g,.inl ⟨by simp[bF],rfl⟩⟩
theorem C5{e:bB}{b:Nat}(h:Tp e b)(c:e.ro=false):False:=by rw[Tp,c] at h;exact absurd h.1 (by simp)
theorem bu.write(h:bu B γ mem w){b:Nat}{m:bB}(p:mem b=some m)(u:m.ro=false){g k:Nat}(y:γ.loc b=some (g,k)){r cur':Array Value}{t:TypeId}{D:Nat×Nat}
  (G:w.heap[g]?=some (.cells r t D)) (Q:cur'.size=r.size) {v:aL} (z:({ m with val:=v }:bB).row=m.row)
  (E:∀w' dO,Ext B γ mem w γ dO w'->w'.heap[g]?=some (.cells cur' t D)->cB γ dO w' b { m with val:=v }) :
  bu B γ (cD mem b { m with val:=v }) (w.setRow g cur')/\Ext B γ mem w γ (cD mem b { m with val:=v }) (w.setRow g cur'):=by
 have H:=h.fresh b g k (by rw[p];simp) y;have A:=setRow_heap w g r cur' t D G;have j:∀i,i≠g->(w.setRow g cur').heap[i]?=w.heap[i]?:=λi q=>setRow_other w g i cur' (λe=>q e);have hx:Ext B γ mem w γ (cD mem b { m with val:=v }) (w.setRow g cur') :=
  { below:=⟨rfl,rfl,rfl,by simp,λi q=>j i λe=>q (by rw[e];exact H.1)⟩
    I:=λ_ _ x=>x
    ox:=λ_ _ x=>.inl x
    cells:=λc o x=>by
     by_cases e:c=g
     .subst e;exact(C5 (h.sep b m c k o p y x) u).elim
     .exact di (j c e)
    boxes:=λc cx l=>by
     by_cases e:c=b
     .subst e;obtain rfl:cx=m:=aG (l.symm.trans p);exact⟨_,bp _ _,bZ _,λ_=>⟨rfl,rfl,z⟩⟩
     .exact⟨cx,by rw[aS _ e];exact l,bZ _,λ_=>⟨rfl,rfl,rfl⟩⟩ }
 refine⟨?_,hx⟩;exact
  { cT:=h.C2 hx
    base:=by have:=h.base;simpa using this
    boxes:=λc cx l=>by
     by_cases e:c=b
     .subst e;rw[bp] at l;obtain rfl:=aG l;exact E _ _ hx A
     .rw[aS _ e] at l;refine(h.boxes c cx l).keep hx rfl λf C F=>j f λJ=>e ?_;subst J;exact h.inj c b f C k (by rw[l];simp) (by rw[p];simp) F y
    inj:=λc d f K L l M s O=>h.inj c d f K L (by
     by_cases e:c=b
     .subst e;rw[p];simp
     .rwa [aS _ e] at l) (by
     by_cases e:d=b
     .subst e;rw[p];simp
     .rwa [aS _ e] at M) s O
    fresh:=λc f C l s=>by
     have:=h.fresh c f C (by
      by_cases e:c=b
      .subst e;rw[p];simp
      .rwa [aS _ e] at l) s
     exact⟨this.1,by simpa using this.2⟩
    sg:=λf n q=>by have:=h.sg f n q;simpa using this
    sep:=λc cx f C n l s q=>by
     by_cases e:c=b
     .subst e;rw[y] at s;obtain⟨rfl,rfl⟩:=bk (aG s);exact(C5 (h.sep c m g k n p y q) u).elim
     .rw[aS _ e] at l;exact h.sep c cx f C n l s q }
def IW(f:Gh)(b:Nat)(n:Nat):Gh:={ f with I:=λc e=>f.I c e\/((∃k,f.loc b=some (c,k))/\e<n) }
theorem bu.freeze(h:bu B γ mem w){b:Nat}{j:bB}(l:mem b=some j){e:Ty}{n:Nat}(r:j.row=some (e,n)) :
  bu B (IW γ b<|n*e.size) (cD mem b { j with ro:=true }) w/\Ext B γ mem w (IW γ b<|n*e.size) (cD mem b { j with ro:=true }) w:=by
 have hx:Ext B γ mem w (IW γ b<|n*e.size) (cD mem b { j with ro:=true }) w :=
  { below:=tX.refl _ _
    I:=λ_ _ x=>.inl x
    ox:=λy o x=>by
     rcases x with x|⟨⟨k,x⟩,_⟩
     .exact .inl x
     .exact .inr (h.fresh b y k (by rw[l];simp) x).1
    cells:=λ_ _ _=>rfl
    boxes:=λc cx g=>by
     by_cases e:c=b
     .subst e;obtain rfl:cx=j:=aG (g.symm.trans l);exact⟨_,bp _ _,bZ _,λ_=>⟨rfl,rfl,rfl⟩⟩
     .exact⟨cx,by rw[aS _ e];exact g,bZ _,λ_=>⟨rfl,rfl,rfl⟩⟩ }
 refine⟨?_,hx⟩;exact
  { cT:=h.C2 hx
    base:=h.base
    boxes:=λc cx g=>by
     by_cases e:c=b
     .subst e;rw[bp] at g;obtain rfl:=aG g;have:=(h.boxes c j l).keep hx rfl (λ_ _ _=>rfl);exact this
     .rw[aS _ e] at g;exact(h.boxes c cx g).keep hx rfl (λ_ _ _=>rfl)
    inj:=λc d f C D g E q F=>h.inj c d f C D (by
     by_cases e:c=b
     .subst e;rw[l];simp
     .rwa [aS _ e] at g) (by
     by_cases e:d=b
     .subst e;rw[l];simp
     .rwa [aS _ e] at E) q F
    fresh:=λc f s g q=>h.fresh c f s (by
     by_cases e:c=b
     .subst e;rw[l];simp
     .rwa [aS _ e] at g) q
    sg:=λf p i=>by
     rcases i with i|⟨⟨k,v⟩,_⟩
     .exact h.sg f p i
     .exact(h.fresh b f k (by rw[l];simp) v).2
    sep:=λc cx f s p g q i=>by
     by_cases z:c=b
     .subst z;rw[bp] at g;obtain rfl:=aG g;rcases i with i|⟨⟨k,v⟩,A⟩
      .obtain⟨J,G⟩:=h.sep c j f s p l q i;exact⟨rfl,G⟩
      .refine⟨rfl,λ_ u m H=>?_⟩;have t:j.row=some (u,m):=H;rw[r] at t;obtain⟨rfl,rfl⟩:=bk (aG t);exact A
     .rw[aS _ z] at g;rcases i with i|⟨⟨k,v⟩,A⟩
      .exact h.sep c cx f s p g q i
      .exact absurd (h.inj c b f s k (by rw[g];simp) (by rw[l];simp) q v) z }
end
end Go.Ge
namespace Go.Ge
open RowKit
def mP(P:Program)(B:qM)(N:Nat)(c:Gh)(e:St)(a:Act)(w:World)(d:Option Nat)(s:Sem Value)(b:St):Prop :=
 ∃v w' bM,s.run P w=.ok v w'/\cM B N bM b (a.put d v) w'/\Ext B c e.mem w bM b.mem w'
section
variable {P:Program} {B:qM} {N:Nat} {γ:Gh} {σ bb:St} {a:Act} {w:World} {d:Option Nat}
theorem bG(h:cM B N γ σ a w)(b:∀k,d=some k->k<N){s:Sem Value}{v:aL}{x:Value}(c:s.run P w=.ok x w)(e:cf γ σ.mem w v .val [x]) :
  mP P B N γ σ a w d s (σ.aW d v) :=
 ⟨x,w,γ,c,h.ur b e,by cases d<;>exact Ext.refl _ _ _ _⟩
theorem dB{g:Type}{b:Nat}{val:aL}{tid:TypeId}{buf:Bool}{k:Nat->St->Tree g}{y:g}(h:(σ.aQ b val tid buf k).run=some y) :
  ∃aM,(∀c,σ.mem b=some c->c.aM<aM)/\(k aM<|σ.b4 b { val,tid,buf,ro:=false,lk:=false,aM }).run=some y:=by
 unfold St.aQ at h;split at h
 .rename_i bx f;cases i:bx.lk with
  | true=>rw[i] at h;cases h
  | false =>
    rw[i] at h;exact⟨bx.aM+1,(λc e=>by rw[f] at e;obtain rfl:=aG e;omega),h⟩
 .rename_i f;exact⟨0,(λc e=>by rw[f] at e;cases e),h⟩
theorem uv(c:St)(b:Nat)(e:bB):(c.b4 b e).mem=cD c.mem b e:=rfl
theorem en{c:Nat->Option bB}{b aM:Nat}{bx:bB}(h:c b=some bx)(f:bx.aM=aM){K:bB->Prop}(e:K bx):mO c b aM K :=
 ⟨bx,h,by omega,λ_=>e⟩
theorem wX{j:Ctx}(o:fv P j){p:Nat}{l:List Nat}{q:TypeId}{x:Operand}(h:cM B N γ σ a w)(c:∀k,d=some k->k<N)
  (b:(jK j p l d q (cu σ x) σ).run=some bb):mP P B N γ σ a w d (pure<|a.eval x) bb:=by
 have hv:=h.cu x;unfold jK at b;split at b
 .rename_i g;rw[g] at hv;obtain⟨_,b⟩:=ay b;obtain rfl:=aG b;exact bG h c rfl hv
 .rename_i g;rw[g] at hv;have hx:a.eval x=.slice none 0 0:=by simpa [cf] using hv
  split at b
  .rename_i k e r;cases m:cI l k with
   | true =>
     rw[m] at b;simp only[ev] at b;obtain⟨s,f,i⟩:=dB b;obtain rfl:=aG i;obtain⟨t,v,y,z,u⟩:=(o.T _ _ r).slice;obtain⟨m1,n⟩:=h.ok.IV (tid:=0) f u;refine⟨_,w,_,rfl,h.step n m1 (c k rfl) ?_,n⟩;rw[hx];exact⟨⟨_,rfl,rfl⟩,en (bp _ _) rfl ⟨e,0,rfl,rfl,.inl ⟨by simp[bF],rfl⟩⟩⟩
   | false =>
     rw[m] at b;obtain rfl:=aG b;exact bG (d:=some k) h c rfl (by rw[hx];exact⟨_,.inl ⟨⟨none,rfl⟩,rfl⟩,rfl⟩)
  .obtain rfl:=aG b;exact bG h c rfl (by rw[hx];rfl)
 .obtain rfl:=aG b;exact bG h c rfl hv
theorem xO{b:Bool}{v:Value}(h:cf γ σ.mem w (.data .bool b) .val [v]):v=.bool b:=by
 obtain⟨c,e,f⟩:=dS.1 h;rw[f,show c=_ from e];rfl
theorem sT{k:IntKind}{n:Int}{v:Value}(h:cf γ σ.mem w (.data (.int k) n) .val [v]):v=.int k n/\k.min<=n/\n<=k.max:=by
 obtain⟨e,b,c⟩:=dS.1 h;rw[c,b.1];exact⟨rfl,b.2⟩
theorem v8{s:ao}{v:Value}(h:cf γ σ.mem w (.data .str s) .val [v]):v=.string ⟨s.toArray⟩/\s.length<=maxLen:=by
 obtain⟨cs,b,c⟩:=dS.1 h;rw[c,b.1];exact⟨rfl,b.2⟩
theorem gu(b:Bool):cf γ σ.mem w (.data .bool b) .val [.bool b]:=⟨_,rfl,rfl⟩
theorem mkInt{k:IntKind}{n:Int}(h:k.min<=n/\n<=k.max):cf γ σ.mem w (.data (.int k) n) .val [.int k n]:=⟨_,⟨rfl,h.1,h.2⟩,rfl⟩
theorem mkStr{s:ao}(h:s.length<=maxLen):cf γ σ.mem w (.data .str s) .val [.string ⟨s.toArray⟩]:=⟨_,⟨rfl,h⟩,rfl⟩
theorem IX{c x y:Operand}(h:cM B N γ σ a w)(j:∀k,d=some k->k<N)(f:(ou d (cu σ c) (cu σ x) (cu σ y) σ).run=some bb) :
  mP P B N γ σ a w d (do pure (if <-asBool (a.eval c) then a.eval x else a.eval y)) bb:=by
 have q:=h.cu c;have hx:=h.cu x;have hy:=h.cu y;unfold ou at f;split at f
 .rename_i g l;rw[l] at q;have m:a.eval c=.bool g:=xO q;have b:(do pure (if <-asBool (a.eval c) then a.eval x else a.eval y):Sem Value).run P w=.ok (if(show Bool from g)=true then a.eval x else a.eval y) w:=by
   rw[m];cases g<;>rfl
  split at f
  .rename_i t s u v n o;rw[n] at hx;rw[o] at hy;split at f
   .rename_i z p;obtain rfl:=aG f;obtain⟨e,r⟩:=Ty.kR p;subst e;subst r;refine bG h j b ?_;cases g
    .exact hy
    .exact hx
   .cases f
  .have i:=gg f;cases g
   .obtain rfl:=aG i;exact bG h j b hy
   .obtain rfl:=aG i;exact bG h j b hx
 .cases f
theorem fx(k:IntKind)(n:Int):k.min<=k.wrap n/\k.wrap n<=k.max:=wrap_within k n
theorem abD{k:IntKind}{x y:Int}(h:k.min<=x/\x<=k.max):k.min<=x.tmod y/\x.tmod y<=k.max:=by
 have b:k.min<=0:=by cases k<;>decide
 have c:0<=k.max:=by cases k<;>decide
 have f:(x.tmod y).natAbs<=x.natAbs:=by
  rw[Int.natAbs_tmod];exact Nat.mod_le _ _
 rcases Int.le_total 0 x with e|e
 .have:=Int.tmod_nonneg y e;omega
 .have:x.tmod y<=0:=by
   have:=Int.tmod_nonneg y (show 0<=-x by omega);rw[Int.neg_tmod] at this;omega
  omega
theorem abE{k:IntKind}{x:Int}(n:Nat)(h:k.min<=x/\x<=k.max):k.min<=x.fdiv (2 ^ n)/\x.fdiv (2 ^ n)<=k.max:=by
 have f:k.min<=0:=by cases k<;>decide
 have g:0<=k.max:=by cases k<;>decide
 have b:(0:Int)<2 ^ n:=Int.pow_pos (by decide);have e:x.fdiv (2 ^ n)=x / 2 ^ n:=ac1 _ (by omega);rw[e];rcases Int.le_total 0 x with c|c
 .have i:=Int.ediv_nonneg c (Int.le_of_lt b);have j:=Int.ediv_le_self (2 ^ n:Int) c;omega
 .have j:x / 2 ^ n<1:=Int.ediv_lt_of_lt_mul b (by omega);have l:x<=x / 2 ^ n:=by
   rw[Int.le_ediv_iff_mul_le b];have i:(1:Int)<=2 ^ n:=b;have:=Int.mul_le_mul_of_nonpos_left c i;simpa using this
  omega
theorem Oy{b:BinOp}{l:Bool}(h:CQ b=some l):(b=.shl/\l=true)\/(b=.shr/\l=false):=by
 cases b<;>simp[CQ] at h<;>simp[h]
theorem rh{b:BinOp}{l:Bool}(h:isEq b=some l):(b=.eql/\l=true)\/(b=.neq/\l=false):=by
 cases b<;>simp[isEq] at h<;>simp[h]
def gN(b:BinOp)(c:TypeId)(x y:Operand)(u v:Value):Sem Value:=do eqGuard b c x y u v;binOp b c u v
theorem Oz{f:BinOp}{k:IntKind}{n m:Int}{v:aL}{i:TypeId}{x y:Operand}(j:k.min<=n/\n<=k.max)(h:CQ f=none)(c:(Tj f k n m).run=some v) :
  ∃r,(gN f i x y (.int k n)<|.int k m).run P w=.ok r w/\cf γ σ.mem w v .val [r]:=by
 unfold gN;cases f<;>simp only[eqGuard_at_int,Sem.run_bind,Sem.run_pure,Result.andThen_ok]<;>simp only[Tj] at c
 case add=>obtain rfl:=aG c;exact⟨.int k<|aB k n m,by simp only[binOp_add,Op.intArith,Sem.run_pure];rfl,mkInt (fx _ _)⟩
 case sub=>obtain rfl:=aG c;exact⟨.int k<|cd k n m,by simp only[binOp_sub,Op.intArith,Sem.run_pure];rfl,mkInt (fx _ _)⟩
 case mul=>obtain rfl:=aG c;exact⟨.int k<|ik k n m,by simp only[binOp_mul,Op.intArith,Sem.run_pure];rfl,mkInt (fx _ _)⟩
 case quo =>
  have b:=gg c;cases e:aZ m 0
  .rw[e] at b;obtain rfl:=aG b;have g:m≠0:=by simpa [aZ] using e
   exact⟨.int k<|GO k n m,by simp only[binOp_quo,Op.intDiv,aX g,Sem.run_pure];rfl,mkInt (fx _ _)⟩
  .rw[e] at b;cases b
 case rem =>
  have b:=gg c;cases e:aZ m 0
  .rw[e] at b;obtain rfl:=aG b;have g:m≠0:=by simpa [aZ] using e
   exact⟨.int k<|iR n m,by simp only[binOp_rem,Op.intDiv,aX g,Sem.run_pure];rfl,mkInt (abD j)⟩
  .rw[e] at b;cases b
 case and=>obtain rfl:=aG c;exact⟨.int k<|mL k n m,by simp only[binOp_and,intBits_and,Sem.run_pure];rfl,mkInt (fx _ _)⟩
 case or=>obtain rfl:=aG c;exact⟨.int k<|vd k n m,by simp only[binOp_or,intBits_or,Sem.run_pure];rfl,mkInt (fx _ _)⟩
 case xor=>obtain rfl:=aG c;exact⟨.int k<|fV k n m,by simp only[binOp_xor,intBits_xor,Sem.run_pure];rfl,mkInt (fx _ _)⟩
 case andNot=>obtain rfl:=aG c;exact⟨.int k<|adh k n m,by simp only[binOp_andNot,intBits_andNot,Sem.run_pure];rfl,mkInt (fx _ _)⟩
 case shl=>cases h
 case shr=>cases h
 case eql=>obtain rfl:=aG c;exact⟨.bool<|aZ n m,by simp[binOp,Op.intCmp,aZ];rfl,gu _⟩
 case neq=>obtain rfl:=aG c;exact⟨.bool<|nt<|aZ n m,by simp[binOp,Op.intCmp,aZ,nt];rfl,gu _⟩
 case lss=>obtain rfl:=aG c;exact⟨.bool<|ba n m,by simp[binOp,Op.intCmp,ba],gu _⟩
 case leq=>obtain rfl:=aG c;exact⟨.bool<|da n m,by simp[binOp,Op.intCmp,da],gu _⟩
 case gtr=>obtain rfl:=aG c;exact⟨.bool<|ba m n,by simp[binOp,Op.intCmp,ba],gu _⟩
 case geq=>obtain rfl:=aG c;exact⟨.bool<|da m n,by simp[binOp,Op.intCmp,da],gu _⟩
theorem jl(s:ao):(⟨s.toArray⟩:ByteArray).toList=s:=by rw[ByteArray.toList_eq]
theorem Tr(s t:ao):(s==t)=bw s t:=by rw[EH];simp[bw]
theorem OA{c:BinOp}{s t:ao}{v:aL}{g:TypeId}{x y:Operand}(b:(Tk c s t).run=some v) :
  ∃r,(gN c g x y (.string ⟨s.toArray⟩)<|.string ⟨t.toArray⟩).run P w=.ok r w/\cf γ σ.mem w v .val [r]:=by
 unfold gN;cases c<;>simp only[eqGuard_at_string,Sem.run_bind,Sem.run_pure,Result.andThen_ok]<;>simp only[Tk] at b<;>try (cases b;done)
 case add =>
  obtain⟨h,e⟩:=cl b;obtain rfl:=aG e;have j:s.length+t.length<=4294967296:=by have i:plus (len s) (len t)<=4294967296:=kH h;simp only[plus,len] at i;omega
  refine⟨.string ⟨(s++t).toArray⟩,?_,mkStr (by simp only[app,gI,maxLen];omega)⟩;have f:∀l:ao,(⟨l.toArray⟩:ByteArray).size=l.length:=λl=>rfl;have:¬(((s.length+t.length:Nat):Int) > IntKind.i64.max):=by rw[IntKind.max_i64];omega
  simp only[binOp,Op.stringOp,f,this,pV,Sem.run_pure]
  congr 2
 case eql=>obtain rfl:=aG b;exact⟨.bool<|bw s t,by simp only[binOp,Op.stringOp,jl,Tr,Sem.run_pure],gu _⟩
 case neq=>obtain rfl:=aG b;exact⟨.bool<|nt<|bw s t,by simp only[binOp,Op.stringOp,jl,Tr,Sem.run_pure];rfl,gu _⟩
 case lss=>obtain rfl:=aG b;exact⟨.bool<|gf s t,by simp only[binOp,Op.stringOp,jl,Tr,Sem.run_pure];rfl,gu _⟩
 case leq=>obtain rfl:=aG b;exact⟨.bool<|YG (gf s t)<|bw s t,by simp only[binOp,Op.stringOp,jl,Tr,Sem.run_pure];rfl,gu _⟩
 case gtr=>obtain rfl:=aG b;exact⟨.bool<|nt<|YG (gf s t)<|bw s t,by simp only[binOp,Op.stringOp,jl,Tr,Sem.run_pure];rfl,gu _⟩
 case geq=>obtain rfl:=aG b;exact⟨.bool<|nt<|gf s t,by simp only[binOp,Op.stringOp,jl,Tr,Sem.run_pure];rfl,gu _⟩
theorem QK{b:BinOp}{left:Bool}{k e:IntKind}{n m:Int}{f:TypeId}{x y:Operand}(g:k.min<=n/\n<=k.max)(h:CQ b=some left)(i:ba m 0=false) :
  ∃r,(gN b f x y (.int k n)<|.int e m).run P w=.ok r w/\cf γ σ.mem w (.data (.int k)<|bif left then kb k n m else pd k n m) .val [r]:=by
 have c:¬m<0:=by simpa [ba] using i
 unfold gN;rcases Oy h with ⟨rfl,rfl⟩|⟨rfl,rfl⟩
 .exact⟨.int k<|kb k n m,by simp only[eqGuard_shl,binOp_shl,Op.shift,aX c,Sem.run_bind,Sem.run_pure,Result.andThen_ok];rfl,mkInt (fx _ _)⟩
 .exact⟨.int k<|pd k n m,by simp only[eqGuard_shr,binOp_shr,Op.shift,aX c,Sem.run_bind,Sem.run_pure,Result.andThen_ok];rfl,mkInt (abE _ g)⟩
theorem Ax{t:Ty}{c:TypeId}(g:Den P t c){cs:Array Value}{off:Nat}(h:off+t.size<=cs.size)(j:t.isAgg=false->t.size=1) :
  (part c cs off).run P w=.ok (bW t<|(cs.toList.drop off).take t.size) w:=by
 unfold part;rw[Sem.run_bind,g.agg w,Result.andThen_ok];cases b:t.isAgg with
 | true =>
   simp only[kQ,Sem.run_bind,g.sizeOf w,Result.andThen_ok,Sem.run_pure,bW,b,ev]
   congr 2
   apply Qz;simp
 | false =>
   have k:=j b;simp only[aX<|show ¬(false=true) by simp,bW,b,iU,k];have f:off<cs.size:=by omega
   have e:(cs.toList.drop off).take 1=[cs[off]]:=by
    apply Lj;intro i;rw[fA];cases i with
    | zero=>simp[f]
    | succ i=>simp
   rw[e];simp[f]
theorem sn:∀{t:Ty},t.isAgg=false->t.size=1:=by
 intro t h;induction t with
 | alt u a r c b=>exact b h
 | arr|pair|unit=>cases h
 | _=>rfl
theorem QL(t:Ty):1<=t.CP:=by cases t<;>simp[Ty.CP]
theorem Bm{γ:Gh}{w:World}:∀(t:Ty),(∀(d:Nat) (tid:TypeId) (x y:t.den) (cx cy:List Value) (c:Bool),Den P t tid->bD w γ.I t x cx->bD w γ.I t y cy->Ty.eqv t x y=some c->t.CP<d ->
   (Op.equalIn d tid (bW t cx)<|bW t cy).run P w=.ok c w) /\
  (∀(d off:Nat) (v:List Field) (x y:t.den) (cx cy:List Value) (o s:Array Value) (c:Bool),pS P t off v->bD w γ.I t x cx->bD w γ.I t y cy->Ty.eqv t x y=some c->t.CP<d ->
   o.toList.drop off=cx->s.toList.drop off=cy->off<=o.size->off<=s.size->(Op.eqFields d o s v).run P w=.ok c w):=by
 intro t;induction t with
 | int k =>
   refine⟨λd tid x y cx cy c g A C m J=>?_,λd off v x y cx cy o s c g=>by simp[pS,eZ] at g⟩;obtain⟨d,rfl⟩:∃e,d=e+1:=⟨d-1,by omega⟩;rw[A.1,C.1];obtain rfl:=aG m;show(Op.equalIn (d+1) tid (.int k x)<|.int k y).run P w=_
   rw[run_equalIn_int w d tid k k x y g.int]
   congr 1
 | bool =>
   refine⟨λd tid x y cx cy c g A C m J=>?_,λd off v x y cx cy o s c g=>by simp[pS,eZ] at g⟩;obtain⟨d,rfl⟩:∃e,d=e+1:=⟨d-1,by omega⟩;rw[show cx=_ from A,show cy=_ from C];obtain rfl:=aG m;exact run_equalIn_bool' w d tid x y g.bool
 | str =>
   refine⟨λd tid x y cx cy c g A C m J=>?_,λd off v x y cx cy o s c g=>by simp[pS,eZ] at g⟩;obtain⟨d,rfl⟩:∃e,d=e+1:=⟨d-1,by omega⟩;rw[A.1,C.1];obtain rfl:=aG m;have K:=run_equalIn_string (P:=P) w d tid ⟨List.toArray (α:=UInt8) x⟩ ⟨List.toArray (α:=UInt8) y⟩ g.str;rw[jl<|show ao from x,jl (show ao from y),Tr] at K;exact K
 | slice e ih=>exact⟨(λd tid x y cx cy c g A C m=>by cases m),(λd off v x y cx cy o s c g=>by simp[pS,eZ] at g)⟩
 | alt u a r Y ihr=>exact⟨(λd tid x y cx cy c g A C m=>by cases m),(λd off v x y cx cy o s c g=>by simp[pS,eZ] at g)⟩
 | za=>exact⟨(λd tid x y cx cy c g A C m=>by cases m),(λd off v x y cx cy o s c g=>by simp[pS,eZ] at g)⟩
 | arr n e ih =>
   refine⟨λd tid x y cx cy c g A C m J=>?_,(λd off v x y cx cy o s c g=>by simp[pS,eZ] at g)⟩;cases e with
   | int k =>
     obtain⟨d,rfl⟩:∃e,d=e+1:=⟨d-1,by omega⟩;obtain⟨d,rfl⟩:∃e,d=e+1:=⟨d-1,by have:(Ty.arr n<|.int k).CP=1+1:=rfl;omega⟩;obtain rfl:=aG m;obtain⟨Z,L,F,k3⟩:=g.arr;obtain⟨i,z,i1,i2,_,_⟩:=F.info;have M:=F.cells;show(Op.equalIn (d+1+1) tid (.agg cx.toArray)<|.agg cy.toArray).run P w=_
     rw[run_equalIn_array w (d+1) cx.toArray cy.toArray L i1,M];obtain⟨hxl,O,D⟩:=A;obtain⟨hyl,Q,E⟩:=C;have U:(Ty.int k).size=1:=rfl;rw[U] at O D Q E⊢;rw[Bk] at O Q;change List Int at x y;have item:∀V:List Nat,(∀i∈V,i<n)->(Op.eqItems (d+1) Z 1 cx.toArray cy.toArray V).run P w=.ok (V.all λi=>decide (x[i]?=y[i]?)) w:=by
      intro V;induction V with
      | nil=>intro _;rfl
      | cons i V ihs =>
        intro hi;have G:=hi i (mJ ..);obtain⟨a,hxi⟩:∃a,x[i]?=some a:=⟨_,gH (by rw[show x.length=n from hxl];exact G)⟩;obtain⟨b,hyi⟩:∃a,y[i]?=some a:=⟨_,gH (by rw[show y.length=n from hyl];exact G)⟩;have W:=Ax (w:=w) F (cs:=cx.toArray) (off:=i*1) (by rw[U];simp[O];omega) (λ_=>U);have X:=Ax (w:=w) F (cs:=cy.toArray) (off:=i*1) (by rw[U];simp[Q];omega) (λ_=>U);have ex:=(D i _ hxi).1;have ey:=(E i _ hyi).1;rw[U] at W X;rw[show cx.toArray.toList=cx from rfl,ex] at W;rw[show cy.toArray.toList=cy from rfl,ey] at X;simp only[Op.eqItems,Sem.run_bind,W,X,Result.andThen_ok];have R:=run_equalIn_int w d Z k k a b F.int;simp only[bW,Ty.isAgg,iU,List.headD_cons,R,kQ,Result.andThen_ok,hxi,hyi,MX];cases hb:(a==b) with
        | true =>
          have S:a=b:=by simpa using hb
          simp only[Qv,Is,pV,S,CN,Qw];exact ihs λj hj=>hi j (oh _ hj)
        | false =>
          have S:¬a=b:=by simpa using hb
          simp[S]
     rw[item _ λi hi=>GN.1 hi]
     congr 1
     unfold eqL;rw[EH,sb];simp only[GN,nE];constructor
     .intro h;apply Lj;intro i;by_cases G:i<n
      .exact h i G
      .rw[Oh<|by rw[show x.length=n from hxl];omega,Oh (by rw[show y.length=n from hyl];omega)]
     .intro h i _;exact congrArg (λl=>l[i]?) h
   | _=>cases m
 | unit =>
   refine⟨(λd tid x y cx cy c g=>by simp[Den,eZ] at g),λd off v x y cx cy o s c g A C m J K h2 h3 h4=>?_⟩;cases v with
   | nil=>obtain rfl:=aG m;rfl
   | cons f r=>simp[pS,eZ] at g
 | pair a b Y ihb =>
   have key:(∀(d off:Nat) (v:List Field) (x y:(Ty.pair a b).den) (cx cy:List Value) (o s:Array Value) (c:Bool),pS P (.pair a b) off v->bD w γ.I (.pair a b) x cx->bD w γ.I (.pair a b) y cy->Ty.eqv (.pair a b) x y=some c->(Ty.pair a b).CP<d+1 ->
    o.toList.drop off=cx->s.toList.drop off=cy->off<=o.size->off<=s.size->(Op.eqFields d o s v).run P w=.ok c w):=by
    intro d off v x y cx cy o s c g A C m J K h2 h3 h4;obtain⟨f,r,rfl,L,F,k3,k4,k5⟩:=g.cons;obtain⟨x1,x2,D,hx1,hx2⟩:=A;obtain⟨y1,y2,E,hy1,hy2⟩:=C;simp only[Ty.eqv] at m;cases H:Ty.eqv a x.1 y.1 with
    | none=>rw[H] at m;cases m
    | some p =>
      cases T:Ty.eqv b x.2 y.2 with
      | none=>rw[H,T] at m;cases m
      | some q =>
        rw[H,T] at m;obtain rfl:=aG m;have hlx:=hx1.length;have hly:=hy1.length;have lx:o.size-off=x1.length+x2.length:=by
         have:=congrArg List.length (K.trans D);simpa using this
        have ly:s.size-off=y1.length+y2.length:=by
         have:=congrArg List.length (h2.trans E);simpa using this
        have W:=Ax (w:=w) k3 (cs:=o) (off:=f.offset) (by omega) sn;have X:=Ax (w:=w) k3 (cs:=s) (off:=f.offset) (by omega) sn;have ex:(o.toList.drop f.offset).take a.size=x1:=by rw[L,K,D,<-hlx,Iw]
        have ey:(s.toList.drop f.offset).take a.size=y1:=by rw[L,h2,E,<-hly,Iw]
        rw[ex] at W;rw[ey] at X;have Ts:(Ty.pair a b).CP=a.CP+b.CP+1:=rfl;have hra:=QL a;have hrb:=QL b;have R:=Y.1 d f.type x.1 y.1 x1 y1 p k3 hx1 hy1 H (by omega);simp only[Op.eqFields,aV F,Sem.run_bind,W,X,R,Result.andThen_ok];cases p with
        | false=>simp[an]
        | true =>
          simp only[Qv,Is,pV];rw[ihb.2 d (off+a.size) r x.2 y.2 x2 y2 o s q k5 hx2 hy2 T (by omega) (by rw[<-vb,K,D,<-hlx,Bb]) (by rw[<-vb,h2,E,<-hly,Bb]) (by omega)<|by omega];simp[an]
   refine⟨λd tid x y cx cy c g A C m J=>?_,λd off v x y cx cy o s c g A C m J=>key d off v x y cx cy o s c g A C m (by omega)⟩;obtain⟨d,rfl⟩:∃e,d=e+1:=⟨d-1,by omega⟩;obtain⟨v,L,F,k3,k4⟩:=g.pair;have hf:P.fieldsOf tid=v:=by simp[Program.fieldsOf,L]
   show(Op.equalIn (d+1) tid (.agg _)<|.agg _).run P w=_
   rw[run_equalIn_struct w d tid _ _ (by rw[hf];exact L) k4,hf];exact key d 0 v.toList x y cx cy _ _ c F A C m (by omega) (by simp) (by simp) (by simp) (by simp)
end
end Go.Ge
