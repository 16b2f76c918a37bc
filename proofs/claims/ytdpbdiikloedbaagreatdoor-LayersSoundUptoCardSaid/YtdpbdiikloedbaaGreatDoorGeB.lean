/- A ghost interpreter of the model's code, and that it tells the truth: part 2. It says of a function of plain data what a call of it comes to. -/
import Derived.Test.YtdpbdiikloedbaaGreatDoorGeA
import Derived.Laws.StructEq
import Derived.ChangeKeysEq
set_option linter.unusedSectionVars false
namespace Go.Ge
structure Gh where
 I:Nat->Nat->Prop
 loc:Nat->Option (Nat×Nat)
def bZ(t:Ty)(cs:List Value):Value:=bif t.isAgg then .agg cs.toArray else cs.headD undef
def bI(w:World)(I:Nat->Nat->Prop):(t:Ty)->t.den->List Value->Prop
 | .int k,n,cs=>cs=[.int k n]/\k.min<=(show Int from n)/\(show Int from n)<=k.max
 | .bool,b,cs=>cs=[.bool b]
 | .str,s,cs=>cs=[.string ⟨List.toArray (α:=UInt8) s⟩]/\List.length (α:=UInt8) s<=maxLen
 | .slice e,l,cs=>((∃base,cs=[.slice base 0 0])/\l=([]:List e.den)) \/
  ∃f off g,cs=[.slice (some ⟨f,off,none⟩) (List.length (α:=e.den) l) g]/\List.length (α:=e.den) l<=g/\g<=maxLen /\
   ∀(i:Nat) (x:e.den),(show List e.den from l)[i]?=some x->∃es:List Value,es.length=e.size /\
    (∀(j:Nat) v,es[j]?=some v->w.cell? ⟨f,off+i*e.size+j,none⟩=some v/\I f (off+i*e.size+j))/\bI w I e x es
 | .arr n e,l,cs=>List.length (α:=e.den) l=n/\cs.length=n*e.size /\
  ∀(i:Nat) (x:e.den),(show List e.den from l)[i]?=some x->bI w I e x ((cs.drop<|i*e.size).take e.size)
 | .pair a b,x,cs=>∃h m,cs=h++m/\bI w I a x.1 h/\bI w I b x.2 m
 | .unit,_,cs=>cs=[]
 | .alt u a r,x,cs=>match(show a.den⊕r.den from x) with
   | .inl y=>r.size=1/\∃c,cs=[.iface u<|bZ a c]/\bI w I a y c
   | .inr z=>bI w I r z cs
 | .zj,_,cs=>cs=[.nilIface]
theorem bI.length{w:World}{I:Nat->Nat->Prop}:∀{t:Ty} {x:t.den} {cs:List Value},bI w I t x cs->cs.length=t.size:=by
 intro t;induction t with
 | int k=>intro x cs h;rw[h.1];rfl
 | bool=>intro x cs h;rw[h];rfl
 | str=>intro x cs h;rw[h.1];rfl
 | slice e l=>intro x cs h;rcases h with ⟨⟨_,h⟩,_⟩|⟨_,_,_,h,_⟩<;>rw[h]<;>rfl
 | arr n e l=>intro x cs h;exact h.2.1
 | pair a b f g=>intro x cs h;obtain⟨o,p,rfl,i,m⟩:=h;rw[fQ,f i,g m];rfl
 | unit=>intro x cs h;rw[h];rfl
 | alt u a r f j =>
   intro x cs h;rcases x with y|z
   .obtain⟨i,c,rfl,_⟩:=h;exact i.symm
   .exact j (show bI w I r z cs from h)
 | zj=>intro x cs h;rw[show cs=_ from h];rfl
theorem bI.mono{w w':World}{I I':Nat->Nat->Prop}(D:∀b o,I b o->I' b o)(E:∀b o,I b o->w'.cell? ⟨b,o,none⟩=w.cell? ⟨b,o,none⟩) :
  ∀{t:Ty} {x:t.den} {cs:List Value},bI w I t x cs->bI w' I' t x cs:=by
 intro t;induction t with
 | int k=>intro x cs h;exact h
 | bool=>intro x cs h;exact h
 | str=>intro x cs h;exact h
 | slice e m =>
   intro x cs h;rcases h with h|⟨blk,off,p,g,l,q,F⟩
   .exact .inl h
   .refine .inr ⟨blk,off,p,g,l,q,λi y s=>?_⟩;obtain⟨es,G,H,J⟩:=F i y s;exact⟨es,G,λj v K=>by obtain⟨a,b⟩:=H j v K;exact⟨by rw[E _ _ b];exact a,D _ _ b⟩,m J⟩
 | arr n e m=>intro x cs h;exact⟨h.1,h.2.1,λi y s=>m (h.2.2 i y s)⟩
 | pair a b f A=>intro x cs h;obtain⟨L,M,O,g,l⟩:=h;exact⟨L,M,O,f g,A l⟩
 | unit=>intro x cs h;exact h
 | alt u a r f C =>
   intro x cs h;rcases x with y|z
   .obtain⟨g,c,l,q⟩:=h;exact⟨g,c,l,f q⟩
   .exact C (show bI w I r z cs from h)
 | zj=>intro x cs h;exact h
theorem bI.one{w:World}{I:Nat->Nat->Prop}:∀{t:Ty} {x:t.den} {cs:List Value},bI w I t x cs->∀v∈cs,v.oneCell'=true:=by
 intro t;induction t with
 | int k=>intro x cs h v f;rw[h.1] at f;simp at f;subst f;rfl
 | bool=>intro x cs h v f;rw[h] at f;simp at f;subst f;rfl
 | str=>intro x cs h v f;rw[h.1] at f;simp at f;subst f;rfl
 | slice e s=>intro x cs h v f;rcases h with ⟨⟨_,h⟩,_⟩|⟨_,_,_,h,_⟩<;>rw[h] at f<;>simp at f<;>subst f<;>rfl
 | arr n e s =>
   intro x cs h v f;obtain⟨i,j,A⟩:=h;obtain⟨k,D,l⟩:=MT f;have C:0<e.size:=by
    rcases QG e.size with m|m
    .rw[m,Nat.mul_zero] at j;omega
    .exact m
   have hdiv:k / e.size<n:=by rw[V1 C];omega
   have hx:∃y,(show List e.den from x)[k / e.size]?=some y:=⟨_,fN (by rw[i];exact hdiv)⟩;obtain⟨y,E⟩:=hx;refine s (A _ y E) v ?_;have F:=wT k C;have o:k / e.size*e.size+k % e.size=k:=by rw[QX];exact QP k e.size
   have:((cs.drop<|k / e.size*e.size).take e.size)[k % e.size]?=some v:=by
    rw[fi,aQ F,mn,o,fN D,l]
   exact dY this
 | pair a b g p =>
   intro x cs h v f;obtain⟨G,H,rfl,i,j⟩:=h;rcases pO.1 f with f|f
   .exact g i v f
   .exact p j v f
 | unit=>intro x cs h v f;rw[h] at f;cases f
 | alt u a r g q =>
   intro x cs h v f;rcases x with y|z
   .obtain⟨i,c,rfl,A⟩:=h;simp at f;subst f;rfl
   .exact q (show bI w I r z cs from h) v f
 | zj=>intro x cs h v f;rw[show cs=_ from h] at f;simp at f;subst f;rfl
theorem rM{w:World}{I:Nat->Nat->Prop}:∀{t:Ty} {x:t.den} {cs:List Value},bI w I t x cs->(bZ t cs).cells.toList=cs:=by
 intro t;induction t with
 | int k=>intro x cs h;unfold bZ;rw[h.1];rfl
 | bool=>intro x cs h;unfold bZ;rw[h];rfl
 | str=>intro x cs h;unfold bZ;rw[h.1];rfl
 | slice e=>intro x cs h;unfold bZ;rcases h with ⟨⟨_,h⟩,_⟩|⟨_,_,_,h,_⟩<;>rw[h]<;>rfl
 | arr n e=>intro x cs h;rfl
 | pair a b=>intro x cs h;rfl
 | unit=>intro x cs h;rfl
 | alt u a r g f =>
   intro x cs h;rcases x with y|z
   .obtain⟨i,c,rfl,j⟩:=h;unfold bZ Ty.isAgg;cases r.isAgg<;>rfl
   .exact f (show bI w I r z cs from h)
 | zj=>intro x cs h;unfold bZ;rw[show cs=_ from h];rfl
inductive Mode where
 | cells|val|many
def uC(b:Option Addr)(c:Nat):Prop:=c=0\/∃e f,b=some ⟨e,f,none⟩
def cG:List B9->Nat
 | []=>0
 | .fJ _ off::p=>off+cG p
 | .idx i size::p=>i.toNat*size+cG p
theorem zv(p q:List B9):cG (p++q)=cG p+cG q:=by
 induction p with
 | nil=>simp[cG]
 | cons s p b=>cases s<;>simp[cG,b]<;>omega
section
variable (γ:Gh) (mem:Nat->Option bF) (w:World)
def C3(g:bF)(b:Nat)(h:Int)(c:Option Addr)(e:Nat):Prop:=h=0->g.buf=true->(γ.loc b=none/\c=none/\e=0)\/∃f,γ.loc b=some (f,e)/\c=some ⟨f,0,none⟩
def C4(I:Nat->Nat->Prop)(b c:Nat)(e:List Value):Prop:=∀(j:Nat) v,e[j]?=some v->w.cell? ⟨b,c+j,none⟩=some v/\I b (c+j)
def mx(b c:Nat)(K:bF->Prop):Prop:=∃e,mem b=some e/\c<=e.aP/\(e.aP=c->K e)
def cl:aO->Mode->List Value->Prop
 | .undef,.val,vs=>∃v,vs=[v]
 | .undef,.cells,vs=>∃v,vs=[v]/\v.oneCell'=true
 | .undef,.many,_=>False
 | .data t x,.cells,vs=>bI w γ.I t x vs
 | .data t x,.val,vs=>∃cs,bI w γ.I t x cs/\vs=[bZ t cs]
 | .data _ _,.many,_=>False
 | .mix a b,.cells,vs=>∃l m,vs=l++m/\cl a .cells l/\cl b .cells m
 | .mix a b,.val,vs=>∃l m,vs=[.agg (l++m).toArray]/\cl a .cells l/\cl b .cells m
 | .mix a b,.many,vs=>∃v r,vs=v::r/\cl a .val [v]/\cl b .many r
 | .nl,.many,vs=>vs=[]
 | .nl,_,_=>False
 | .yP u,.val,vs=>∃h:Array Value,vs=[.tuple h]/\cl u .many h.toList
 | .yP _,_,_=>False
 | .rf,.many,_=>False
 | .rf,_,vs=>vs=[.pointer none]
 | .ss,.many,_=>False
 | .ss,_,vs=>vs=[.nilIface]
 | .vu _ _,.many,_=>False
 | .vu b aP,_,vs=>(∃v,vs=[v]/\v.oneCell'=true)/\mx mem b aP λ_=>∃g cap,γ.loc b=some (g,cap)/\(vs=[.pointer none]\/vs=[.pointer<|some ⟨g,0,none⟩])
 | .oa,.many,_=>False
 | .oa,_,vs=>vs=[.slice none 0 0]
 | .cell _ _,.many,_=>False
 | .cell t x,_,vs=>∃g off cs,vs=[.pointer<|some ⟨g,off,none⟩]/\bI w γ.I t x cs/\C4 w γ.I g off cs
 | .ptr _ _ _,.many,_=>False
 | .ptr b aP p,_,vs=>(∃v,vs=[v]/\v.oneCell'=true)/\mx mem b aP λ_=>∃g cap,γ.loc b=some (g,cap)/\vs=[.pointer<|some ⟨g,cG p,none⟩]
 | .whole _ _,.many,_=>False
 | .whole b aP,_,vs=>(∃v,vs=[v]/\v.oneCell'=true)/\mx mem b aP λbx=>∃e n,bx.buf=true/\bx.row=some (e,n) /\
  ((γ.loc b=none/\vs=[.slice none 0 0])\/∃g cap,γ.loc b=some (g,cap)/\vs=[.slice (some ⟨g,0,none⟩) n cap])
 | .part _ _ _ _,.many,_=>False
 | .part b aP lo n,_,vs=>(∃v,vs=[v]/\v.oneCell'=true)/\mx mem b aP λbx=>∃e k,bx.row=some (e,k)/\0<=lo/\0<=n/\lo+n<=k /\
  ∃base cap,vs=[.slice base n.toNat cap]/\n.toNat<=cap/\cap<=maxLen/\(uC base cap/\C3 γ bx b lo base cap)/\(n=0\/∃g c,γ.loc b=some (g,c)/\base=some ⟨g,lo.toNat*e.size,none⟩)
 | .win _ _ _ _ _ _ _,.many,_=>False
 | .win b aP q e k lo n,_,vs=>(∃v,vs=[v]/\v.oneCell'=true)/\mx mem b aP λ_=>q≠[]/\∃g c,γ.loc b=some (g,c)/\0<=lo/\0<=n/\lo+n<=k /\
  ∃base cap,vs=[.slice base n.toNat cap]/\n.toNat<=cap/\(n=0\/base=some ⟨g,cG q+lo.toNat*e.size,none⟩)
 | .fn _ _,.many,_=>False
 | .fn f j,_,vs=>∃h:Array Value,vs=[.func (.func f) #[] h]/\h.size=j.length /\
  ∀(i:Nat) b aP,j[i]?=some (b,aP)->mx mem b aP λ_=>∃g cap,γ.loc b=some (g,cap)/\h[i]?=some (.pointer<|some ⟨g,0,none⟩)
def lT(c:Array Value)(e:Nat×Nat):Prop:=∀b,b<c.size->¬(e.1<=b/\b<e.2)
def Ty.isInt:Ty->Bool
 | .int _=>true
 | _=>false
structure ThB (e:Ty) (cur:Array Value) (fr:Nat×Nat):Prop where
 th:lT cur fr
 um:e.isInt=false->¬(fr.1<=cur.size/\cur.size<fr.2)
def cE(b:Nat)(bx:bF):Prop :=
 match bx.buf with
 | true=>∃(e:Ty) (l:List e.den),bx.val=.data (.slice e) l/\0<e.size /\
  ((γ.loc b=none/\l=[])\/∃f cap c tid g,γ.loc b=some (f,cap)/\w.heap[f]?=some (.cells c tid g)/\ThB e c g/\(bx.tid=0\/tid=bx.tid)/\l.length<=cap/\cap<=maxLen /\
   c.size=cap*e.size/\∀(i:Nat) (x:e.den),l[i]?=some x->bI w γ.I e x ((c.toList.drop<|i*e.size).take e.size))
 | false=>∃f cap c tid g,γ.loc b=some (f,cap)/\w.heap[f]?=some (.cells c tid g)/\lT c g/\(bx.tid=0\/tid=bx.tid)/\cl γ mem w bx.val .cells c.toList
end
def TW(b:bF):Nat->Prop:=λc=>b.ro=true/\(b.buf=true->∀e n,b.row=some (e,n)->c<n*e.size)
abbrev fm:=Nat->(Obj->Prop)->Prop
def vv:fm:=λ_ _=>False
def EH(G:fm)(w:World):Prop:=∀b Q,G b Q->∃o,w.heap[b]?=some o/\Q o
structure qK where
 lo:Nat
 X:Nat->Prop
 G:fm
def qK.has(B:qK)(k:Nat):Prop:=B.lo<=k\/B.X k
def l5(G:fm)(n:Nat):qK:=⟨n,λ_=>False,G⟩
theorem qK.new{B:qK}{n:Nat}(h:B.lo<=n):B.has n:=.inl h
theorem pY{G:fm}{n k:Nat}:(l5 G n).has k↔n<=k:=⟨λh=>h.elim id False.elim,.inl⟩
structure uD (B:qK) (w w':World):Prop where
 os:w'.os=w.os
 tape:w'.tape=w.tape
 output:w'.output=w.output
 size:w.heap.size<=w'.heap.size
 block:∀k,¬B.has k->w'.heap[k]?=w.heap[k]?
theorem uD.refl(B:qK)(w:World):uD B w w:=⟨rfl,rfl,rfl,cg _,λ_ _=>rfl⟩
theorem uD.trans{B:qK}{a b c:World}(h:uD B a b)(k:uD B b c):uD B a c :=
 ⟨k.os.trans h.os,k.tape.trans h.tape,k.output.trans h.output,gj h.size k.size,λi e=>(k.block i e).trans (h.block i e)⟩
theorem uD.of{B:qK}{w b:World}(h:RowKit.Below B.lo w b):uD B w b:=⟨h.os,h.tape,h.output,h.size,λk c=>h.block k (QL λq=>c (.inl q))⟩
theorem uD.below{G:fm}{n:Nat}{w b:World}(h:uD (l5 G n) w b):RowKit.Below n w b:=⟨h.os,h.tape,h.output,h.size,λk c=>h.block k λq=>by have:=pY.1 q;omega⟩
theorem uD.drew{B:qK}{a w:World}(h:uD B a w):uD B a w.drew:=⟨h.os,h.tape,h.output,h.size,h.block⟩
theorem uD.alloc{B:qK}{a w:World}(h:uD B a w)(b:B.lo<=w.heap.size)(o:Obj):uD B a (w.alloc o):=h.trans (.of<|(RowKit.Below.refl _ _).alloc b o)
structure bB (B:qK) (γ:Gh) (mem:Nat->Option bF) (w:World):Prop where
 base:B.lo<=w.heap.size
 boxes:∀b bx,mem b=some bx->cE γ mem w b bx
 inj:∀b c blk k k',mem b≠none->mem c≠none->γ.loc b=some (blk,k)->γ.loc c=some (blk,k')->b=c
 fresh:∀b blk k,mem b≠none->γ.loc b=some (blk,k)->B.has blk/\blk<w.heap.size
 tu:∀blk off,γ.I blk off->blk<w.heap.size
 sep:∀b bx blk k off,mem b=some bx->γ.loc b=some (blk,k)->γ.I blk off->TW bx off
 cU:∀b Q,B.G b Q->¬B.has b/\∃o,w.heap[b]?=some o/\Q o
structure cW (B:qK) (N:Nat) (γ:Gh) (σ:St) (a:Act) (w:World):Prop where
 slots:∀t,cl γ σ.mem w (σ.slots t) .val [a.tmps.getD t undef]
 size:a.tmps.size=N
 defers:a.defers=[]
 ok:bB B γ σ.mem w
structure Ext (B:qK) (γ:Gh) (mem:Nat->Option bF) (w:World) (bQ:Gh) (dL:Nat->Option bF) (w':World):Prop where
 below:uD B w w'
 I:∀b o,γ.I b o->bQ.I b o
 pZ:∀b o,bQ.I b o->γ.I b o\/B.has b
 cells:∀b o,γ.I b o->w'.cell? ⟨b,o,none⟩=w.cell? ⟨b,o,none⟩
 boxes:∀b bx,mem b=some bx->∃su,dL b=some su/\bx.aP<=su.aP/\(su.aP=bx.aP->bQ.loc b=γ.loc b/\su.buf=bx.buf/\su.row=bx.row)
theorem bB.C5{B:qK}{k j:Gh}{e f:Nat->Option bF}{w l:World}(h:bB B k e w)(x:Ext B k e w j f l):∀b Q,B.G b Q->¬B.has b/\∃o,l.heap[b]?=some o/\Q o:=λb Q g=>by
 obtain⟨i,o,c,q⟩:=h.cU b Q g;exact⟨i,o,(x.below.block b i).trans c,q⟩
theorem bB.Ox{B:qK}{e:Gh}{c:Nat->Option bF}{w:World}(h:bB B e c w):EH B.G w:=λb Q g=>(h.cU b Q g).2
theorem Ext.refl(B:qK)(γ:Gh)(mem:Nat->Option bF)(w:World):Ext B γ mem w γ mem w :=
 ⟨uD.refl _ _,λ_ _ h=>h,λ_ _ h=>.inl h,λ_ _ _=>rfl,λb bx h=>⟨bx,h,cg _,λ_=>⟨rfl,rfl,rfl⟩⟩⟩
theorem Ext.trans{B:qK}{n j f:Gh}{l g c:Nat->Option bF}{w p m:World}(h:Ext B n l w j g p)(k:Ext B j g p f c m) :
  Ext B n l w f c m where
 below:=h.below.trans k.below
 I:=λb o x=>k.I _ _ (h.I _ _ x)
 pZ:=λb o x=>by
  rcases k.pZ b o x with y|y
  .exact h.pZ b o y
  .exact .inr y
 cells:=λb o x=>(k.cells _ _<|h.I _ _ x).trans (h.cells _ _ x)
 boxes:=λb bx x=>by
  obtain⟨su,q,r,s⟩:=h.boxes b bx x;obtain⟨i,t,u,v⟩:=k.boxes b su q;refine⟨i,t,gj r u,λe=>?_⟩;have z:su.aP=bx.aP:=by omega
  have A:i.aP=su.aP:=by omega
  obtain⟨C,D,E⟩:=s z;obtain⟨F,G,H⟩:=v A;exact⟨F.trans C,G.trans D,H.trans E⟩
theorem mx.ext{B:qK}{k j:Gh}{g c:Nat->Option bF}{w o:World}(h:Ext B k g w j c o){b i:Nat}{K l:bF->Prop}(p:mx g b i K)
  (q:∀f su,g b=some f->c b=some su->j.loc b=k.loc b->su.buf=f.buf->su.row=f.row->K f->l su):mx c b i l:=by
 obtain⟨f,m,r,s⟩:=p;obtain⟨su,n,t,u⟩:=h.boxes b f m;refine⟨su,n,gj r t,λe=>?_⟩;have v:f.aP=i:=by omega
 obtain⟨x,y,z⟩:=u (by omega);exact q f su m n x y z (s v)
theorem C4.ext{w e:World}{I f:Nat->Nat->Prop}(g:∀b o,I b o->f b o)(i:∀b o,I b o->e.cell? ⟨b,o,none⟩=w.cell? ⟨b,o,none⟩){blk c:Nat}{cs:List Value}
  (h:C4 w I blk c cs):C4 e f blk c cs :=
 λj v k=>by obtain⟨a,b⟩:=h j v k;exact⟨by rw[i _ _ b];exact a,g _ _ b⟩
theorem cl.ext{B:qK}{M F:Gh}{G s:Nat->Option bF}{w O:World}(h:Ext B M G w F s O):∀{v:aO} {m:Mode} {vs:List Value},cl M G w v m vs->cl F s O v m vs:=by
 intro v;induction v with
 | undef=>intro m vs r;cases m<;>exact r
 | data t x =>
   intro m vs r;cases m with
   | cells=>exact bI.mono h.I h.cells r
   | val=>obtain⟨cs,g,j⟩:=r;exact⟨cs,bI.mono h.I h.cells g,j⟩
   | many=>exact r
 | oa=>intro m vs r;cases m<;>exact r
 | rf=>intro m vs r;cases m<;>exact r
 | ss=>intro m vs r;cases m<;>exact r
 | vu b aP =>
   intro m vs r;cases m with
   | many=>exact r
   | cells=>exact⟨r.1,r.2.ext h λl su _ _ c _ _ k=>by rw[c];exact k⟩
   | val=>exact⟨r.1,r.2.ext h λl su _ _ c _ _ k=>by rw[c];exact k⟩
 | cell t x =>
   intro m vs r;cases m with
   | many=>exact r
   | cells=>obtain⟨blk,y,cs,g,j,z⟩:=r;exact⟨blk,y,cs,g,bI.mono h.I h.cells j,z.ext h.I h.cells⟩
   | val=>obtain⟨blk,y,cs,g,j,z⟩:=r;exact⟨blk,y,cs,g,bI.mono h.I h.cells j,z.ext h.I h.cells⟩
 | ptr b aP p =>
   intro m vs r;cases m with
   | many=>exact r
   | cells=>exact⟨r.1,r.2.ext h λl su _ _ c _ _ k=>by rw[c];exact k⟩
   | val=>exact⟨r.1,r.2.ext h λl su _ _ c _ _ k=>by rw[c];exact k⟩
 | whole b aP =>
   intro m vs r;cases m with
   | many=>exact r
   | cells=>exact⟨r.1,r.2.ext h λl su _ _ c A C k=>by rw[c,A,C];exact k⟩
   | val=>exact⟨r.1,r.2.ext h λl su _ _ c A C k=>by rw[c,A,C];exact k⟩
 | part b aP lo n =>
   intro m vs r;cases m with
   | many=>exact r
   | cells=>exact⟨r.1,r.2.ext h λl su _ _ c A C k=>by unfold C3 at k⊢;rw[c,A,C];exact k⟩
   | val=>exact⟨r.1,r.2.ext h λl su _ _ c A C k=>by unfold C3 at k⊢;rw[c,A,C];exact k⟩
 | win b aP q e k lo n =>
   intro m vs r;cases m with
   | many=>exact r
   | cells=>exact⟨r.1,r.2.ext h λl su _ _ c _ _ k=>by rw[c];exact k⟩
   | val=>exact⟨r.1,r.2.ext h λl su _ _ c _ _ k=>by rw[c];exact k⟩
 | fn f Q =>
   intro m vs r;cases m with
   | many=>exact r
   | cells=>obtain⟨o,g,j,z⟩:=r;exact⟨o,g,j,λi b aP L=>(z i b aP L).ext h λl su _ _ c _ _ k=>by rw[c];exact k⟩
   | val=>obtain⟨o,g,j,z⟩:=r;exact⟨o,g,j,λi b aP L=>(z i b aP L).ext h λl su _ _ c _ _ k=>by rw[c];exact k⟩
 | mix a b D E =>
   intro m vs r;cases m with
   | cells=>obtain⟨H,J,K,g,j⟩:=r;exact⟨H,J,K,D g,E j⟩
   | val=>obtain⟨H,J,K,g,j⟩:=r;exact⟨H,J,K,D g,E j⟩
   | many=>obtain⟨H,J,K,g,j⟩:=r;exact⟨H,J,K,D g,E j⟩
 | yP u R =>
   intro m vs r;cases m with
   | val=>obtain⟨o,g,j⟩:=r;exact⟨o,g,R j⟩
   | cells=>exact r
   | many=>exact r
 | nl=>intro m vs r;cases m<;>exact r
def eM:Ty->List Value
 | .int k=>[.int k 0]
 | .bool=>[.bool false]
 | .str=>[.string ⟨#[]⟩]
 | .slice _=>[.slice none 0 0]
 | .arr n e=>(List.replicate n<|eM e).flatten
 | .pair a b=>eM a++eM b
 | .unit=>[]
 | .alt _ _ r=>eM r
 | .zj=>[.nilIface]
theorem dO(t:Ty):(eM t).length=t.size:=by
 induction t with
 | arr n e h=>simp[eM,Ty.size,h]
 | pair a b c f=>simp[eM,Ty.size,c,f]
 | alt u a r c g=>exact g
 | _=>rfl
theorem eJ{b:Type}(l:List b):∀(n i:Nat),i<n->((List.replicate n l).flatten.drop<|i*l.length).take l.length=l
 | 0,i,h=>absurd h (by omega)
 | n+1,0,_=>by simp[List.replicate_succ]
 | n+1,i+1,h=>by
   rw[List.replicate_succ,ZK,zm,Wa,<-vm,Bf];exact eJ l n i (by omega)
theorem ng(w:World)(I:Nat->Nat->Prop):∀t:Ty,bI w I t t.zero (eM t):=by
 intro t;induction t with
 | int k=>exact⟨rfl,by cases k<;>decide,by cases k<;>decide⟩
 | bool=>rfl
 | str=>exact⟨rfl,nY _⟩
 | slice e j=>exact .inl ⟨⟨none,rfl⟩,rfl⟩
 | arr n e j =>
   refine⟨QB,by rw[dO];rfl,λi x l=>?_⟩;have c:(List.replicate n e.zero)[i]?=some x:=l;rw[VZ] at c;split at c
   .rename_i m;obtain rfl:e.zero=x:=by simpa using c
    have:=eJ (eM e) n i m;rw[dO] at this;show bI w I e e.zero (((List.replicate n<|eM e).flatten.drop<|i*e.size).take e.size)
    rw[this];exact j
   .cases c
 | pair a b f g=>exact⟨_,_,rfl,f,g⟩
 | unit=>rfl
 | alt u a r f h=>exact h
 | zj=>rfl
def Oy:Value->Value->Bool
 | .int k n,.int c m=>Nat.beq (yO k) (yO c)&&decide (n=m)
 | .bool a,.bool b=>a==b
 | .string a,.string b=>decide (a.data.toList=b.data.toList)
 | .slice none 0 0,.slice none 0 0=>true
 | .pointer none,.pointer none=>true
 | .nilIface,.nilIface=>true
 | _,_=>false
theorem TX{a b:Value}(h:Oy a b=true):a=b:=by
 unfold Oy at h;split at h
 .simp only[dv,kQ] at h;rw[wU h.1,h.2]
 .simpa using h
 .rename_i a b;obtain⟨⟨a⟩⟩:=a;obtain⟨⟨b⟩⟩:=b;have c:a=b:=by simpa using h
  rw[c]
 .rfl
 .rfl
 .rfl
 .cases h
def C6:List Value->List Value->Bool
 | [],[]=>true
 | a::r,b::s=>Oy a b&&C6 r s
 | _,_=>false
theorem F6:∀{a b:List Value},C6 a b=true->a=b
 | [],[],_=>rfl
 | a::r,b::s,h=>by simp only[C6,dv] at h;rw[TX h.1,F6 h.2]
 | [],_::_,h=>by cases h
 | _::_,[],h=>by cases h
def Bx(P:Program)(c:TypeId)(b:Nat)(e:List Value):Bool :=
 match P.info? c with
 | some i=>Nat.beq i.size b&&(match i.zero with|some z=>C6 z.cells.toList e|none=>false)
 | none=>false
theorem jt{P:Program}{c:TypeId}{b:Nat}{e:List Value}(h:Bx P c b e=true) :
  ∃i z,P.info? c=some i/\i.size=b/\i.zero=some z/\z.cells.toList=e:=by
 unfold Bx at h;split at h
 .rename_i i f;simp only[dv] at h;split at h
  .rename_i z g;exact⟨i,z,f,eT h.1,g,F6 h.2⟩
  .cases h.2
 .cases h
def EI(P:Program)(b:TypeId):Bool :=
 match P.info? b with
 | some i=>Nat.ble i.bytes 32768
 | none=>false
def Ty.aab:Ty->Bool
 | .alt _ _ r=>r.aab
 | .zj=>true
 | _=>false
def eV(P:Program):Ty->Bool->TypeId->Nat->List Field->Bool
 | .int k,false,tid,_,_=>(match P.underlying tid with|some (.int g)=>Nat.beq (yO k) (yO g)|_=>false)&&Bx P tid 1 [.int k 0]
 | .bool,false,tid,_,_=>(match P.underlying tid with|some .bool=>true|_=>false)&&Bx P tid 1 [.bool false]
 | .str,false,tid,_,_=>(match P.underlying tid with|some .string=>true|_=>false)&&Bx P tid 1 [.string ⟨#[]⟩]
 | .slice e,false,tid,_,_=>(match P.underlying tid with|some (.slice c)=>eV P e false c 0 []&&EI P c&&Nat.blt 0 e.size|_=>false)&&Bx P tid 1 [.slice none 0 0]
 | .arr n e,false,tid,_,_=>(match P.underlying tid with|some (.array m c)=>Nat.beq n m&&eV P e false c 0 []&&Nat.blt 0 e.size|_=>false)&&Bx P tid (n*e.size) (eM<|.arr n e)&&!P.eqGuardType P.depth tid
 | .pair a b,false,tid,_,_=>(match P.underlying tid with
  | some (.struct h)=>(match h.toList with
    | f::r=>Nat.beq f.offset 0&&decide (f.name ≠ "_")&&eV P a false f.type 0 []&&Nat.blt 0 a.size&&eV P b true 0 a.size r
    | []=>false)
  | _=>false)&&Bx P tid (a.size+b.size) (eM<|.pair a b)&&!P.eqGuardType P.depth tid&&!P.stoodInHeld tid
 | .unit,false,tid,_,_=>false
 | .alt u _ r,false,tid,_,_=>eV P r false tid 0 []&&P.concrete u&&r.aab
 | .zj,false,tid,_,_=>(match P.underlying tid with|some (.interface _)=>true|_=>false)&&Bx P tid 1 [.nilIface]
 | .pair a b,true,_,off,f::r=>Nat.beq f.offset off&&decide (f.name ≠ "_")&&eV P a false f.type 0 []&&Nat.blt 0 a.size&&eV P b true 0 (off+a.size) r
 | .unit,true,_,_,[]=>true
 | _,_,_,_,_=>false
def Den(P:Program)(t:Ty)(b:TypeId):Prop:=eV P t false b 0 []=true
def pP(P:Program)(t:Ty)(off:Nat)(b:List Field):Prop:=eV P t true 0 off b=true
section
variable {P:Program} {tid:TypeId}
theorem Den.int{k:IntKind}(h:Den P (.int k) tid):P.underlying tid=some (.int k):=by
 simp only[Den,eV,dv] at h;have b:=h.1;split at b
 .rename_i e c;rw[c,wU b]
 .cases b
theorem Den.bool(h:Den P .bool tid):P.underlying tid=some .bool:=by
 simp only[Den,eV,dv] at h;have b:=h.1;split at b
 .rename_i c;rw[c]
 .cases b
theorem Den.str(h:Den P .str tid):P.underlying tid=some .string:=by
 simp only[Den,eV,dv] at h;have b:=h.1;split at b
 .rename_i c;rw[c]
 .cases b
theorem Den.slice{e:Ty}(h:Den P (.slice e) tid):∃b,P.underlying tid=some (.slice b)/\Den P e b/\EI P b=true/\0<e.size:=by
 simp only[Den,eV,dv] at h;have c:=h.1;split at c
 .rename_i b f;simp only[dv] at c;exact⟨b,f,c.1.1,c.1.2,by simpa using c.2⟩
 .cases c
theorem Den.arr{n:Nat}{e:Ty}(h:Den P (.arr n e) tid):∃b,P.underlying tid=some (.array n b)/\Den P e b/\0<e.size:=by
 simp only[Den,eV,dv] at h;have c:=h.1.1;split at c
 .rename_i m b f;simp only[dv] at c;rw[eT c.1.1];exact⟨b,f,c.1.2,by simpa using c.2⟩
 .cases c
theorem Den.afu{n:Nat}{e:Ty}(h:Den P (.arr n e) tid):P.eqGuardType P.depth tid=false:=by
 simp only[Den,eV,dv,jL] at h;exact h.2
theorem Den.pair{a b:Ty}(h:Den P (.pair a b) tid):∃e,P.underlying tid=some (.struct e)/\pP P (.pair a b) 0 e.toList/\P.eqGuardType P.depth tid=false/\P.stoodInHeld tid=false:=by
 simp only[Den,eV,dv] at h;obtain⟨⟨⟨c,l⟩,g⟩,i⟩:=h;split at c
 .rename_i e j;refine⟨e,j,?_,by simpa using g,by simpa using i⟩;split at c
  .rename_i f r k;simp only[pP,k,eV,sr];exact c
  .cases c
 .cases c
theorem Den.info{t:Ty}(h:Den P t tid):∃i z,P.info? tid=some i/\i.size=t.size/\i.zero=some z/\z.cells.toList=eM t:=by
 induction t with
 | int k=>simp only[Den,eV,dv] at h;exact jt h.2
 | bool=>simp only[Den,eV,dv] at h;exact jt h.2
 | str=>simp only[Den,eV,dv] at h;exact jt h.2
 | slice e=>simp only[Den,eV,dv] at h;exact jt h.2
 | arr n e=>simp only[Den,eV,dv] at h;exact jt h.1.2
 | pair a b=>simp only[Den,eV,dv] at h;exact jt h.1.1.2
 | unit=>simp[Den,eV] at h
 | alt u a r f c=>simp only[Den,eV,dv] at h;exact c h.1.1
 | zj=>simp only[Den,eV,dv] at h;exact jt h.2
theorem Den.zj(h:Den P .zj tid):∃c,P.underlying tid=some (.interface c):=by
 simp only[Den,eV,dv] at h;have b:=h.1;split at b
 .exact⟨_,by assumption⟩
 .cases b
theorem Den.rest{u:Nat}{a r:Ty}(h:Den P (.alt u a r) tid):Den P r tid/\P.concrete u=true:=by
 simp only[Den,eV,dv] at h;exact h.1
theorem Ty.IP:∀{t:Ty},t.aab=true->t.size=1/\t.isAgg=false:=by
 intro t;induction t with
 | alt u a r c b=>intro h;exact b h
 | zj=>intro h;exact⟨rfl,rfl⟩
 | _=>intro h;cases h
theorem Den.aac{u:Nat}{a r:Ty}(_:Den P r tid)(h:Den P (.alt u a r) tid):r.size=1:=by
 simp only[Den,eV,dv] at h;exact(Ty.IP h.2).1
theorem Den.agg{t:Ty}(h:Den P t tid)(w:World):(isAgg tid).run P w=.ok t.isAgg w:=by
 induction t with
 | alt u a r f g=>exact g h.rest.1
 | zj=>obtain⟨_,c⟩:=h.zj;unfold Go.isAgg;simp[run_underlying c,Ty.isAgg]
 | int k=>unfold Go.isAgg;simp[run_underlying h.int,Ty.isAgg]
 | bool=>unfold Go.isAgg;simp[run_underlying h.bool,Ty.isAgg]
 | str=>unfold Go.isAgg;simp[run_underlying h.str,Ty.isAgg]
 | slice e i=>unfold Go.isAgg;obtain⟨_,c,_⟩:=h.slice;simp[run_underlying c,Ty.isAgg]
 | arr n e i=>unfold Go.isAgg;obtain⟨_,c,_⟩:=h.arr;simp[run_underlying c,Ty.isAgg]
 | pair a b f j=>unfold Go.isAgg;obtain⟨_,c,_⟩:=h.pair;simp[run_underlying c,Ty.isAgg]
 | unit=>simp[Den,eV] at h
theorem Den.sizeOf{t:Ty}(h:Den P t tid)(w:World):(Go.sizeOf tid).run P w=.ok t.size w:=by
 obtain⟨i,z,b,c,_⟩:=h.info;simp[Go.sizeOf,typeInfo,b,c]
theorem Den.zero{t:Ty}(h:Den P t tid)(w:World):∃z,(zeroValue tid).run P w=.ok z w/\z.cells.toList=eM t:=by
 obtain⟨i,z,b,f,c,e⟩:=h.info;exact⟨z,by simp[zeroValue,typeInfo,b,c],e⟩
theorem Den.cells{t:Ty}(h:Den P t tid):P.cellsOf tid=t.size:=by
 obtain⟨i,z,b,c,_⟩:=h.info;simp[Program.cellsOf,b,c]
theorem pP.cons{a b:Ty}{off:Nat}{c:List Field}(h:pP P (.pair a b) off c) :
  ∃f r,c=f::r/\f.offset=off/\f.name ≠ "_"/\Den P a f.type/\0<a.size/\pP P b (off+a.size) r:=by
 cases c with
 | nil=>simp[pP,eV] at h
 | cons f r =>
   simp only[pP,eV,dv] at h;obtain⟨⟨⟨⟨e,g⟩,i⟩,j⟩,k⟩:=h;exact⟨f,r,rfl,eT e,by simpa using g,i,by simpa using j,k⟩
theorem pP.at{t:Ty}:∀{off:Nat} {g:List Field} {k:Nat} {u:Ty} {o:Nat},pP P t off g->uv t k=some u->jr t k=some o ->
  ∃f,g[k]?=some f/\f.offset=off+o/\Den P u f.type/\0<u.size:=by
 induction t with
 | pair a b l i =>
   intro off g k u o h e c;obtain⟨f,r,rfl,y,z,m,n,p⟩:=h.cons;cases k with
   | zero =>
     simp only[uv,jr,sq] at e c;subst e c;exact⟨f,rfl,by omega,m,n⟩
   | succ k =>
     simp only[uv,jr] at e c;cases j:jr b k with
     | none=>rw[j] at c;cases c
     | some A =>
       rw[j] at c;simp only[Ex,sq] at c;obtain⟨q,s,C,v,x⟩:=i p e j;exact⟨q,by simpa using s,by omega,v,x⟩
 | _=>intro off g k u o h e c;cases k<;>simp[uv] at e
end
def na.cells:na->List Value
 | .zl t=>eM t
 | .buf _ _=>[.slice none 0 0]
 | _=>[.pointer none]
def IQ:List na->List Value
 | []=>[]
 | f::r=>f.cells++IQ r
def ad4:List na->Nat
 | []=>0
 | f::r=>f.size+ad4 r
def M6(P:Program):Nat->List na->List Field->Bool
 | _,[],[]=>true
 | off,f::r,g::s=>Nat.beq g.offset off&&Nat.blt 0 f.size&&(match P.info? g.type with|some i=>Nat.beq i.size f.size|none=>false)&&M6 P (off+f.size) r s
 | _,_,_=>false
def IU(P:Program)(b:TypeId)(c:List na):Bool :=
 (match P.underlying b with|some (.struct gs)=>M6 P 0 c gs.toList|_=>false)&&Bx P b (ad4 c) (IQ c)
theorem Xr{P:Program}{b:TypeId}{c:List na}(h:IU P b c=true)(w:World):∃z,(zeroValue b).run P w=.ok z w/\z.cells.toList=IQ c:=by
 simp only[IU,dv] at h;obtain⟨i,z,e,j,f,g⟩:=jt h.2;exact⟨z,by simp[zeroValue,typeInfo,e,f],g⟩
theorem aad{P:Program}:∀{c:List na} {gs:List Field} {off k o:Nat},M6 P off c gs=true->xT c k=some o->∃f i,gs[k]?=some f/\f.offset=off+o/\P.info? f.type=some i/\0<i.size:=by
 intro c;induction c with
 | nil=>intro gs off k o h b;cases b
 | cons f r l =>
   intro gs off k o h b;cases gs with
   | nil=>cases h
   | cons g s =>
     simp only[M6,dv] at h;obtain⟨⟨⟨m,n⟩,e⟩,p⟩:=h;cases k with
     | zero =>
       obtain rfl:=aI b;split at e
       .rename_i i q;have t:=eT e;have u:0<f.size:=by simpa using n
        exact⟨g,i,rfl,by rw[eT m];rfl,q,by omega⟩
       .cases e
     | succ k =>
       simp only[xT] at b;split at b
       .rename_i A j;obtain rfl:=aI b;obtain⟨v,i,x,C,y,z⟩:=l p j;exact⟨v,i,x,by omega,y,z⟩
       .cases b
theorem acr{P:Program}{b:TypeId}{e:List na}{k o:Nat}(h:IU P b e=true)(g:xT e k=some o):∃(gs:Array Field) (f:Field) (i:TypeInfo),P.underlying b=some (.struct gs)/\gs.toList[k]?=some f/\f.offset=o/\P.info? f.type=some i/\0<i.size:=by
 simp only[IU,dv] at h;obtain⟨c,_⟩:=h;split at c
 .rename_i gs j;obtain⟨f,i,l,p,m,n⟩:=aad c g;exact⟨gs,f,i,j,l,by omega,m,n⟩
 .cases c
theorem C7{P:Program}:∀{b:List na} {gs:List Field} {off:Nat},M6 P off b gs=true->∃e:List (Nat×Nat),gs.mapM (λf=>(P.info? f.type).map λi=>(f.offset,i.size))=some e /\
  ∀k o f,xT b k=some o->b[k]?=some f->e[k]?=some (off+o,f.size):=by
 intro b;induction b with
 | nil =>
   intro gs off h;cases gs with
   | nil=>exact⟨[],rfl,λk o f _ n=>by cases n⟩
   | cons g s=>cases h
 | cons f r p =>
   intro gs off h;cases gs with
   | nil=>cases h
   | cons g s =>
     simp only[M6,dv] at h;obtain⟨⟨⟨t,A⟩,j⟩,u⟩:=h;obtain⟨e,v,x⟩:=p u;split at j
     .rename_i i y;refine⟨(g.offset,i.size)::e,by simp[y,v],λk o q c m=>?_⟩;cases k with
      | zero =>
        obtain rfl:=aI c;obtain rfl:=aI m;rw[Zw,eT t,eT j];rfl
      | succ k =>
        simp only[xT] at c;split at c
        .rename_i z l;obtain rfl:=aI c;have:=x k z q l (by simpa using m);rw[Qz,this,xP]
        .cases c
     .cases j
structure fo (P:Program) (cx:Ctx):Prop where
 T:∀tid t,find cx.T tid=some t->Den P t tid
 rh:∀tid,cP cx.rh tid=true->(∀w,(isAgg tid).run P w=.ok false w)/\(∀w,(Go.sizeOf tid).run P w=.ok 1 w)/\∃z,(∀w,(zeroValue tid).run P w=.ok z w)/\z.oneCell'=true
 lS:∀tid,cP cx.lS tid=true->∃e,P.underlying tid=some (.pointer e)
 fns:∀f fn,find cx.fns f=some fn->P.funcs[f]?=some fn
 sZ:∀tid fs,find cx.sZ tid=some fs->IU P tid fs=true
 Wd:∀tid e,find cx.Wd tid=some e->P.underlying tid=some (.slice e)
theorem iK{o:Option Ty}{t:Ty}(h:EA o t=true):o=some t:=by
 unfold EA at h;split at h
 .rw[Ty.eq_of_beq h]
 .cases h
theorem addr_add(b o n:Nat):Addr.add ⟨b,o,none⟩ n=⟨b,o+n,none⟩:=by
 unfold Addr.add;split<;>simp_all
def aU(l:List Value)(b:Nat)(c:List Value):List Value:=l.take b++c++l.drop (b+c.length)
theorem bM{l c:List Value}{b:Nat}(h:b+c.length<=l.length):(aU l b c).length=l.length:=by
 simp[aU];omega
theorem lT.same{cur b:Array Value}{c:Nat×Nat}(h:lT cur c)(e:b.size=cur.size):lT b c:=λo f=>h o (by omega)
section
variable {P:Program}
theorem ThB.same{e:Ty}{cur b:Array Value}{c:Nat×Nat}(h:ThB e cur c)(f:b.size=cur.size):ThB e b c:=⟨h.th.same f,λg=>by rw[f];exact h.um g⟩
theorem cM(g o:Nat)(t:TypeId)(f:Nat×Nat):∀(vs:List Value) (i:Nat) (cur:Array Value) (w:World),w.heap[g]?=some (.cells cur t f)->lT cur f ->
  o+i+vs.length<=cur.size->(∀v∈vs,v.oneCell'=true)->(storeCells ⟨g,o,none⟩ vs i).run P w=.ok () (w.setRow g (aU cur.toList (o+i) vs).toArray)
 | [],i,cur,w,h,_,_,_=>by
   simp only[storeCells,aU,xN,eB,wS,uu,Array.toArray_toList];rw[setRow_self w g cur t f h];rfl
 | v::rest,i,cur,w,h,j,l,n=>by
   have hi:o+i<cur.size:=by simp at l;omega
   have c:w.cell? ⟨g,o+i,none⟩=some cur[o+i]:=by simp[World.cell?,h,hi]
   have k:w.frozen? ⟨g,o+i,none⟩=false:=by
    have:=j (o+i) hi;simp only[World.frozen?,h];obtain⟨a,b⟩:=f;simp only[Bool.and_eq_false_iff,GS];simp only at this;omega
   have m:(store ((⟨g,o,none⟩:Addr).add i) v).run P w=.ok () (w.setRow g<|cur.setIfInBounds (o+i) v):=by
    rw[addr_add,run_store P w _ v _ (n v<|by simp),c];simp[k,setCell_eq_setRow w g (o+i) cur t f v h]
   have p:=cM g o t f rest (i+1) (cur.setIfInBounds (o+i) v) (w.setRow g<|cur.setIfInBounds (o+i) v) (setRow_heap w g cur _ t _ h) (j.same<|by simp) (by simp at l⊢;omega) (λx q=>n x (by simp[q]));simp only[storeCells,Sem.run_bind,m,Result.andThen_ok,p,setRow_setRow]
   congr 3
   have e:=list_seg_step cur.toList (o+i) v rest (by simp at l⊢;omega);simpa [aU,adQ,xP] using e
theorem cell_of_heap{w:World}{g:Nat}{cur:Array Value}{t:TypeId}{b:Nat×Nat}(c:w.heap[g]?=some (.cells cur t b))(j:Nat):w.cell? ⟨g,j,none⟩=cur[j]?:=by
 simp[World.cell?,c]
theorem Bg{w:World}{g b n:Nat}{c:Array Value}{t:TypeId}{f:Nat×Nat}(i:w.heap[g]?=some (.cells c t f))(h:b+n<=c.size) :
  (loadCells ⟨g,b,none⟩ n).run P w=.ok ((c.toList.drop b).take n).toArray w:=by
 have k:((c.toList.drop b).take n).length=n:=by simp;omega
 have:=run_loadCells_list (P:=P) w ⟨g,b,none⟩ ((c.toList.drop b).take n) (λj v e=>by
  rw[addr_add,cell_of_heap i];rw[fi] at e;split at e
  .rw[mn] at e;simpa using e
  .cases e)
 rwa [k] at this
theorem EJ{w:World}{I:Nat->Nat->Prop}{g b:Nat}{c:List Value}(h:C4 w I g b c):(loadCells ⟨g,b,none⟩ c.length).run P w=.ok c.toArray w :=
 run_loadCells_list (P:=P) w ⟨g,b,none⟩ c (λj v e=>by rw[addr_add];exact(h j v e).1)
end
theorem iI{a b:Nat}(h:a≠b):Nat.beq a b=false:=by
 cases c:Nat.beq a b
 .rfl
 .exact absurd (eT c) h
theorem aae(a:Act)(d t:Nat)(v:Value)(b:d<a.tmps.size):(a.put (some d) v).tmps.getD t undef=if t=d then v else a.tmps.getD t undef:=by
 simp only[Act.put,TO,Zq];by_cases h:d=t
 .subst h;simp[b]
 .rw[aM h,aM λe=>h e.symm]
theorem Q9(a:Act)(d:Option Nat)(v:Value):(a.put d v).tmps.size=a.tmps.size:=by cases d<;>simp[Act.put]
theorem put_defers(a:Act)(d:Option Nat)(v:Value):(a.put d v).defers=a.defers:=by cases d<;>rfl
section
variable {B:qK} {N:Nat} {γ bQ:Gh} {σ:St} {a:Act} {w w':World} {dL:Nat->Option bF}
theorem cW.step(h:cW B N γ σ a w)(b:Ext B γ σ.mem w bQ dL w')(c:bB B bQ dL w'){d:Nat}(f:d<N){v:aO}{val:Value}(g:cl bQ dL w' v .val [val]) :
  cW B N bQ ({ slots:=σ.slots,mem:=dL:St }.put d v) (a.put (some d) val) w' where
 slots:=λt=>by
  rw[aae a d t val<|by rw[h.size];exact f];simp only[St.put];by_cases e:t=d
  .subst e;simpa using g
  .rw[aM e,iI e];exact(h.slots t).ext b
 size:=by rw[Q9];exact h.size
 defers:=by rw[put_defers];exact h.defers
 ok:=c
theorem cW.go(h:cW B N γ σ a w)(b:Ext B γ σ.mem w bQ dL w')(c:bB B bQ dL w'):cW B N bQ { slots:=σ.slots,mem:=dL } a w' where
 slots:=λt=>(h.slots t).ext b
 size:=h.size
 defers:=h.defers
 ok:=c
theorem cW.ba(h:cW B N γ σ a w)(b:Ext B γ σ.mem w bQ dL w')(c:bB B bQ dL w'){d:Option Nat}(e:∀k,d=some k->k<N){v:aO}{val:Value}(f:cl bQ dL w' v .val [val]) :
  cW B N bQ ({ slots:=σ.slots,mem:=dL:St }.ba d v) (a.put d val) w':=by
 cases d with
 | none=>exact h.go b c
 | some d=>exact h.step b c (e d rfl) f
theorem cW.uE(h:cW B N γ σ a w){d:Option Nat}(b:∀k,d=some k->k<N){v:aO}{val:Value}(c:cl γ σ.mem w v .val [val]) :
 cW B N γ (σ.ba d v) (a.put d val) w:=h.ba (Ext.refl _ _ _ _) h.ok b c
end
theorem dQ{γ:Gh}{b:Nat->Option bF}{w:World}{t:Ty}{x:t.den}{v:Value}:cl γ b w (.data t x) .val [v]↔∃cs,bI w γ.I t x cs/\v=bZ t cs:=by
 simp only[cl,MX,and_true]
theorem Xs(f:Gh)(e:Nat->Option bF)(w:World)(v:Value):cl f e w (IC v) .val [v]:=by
 unfold IC;split
 .rename_i k n;cases c:(decide (k.min<=n)&&decide (n<=k.max))
  .exact⟨_,rfl⟩
  .simp only[dv,kQ] at c;exact⟨[.int k n],⟨rfl,c.1,c.2⟩,rfl⟩
 .rename_i b;exact⟨[.bool b],rfl,rfl⟩
 .rename_i s;cases c:Nat.ble s.data.toList.length 4294967296
  .exact⟨_,rfl⟩
  .refine⟨[.string s],⟨?_,?_⟩,rfl⟩
   .obtain⟨⟨l⟩⟩:=s;rfl
   .have:=GV c;simp only[maxLen];omega
 .rfl
 .rfl
 .rfl
 .exact⟨_,rfl⟩
theorem cW.cD{B:qK}{N:Nat}{e:Gh}{c:St}{a:Act}{w:World}(h:cW B N e c a w)(x:Operand):cl e c.mem w (cD c x) .val [a.eval x]:=by
 cases x with
 | tmp t=>exact h.slots t
 | const v=>exact Xs _ _ _ v
 | global g=>exact⟨_,rfl⟩
 | func f=>exact⟨#[],rfl,rfl,λi b aP j=>by simp at j⟩
theorem cl.kD{K:Gh}{F:Nat->Option bF}{w:World}{v:aO}{x:Value}(h:cl K F w v .val [x])(O:∀u,v≠.yP u)(L:v=.undef->x.oneCell'=true):cl K F w v .cells x.cells.toList:=by
 cases v with
 | undef=>exact⟨x,by cases x<;>first|rfl|(have:=L rfl;simp[Value.oneCell'] at this),L rfl⟩
 | data t y=>obtain⟨cs,g,i⟩:=dQ.1 h;subst i;show bI _ _ _ _ _;rw[rM g];exact g
 | oa=>obtain rfl:x=_:=by simpa [cl] using h
       rfl
 | rf=>obtain rfl:x=_:=by simpa [cl] using h
       rfl
 | ss=>obtain rfl:x=_:=by simpa [cl] using h
       rfl
 | vu b aP=>obtain⟨⟨v,g,i⟩,o⟩:=h;simp at g;subst g;refine⟨⟨x,?_,i⟩,?_⟩
            .cases x<;>first|rfl|(simp[Value.oneCell'] at i)
            .obtain⟨bx,s,z,A⟩:=o;exact⟨bx,s,z,λe=>by
              obtain⟨m,j,C,l⟩:=A e;refine⟨m,j,C,?_⟩;rcases l with l|l
              .simp at l;subst l;exact .inl rfl
              .simp at l;subst l;exact .inr rfl⟩
 | cell t y=>obtain⟨m,H,cs,g,i,o⟩:=h;simp at g;subst g;exact⟨m,H,cs,rfl,i,o⟩
 | ptr b aP p=>obtain⟨⟨v,g,i⟩,o⟩:=h;simp at g;subst g;refine⟨⟨x,?_,i⟩,?_⟩
               .cases x<;>first|rfl|(simp[Value.oneCell'] at i)
               .obtain⟨bx,s,z,A⟩:=o;exact⟨bx,s,z,λe=>by obtain⟨m,j,C,l⟩:=A e;simp at l;subst l;exact⟨m,j,C,rfl⟩⟩
 | whole b aP=>obtain⟨⟨v,g,i⟩,o⟩:=h;simp at g;subst g;refine⟨⟨x,?_,i⟩,?_⟩
               .cases x<;>first|rfl|(simp[Value.oneCell'] at i)
               .obtain⟨bx,s,z,A⟩:=o;exact⟨bx,s,z,λe=>by
                 obtain⟨u,n,C,l,D⟩:=A e;refine⟨u,n,C,l,?_⟩;rcases D with ⟨D,E⟩|⟨m,j,D,E⟩
                 .simp at E;subst E;exact .inl ⟨D,rfl⟩
                 .simp at E;subst E;exact .inr ⟨m,j,D,rfl⟩⟩
 | part b aP lo n=>obtain⟨⟨v,g,i⟩,o⟩:=h;simp at g;subst g;refine⟨⟨x,?_,i⟩,?_⟩
                   .cases x<;>first|rfl|(simp[Value.oneCell'] at i)
                   .obtain⟨bx,s,z,A⟩:=o;exact⟨bx,s,z,λe=>by
                     obtain⟨u,k,C,l,D,E,r,j,G,I⟩:=A e;simp at G;subst G;exact⟨u,k,C,l,D,E,r,j,rfl,I⟩⟩
 | win b aP q e k lo n=>obtain⟨⟨v,g,i⟩,o⟩:=h;simp at g;subst g;refine⟨⟨x,?_,i⟩,?_⟩
                        .cases x<;>first|rfl|(simp[Value.oneCell'] at i)
                        .obtain⟨bx,s,z,A⟩:=o;exact⟨bx,s,z,λe=>by
                          obtain⟨Q,u,c,C,l,D,E,r,j,G,I⟩:=A e;simp at G;subst G;exact⟨Q,u,c,C,l,D,E,r,j,rfl,I⟩⟩
 | fn f M=>obtain⟨J,g,i⟩:=h;simp at g;subst g;exact⟨J,rfl,i⟩
 | mix p q=>obtain⟨R,S,g,i,o⟩:=h;simp at g;subst g;exact⟨R,S,by simp[Value.cells],i,o⟩
 | yP u=>exact absurd rfl (O u)
 | nl=>exact h.elim
theorem cl.length{γ:Gh}{mem:Nat->Option bF}{w:World}:∀{v:aO} {cs:List Value},cl γ mem w v .cells cs->cs.length=cV v:=by
 intro v;induction v with
 | data t x=>intro cs h;exact bI.length h
 | mix a b c g=>intro cs h;obtain⟨m,o,rfl,j,l⟩:=h;rw[fQ,c j,g l];rfl
 | undef=>intro cs h;obtain⟨v,rfl,_⟩:=h;rfl
 | oa=>intro cs h;rw[show cs=_ from h];rfl
 | rf=>intro cs h;rw[show cs=_ from h];rfl
 | ss=>intro cs h;rw[show cs=_ from h];rfl
 | vu b aP=>intro cs h;obtain⟨⟨_,rfl,_⟩,_⟩:=h;rfl
 | cell t x=>intro cs h;obtain⟨_,_,_,rfl,_⟩:=h;rfl
 | ptr b aP p=>intro cs h;obtain⟨⟨_,rfl,_⟩,_⟩:=h;rfl
 | whole b aP=>intro cs h;obtain⟨⟨_,rfl,_⟩,_⟩:=h;rfl
 | part b aP lo n=>intro cs h;obtain⟨⟨_,rfl,_⟩,_⟩:=h;rfl
 | win b aP q e k lo n=>intro cs h;obtain⟨⟨_,rfl,_⟩,_⟩:=h;rfl
 | fn f i=>intro cs h;obtain⟨_,rfl,_⟩:=h;rfl
 | yP u r=>intro cs h;exact h.elim
 | nl=>intro cs h;exact h.elim
theorem cl.one{r:Gh}{j:Nat->Option bF}{w:World}:∀{v:aO} {cs:List Value},cl r j w v .cells cs->∀c∈cs,c.oneCell'=true:=by
 intro v;induction v with
 | data t x=>intro cs h;exact bI.one h
 | mix a b l m =>
   intro cs h c g;obtain⟨y,z,rfl,i,s⟩:=h;rcases pO.1 g with g|g
   .exact l i c g
   .exact m s c g
 | undef=>intro cs h c g;obtain⟨v,rfl,i⟩:=h;simp at g;subst g;exact i
 | oa=>intro cs h c g;rw[show cs=_ from h] at g;simp at g;subst g;rfl
 | rf=>intro cs h c g;rw[show cs=_ from h] at g;simp at g;subst g;rfl
 | ss=>intro cs h c g;rw[show cs=_ from h] at g;simp at g;subst g;rfl
 | vu b aP=>intro cs h c g;obtain⟨⟨_,rfl,i⟩,_⟩:=h;simp at g;subst g;exact i
 | cell t x=>intro cs h c g;obtain⟨_,_,_,rfl,_⟩:=h;simp at g;subst g;rfl
 | ptr b aP p=>intro cs h c g;obtain⟨⟨_,rfl,i⟩,_⟩:=h;simp at g;subst g;exact i
 | whole b aP=>intro cs h c g;obtain⟨⟨_,rfl,i⟩,_⟩:=h;simp at g;subst g;exact i
 | part b aP lo n=>intro cs h c g;obtain⟨⟨_,rfl,i⟩,_⟩:=h;simp at g;subst g;exact i
 | win b aP q e k lo n=>intro cs h c g;obtain⟨⟨_,rfl,i⟩,_⟩:=h;simp at g;subst g;exact i
 | fn f o=>intro cs h c g;obtain⟨_,rfl,_⟩:=h;simp at g;subst g;rfl
 | yP u A=>intro cs h;exact h.elim
 | nl=>intro cs h;exact h.elim
theorem sv{α:Type}{l:List α}{i:Int}{x:α}(h:idx l i=some x):0<=i/\l[i.toNat]?=some x:=by
 unfold idx at h;split at h
 .rename_i b;exact⟨b,h⟩
 .cases h
theorem Cd{w:World}{I:Nat->Nat->Prop}:∀{t:Ty} {x:t.den} {cs:List Value} {k o:Nat} {u:aO},bI w I t x cs->pc t x k=some (o,u) ->
  ∃(e:Ty) (y:e.den),u=.data e y/\uv t k=some e/\jr t k=some o/\o+e.size<=cs.length/\bI w I e y ((cs.drop o).take e.size):=by
 intro t;induction t with
 | pair a b j g =>
   intro x cs k o u h c;obtain⟨s,v,rfl,f,l⟩:=h;cases k with
   | zero =>
     simp only[pc,sq,CP] at c;obtain⟨rfl,rfl⟩:=c;refine⟨a,x.1,rfl,rfl,rfl,by rw[fQ,f.length];omega,?_⟩;rw[wR,<-f.length,Iy];exact f
   | succ k =>
     simp only[pc] at c;cases i:pc b x.2 k with
     | none=>rw[i] at c;cases c
     | some r =>
       rw[i] at c;simp only[sq,CP] at c;obtain⟨rfl,rfl⟩:=c;obtain⟨e,y,m,n,p,z,q⟩:=g l (show pc b x.2 k=some (r.1,r.2) from i);refine⟨e,y,m,n,by simp[jr,p],by rw[fQ,f.length];omega,?_⟩;rw[<-f.length,<-vm,Bf];exact q
 | _=>intro x cs k o u h c;cases k<;>simp[pc] at c
theorem EK{l:Gh}{f:Nat->Option bF}{w:World}:∀{v:aO} {cs:List Value} {k o:Nat} {u:aO},cl l f w v .cells cs->mv v k=some (o,u) ->
  o+cV u<=cs.length/\cl l f w u .cells ((cs.drop o).take<|cV u):=by
 intro v;induction v with
 | data t x =>
   intro cs k o u h c;obtain⟨p,y,rfl,_,_,e,g⟩:=Cd (w:=w) h c;exact⟨e,g⟩
 | mix a b m i =>
   intro cs k o u h c;obtain⟨q,s,rfl,e,g⟩:=h;cases k with
   | zero =>
     simp only[mv,sq,CP] at c;obtain⟨rfl,rfl⟩:=c;refine⟨by rw[fQ,e.length];omega,?_⟩;rw[wR,<-e.length,Iy];exact e
   | succ k =>
     simp only[mv] at c;cases j:mv b k with
     | none=>rw[j] at c;cases c
     | some r =>
       rw[j] at c;simp only[sq,CP] at c;obtain⟨rfl,rfl⟩:=c;obtain⟨z,n⟩:=i g (show mv b k=some (r.1,r.2) from j);refine⟨by rw[fQ,e.length];omega,?_⟩;rw[<-e.length,<-vm,Bf];exact n
 | _=>intro cs k o u h c;cases k<;>simp[mv] at c
theorem HT{c:Gh}{b:Nat->Option bF}{w:World}{t:Ty}{v:aO}{z:t.den}{f:List Value}(h:toS t v=some z)(g:cl c b w v .cells f):bI w c.I t z f:=by
 cases v with
 | data u y =>
   obtain⟨e,i⟩:=Ty.kz (show Ty.to u t y=some z from h);subst e;subst i;exact g
 | _=>cases h
theorem bind_some{α b:Type}{t:Tree α}{f:α->Tree b}{y:b}(h:(t.bind f).run=some y):∃x,t.run=some x/\(f x).run=some y:=by
 rw[Tree.run_bind] at h;exact Bc.1 h
theorem b4{T α:Type}{o:Option T}{k:T->Tree α}{y:α}(h:(Tree.look o k).run=some y):∃x,o=some x/\(k x).run=some y:=by
 cases o with
 | none=>cases h
 | some x=>exact⟨x,rfl,h⟩
theorem cv{α:Type}{c:Bool}{t:Tree α}{y:α}(h:(Tree.need c t).run=some y):c=true/\t.run=some y:=by
 cases c with
 | false=>cases h
 | true=>exact⟨rfl,h⟩
theorem aC{α:Type}{c:Bool}{t:Tree α}{y:α}(h:(bif c then t else .fail).run=some y):c=true/\t.run=some y:=by
 cases c with
 | false=>cases h
 | true=>exact⟨rfl,h⟩
theorem fT{b:Type}{c:Bool}{t e:Tree b}{y:b}(h:(Tree.node c t e).run=some y):(bif c then t else e).run=some y:=by
 cases c<;>exact h
section
variable {γ:Gh} {mem:Nat->Option bF} {w:World}
theorem Ra:∀{t:Ty} {x:t.den} {cs:List Value} {k o:Nat} {u:aO} {y:t.den} {f:aO->Tree aO} {es:List Value},
  bI w γ.I t x cs->pc t x k=some (o,u)->(∀v,(f u).run=some v->cl γ mem w v .cells es)->(HJ t x k f).run=some y->es.length=cV u ->
  bI w γ.I t y (aU cs o es):=by
 intro t;induction t with
 | pair a b A i =>
   intro x cs k o u y f es h c n e j;obtain⟨p,q,rfl,l,s⟩:=h;cases k with
   | zero =>
     simp only[pc,sq,CP] at c;obtain⟨rfl,rfl⟩:=c;obtain⟨v,m,e⟩:=bind_some e;have C:=n v m;cases hv:toS a v with
     | none=>rw[hv] at e;cases e
     | some z =>
       rw[hv] at e;obtain rfl:=aI e;simp only[cV] at j;refine⟨es,q,?_,HT hv C,s⟩;simp only[aU,MY,sW,sr];rw[show es.length=p.length by rw[j,l.length],Bf]
   | succ k =>
     simp only[pc] at c;cases g:pc b x.2 k with
     | none=>rw[g] at c;cases c
     | some r =>
       rw[g] at c;simp only[sq,CP] at c;obtain⟨rfl,rfl⟩:=c;obtain⟨z,D,e⟩:=bind_some e;obtain rfl:=aI e;have:=i s (show pc b x.2 k=some (r.1,r.2) from g) n D j;refine⟨p,aU q r.1 es,?_,l,this⟩;simp only[aU,<-l.length,VX,kR]
       congr 1;congr 1;congr 1
       rw[xP,<-vm,Bf]
 | _=>intro x cs k o u y f es h c;cases k<;>simp[pc] at c
theorem IV:∀{j:aO} {cs:List Value} {k o:Nat} {u c:aO} {f:aO->Tree aO} {es:List Value},
  cl γ mem w j .cells cs->mv j k=some (o,u)->(∀v,(f u).run=some v->cl γ mem w v .cells es)->(Ez j k f).run=some c->es.length=cV u ->
  cl γ mem w c .cells (aU cs o es):=by
 intro j;induction j with
 | data t x =>
   intro cs k o u c f es h e l g m;obtain⟨y,D,g⟩:=bind_some g;obtain rfl:=aI g;exact Ra h e l D m
 | mix a b E n =>
   intro cs k o u c f es h e l g m;obtain⟨s,A,rfl,p,C⟩:=h;cases k with
   | zero =>
     simp only[mv,sq,CP] at e;obtain⟨rfl,rfl⟩:=e;obtain⟨v,q,g⟩:=bind_some g;have F:=l v q;obtain rfl:=aI g;refine⟨es,A,?_,F,C⟩;simp only[aU,MY,sW,sr];rw[show es.length=s.length by rw[m,p.length],Bf]
   | succ k =>
     simp only[mv] at e;cases i:mv b k with
     | none=>rw[i] at e;cases e
     | some r =>
       rw[i] at e;simp only[sq,CP] at e;obtain⟨rfl,rfl⟩:=e;obtain⟨z,G,g⟩:=bind_some g;obtain rfl:=aI g;have:=n C (show mv b k=some (r.1,r.2) from i) l G m;refine⟨s,aU A r.1 es,?_,p,this⟩;simp only[aU,<-p.length,VX,kR]
       congr 1;congr 1;congr 1
       rw[xP,<-vm,Bf]
 | _=>intro cs k o u c f es h e;cases k<;>simp[mv] at e
theorem vw:∀{p:List B9} {v u:aO} {cs:List Value},cl γ mem w v .cells cs->(Xl p v).run=some u->cG p+cV u<=cs.length/\cl γ mem w u .cells ((cs.drop<|cG p).take<|cV u):=by
 intro p;induction p with
 | nil =>
   intro v u cs h b;obtain rfl:=aI b;have f:=h.length;refine⟨by simp[cG];omega,?_⟩;rw[show cG []=0 from rfl,wR,<-f,wQ];exact h
 | cons s p A =>
   intro v u cs h b;cases s with
   | fJ k off =>
     simp only[Xl] at b;cases o:mv v k with
     | none=>rw[o] at b;cases b
     | some r =>
       rw[o] at b;obtain⟨q,c⟩:=aC b;have g:=eT q;obtain⟨H,C⟩:=EK h (show mv v k=some (r.1,r.2) from o);obtain⟨t,j⟩:=A C c;have f:=C.length;simp only[cG,<-g];rw[f] at t;refine⟨by omega,?_⟩;rw[V6,Bs,vm,pb (by omega)] at j;exact j
   | idx i size =>
     simp only[Xl] at b;split at b
     .rename_i n e l;obtain⟨q,c⟩:=aC b;have y:=eT q;obtain⟨x,E,z⟩:=b4 c;obtain⟨I,m⟩:=sv E;obtain⟨J,K,F⟩:=h;have D:=F _ x m;obtain⟨t,j⟩:=A (v:=.data e x) (show cl γ mem w (.data e x) .cells _ from D) z;have f:=D.length;have hi:i.toNat<n:=by have:=(fq.1 m).1;omega
      have G:(i.toNat+1)*e.size<=n*e.size:=fO _ hi;rw[zm] at G;rw[f] at t;simp only[cG,y];refine⟨by omega,?_⟩;rw[V6,Bs,vm,pb (by omega)] at j;exact j
     .cases b
theorem rN(cs:List Value)(a b:Nat)(n:Nat)(c:List Value)(h:b+c.length<=n)(i:a+n<=cs.length) :
  aU cs a (aU ((cs.drop a).take n) b c)=aU cs (a+b) c:=by
 have f:((cs.drop a).take n).length=n:=by simp;omega
 have e:(aU ((cs.drop a).take n) b c).length=n:=by rw[bM<|by omega,f]
 have g:aU cs a (aU ((cs.drop a).take n) b c)=cs.take a++aU ((cs.drop a).take n) b c++cs.drop (a+n):=by
  rw[aU,e]
 rw[g];simp only[aU,kR];rw[Bs,pb (by omega),<-kR,<-List.take_add]
 congr 1;congr 1
 have:cs.drop (a+n)=(cs.drop a).drop n:=by rw[vm]
 rw[this,<-MQ (by rw[f];exact h),uu,vm,xP]
theorem IW{I:Nat->Nat->Prop}{e:Ty}{n:Nat}{l:List e.den}{cs f:List Value}{i:Nat}{y:e.den}(u:l.length=n)(v:n*e.size<=cs.length)
  (h:∀(j:Nat) (x:e.den),l[j]?=some x->bI w I e x ((cs.drop<|j*e.size).take e.size)) (r:i<n) (o:bI w I e y f) :
  ∀(j:Nat) (x:e.den),(l.set i y)[j]?=some x->bI w I e x (((aU cs (i*e.size) f).drop<|j*e.size).take e.size):=by
 intro j x c;have k:=o.length;have s:(i+1)*e.size<=n*e.size:=fO _ r;rw[zm] at s;have b:(cs.take<|i*e.size).length=i*e.size:=by rw[fB];omega
 rw[V4] at c;split at c
 .rename_i g;subst g;split at c
  .obtain rfl:=aI c;have:((aU cs (i*e.size) f).drop<|i*e.size).take e.size=f:=by
    rw[aU,kR]
    conv=>lhs;arg 2;arg 1;rw[<-b]
    rw[b,F0 b,<-k,Iy]
   rw[this];exact o
  .cases c
 .rename_i g;have t:j<n:=by have:=(fq.1 c).1;omega
  have m:(j+1)*e.size<=n*e.size:=fO _ t;rw[zm] at m;have key:((aU cs (i*e.size) f).drop<|j*e.size).take e.size=(cs.drop<|j*e.size).take e.size:=by
   apply Bq;intro q;rw[fi,fi];split
   .rename_i z;rw[mn,mn,aU];rcases sY j i with p|p
    .have:(j+1)*e.size<=i*e.size:=fO _ p;rw[zm] at this;rw[kR,Ol (by omega),fi,aQ (by omega)]
    .have:(i+1)*e.size<=j*e.size:=fO _ (by omega);rw[zm] at this;rw[Ij<|by rw[fQ];omega,mn,fQ,b]
     congr 1;omega
   .rfl
  rw[key];exact h j x c
theorem xY:∀{p:List B9} {v G u c:aO} {cs es:List Value},cl γ mem w v .cells cs->(Xl p v).run=some G->(wg p v u).run=some c->cl γ mem w u .cells es->es.length=cV G ->
  cl γ mem w c .cells (aU cs (cG p) es):=by
 intro p;induction p with
 | nil =>
   intro v G u c cs es h b q H t;obtain rfl:=aI b;obtain rfl:=aI q;have:=h.length;simp only[cG,aU,MY,sW,sr];rw[GU<|by omega,xN];exact H
 | cons s p T =>
   intro v G u c cs es h b q H t;cases s with
   | fJ k off =>
     simp only[Xl] at b;cases I:mv v k with
     | none=>rw[I] at b;cases b
     | some r =>
       rw[I] at b;obtain⟨J,g⟩:=aC b;have A:=eT J;obtain⟨Y,K⟩:=EK h (show mv v k=some (r.1,r.2) from I);obtain⟨C,Z⟩:=vw K g;have m:=K.length;rw[m] at C;have:=IV (f:=λw=>wg p w u) h (show mv v k=some (r.1,r.2) from I) (λz L=>T (u:=u) K g L H t) q (by rw[bM<|by rw[m,t];exact C,m]);rw[rN cs r.1 (cG p) (cV r.2) es (by omega) Y,A] at this;exact this
   | idx i size =>
     simp only[Xl] at b;split at b
     .rename_i n e l;obtain⟨J,g⟩:=aC b;have M:=eT J;obtain⟨x,U,D⟩:=b4 g;simp only[wg] at q;obtain⟨x',O,Q⟩:=b4 q;obtain rfl:x=x':=aI (U.symm.trans O);obtain⟨z,L,j⟩:=bind_some Q;cases R:toS e z with
      | none=>rw[R] at j;cases j
      | some y =>
        rw[R] at j;obtain rfl:=aI j;obtain⟨h0,E⟩:=sv U;obtain⟨V,k2,W⟩:=h;have X:=W _ x E;have hi:i.toNat<n:=by have:=(fq.1 E).1;omega
        have hm:(i.toNat+1)*e.size<=n*e.size:=fO _ hi;rw[zm] at hm;have F:cl γ mem w (.data e x) .cells ((cs.drop<|i.toNat*e.size).take e.size):=X;obtain⟨C,Z⟩:=vw F D;have o:=X.length;rw[o] at C;have S:=HT R (T F D L H t);have hsl:(aU ((cs.drop<|i.toNat*e.size).take e.size) (cG p) es).length=e.size:=by rw[bM<|by rw[o,t];exact C,o]
        have e1:=rN cs (i.toNat*e.size) (cG p) e.size es (by omega) (by omega);simp only[cG,M];rw[<-e1];refine⟨?_,?_,?_⟩
        .exact(@List.length_set _ (l:List e.den) _ _).trans V
        .rw[bM<|by omega];exact k2
        .exact IW V (by omega) W hi S
     .cases b
end
open RowKit
section
variable {B:qK} {γ bQ:Gh} {mem dL:Nat->Option bF} {w w':World}
theorem cE.keep{c:Nat}{bx:bF}(h:cE γ mem w c bx)(p:Ext B γ mem w bQ dL w')(q:bQ.loc c=γ.loc c)
  (u:∀b k,γ.loc c=some (b,k)->w'.heap[b]?=w.heap[b]?):cE bQ dL w' c bx:=by
 unfold cE at h⊢;cases g:bx.buf with
 | true =>
   rw[g] at h;obtain⟨e,l,v,y,f⟩:=h;refine⟨e,l,v,y,?_⟩;rcases f with ⟨f,n⟩|⟨b,j,m,tid,r,f,n,s,o,t,z,A,C⟩
   .exact .inl ⟨q.trans f,n⟩
   .exact .inr ⟨b,j,m,tid,r,q.trans f,(u _ _ f).trans n,s,o,t,z,A,λi x D=>bI.mono p.I p.cells (C i x D)⟩
 | false =>
   rw[g] at h;obtain⟨b,j,m,tid,r,f,n,s,E,t⟩:=h;exact⟨b,j,m,tid,r,q.trans f,(u _ _ f).trans n,s,E,t.ext p⟩
theorem di{a:Addr}(h:w'.heap[a.block]?=w.heap[a.block]?):w'.cell? a=w.cell? a:=by simp[World.cell?,h]
def bK(c:Gh)(b:Nat)(L:Option (Nat×Nat)):Gh:={ c with loc:=λi=>if i=b then L else c.loc i }
def cH(c:Nat->Option bF)(b:Nat)(bx:bF):Nat->Option bF:=λi=>bif Nat.beq i b then some bx else c i
theorem bw(b:Nat)(bx:bF):cH mem b bx b=some bx:=by simp[cH]
theorem aV{b c:Nat}(bx:bF)(h:c≠b):cH mem b bx c=mem c:=by simp[cH,iI h]
theorem tI(h:bB B γ mem w){b:Nat}{bx:bF}{L:Option (Nat×Nat)}(f:∀g,mem b=some g->g.aP<bx.aP)
  (m:uD B w w') (i:∀k,k<w.heap.size->w'.heap[k]?=w.heap[k]?):Ext B γ mem w (bK γ b L) (cH mem b bx) w' where
 below:=m
 I:=λ_ _ x=>x
 pZ:=λ_ _ x=>.inl x
 cells:=λj o x=>di (i j<|h.tu j o x)
 boxes:=λc cx l=>by
  by_cases e:c=b
  .subst e;refine⟨bx,bw _ _,ZW (f _ l),λe=>absurd e ?_⟩;have:=f _ l;omega
  .exact⟨cx,by rw[aV _ e];exact l,cg _,λ_=>⟨by simp[bK,e],rfl,rfl⟩⟩
theorem bB.add(h:bB B γ mem w){b:Nat}{bx:bF}{L:Option (Nat×Nat)}(m:∀p,mem b=some p->p.aP<bx.aP)
  (q:uD B w w') (j:∀k,k<w.heap.size->w'.heap[k]?=w.heap[k]?) (r:∀f k,L=some (f,k)->w.heap.size<=f/\f<w'.heap.size)
  (u:cE (bK γ b L) (cH mem b bx) w' b bx):bB B (bK γ b L) (cH mem b bx) w' where
 cU:=h.C5 (tI (L:=L) h m q j)
 base:=gj h.base q.size
 boxes:=λc cx g=>by
  by_cases e:c=b
  .subst e;rw[bw] at g;obtain rfl:=aI g;exact u
  .rw[aV _ e] at g;refine(h.boxes c cx g).keep (tI h m q j) (by simp[bK,e]) λf k x=>j f (h.fresh c f k (by rw[g];simp) x).2
 inj:=λc d f k v g s i n=>by
  by_cases e:c=b
  .by_cases o:d=b
   .rw[e,o]
   .exfalso;simp only[bK,aQ e] at i;simp only[bK,aM o] at n;rw[aV _ o] at s;have:=(h.fresh d f v s n).2;have:=(r _ _ i).1;omega
  .by_cases o:d=b
   .exfalso;simp only[bK,aM e] at i;simp only[bK,aQ o] at n;rw[aV _ e] at g;have:=(h.fresh c f k g i).2;have:=(r _ _ n).1;omega
   .simp only[bK,aM e] at i;simp only[bK,aM o] at n;rw[aV _ e] at g;rw[aV _ o] at s;exact h.inj c d f k v g s i n
 fresh:=λc f k g i=>by
  by_cases e:c=b
  .simp only[bK,aQ e] at i;obtain⟨n,y⟩:=r _ _ i;exact⟨.inl (by have:=h.base;omega),y⟩
  .simp only[bK,aM e] at i;rw[aV _ e] at g;have:=h.fresh c f k g i;exact⟨this.1,B6 this.2 q.size⟩
 tu:=λf l t=>B6 (h.tu f l t) q.size
 sep:=λc cx f k l g i t=>by
  by_cases e:c=b
  .exfalso;simp only[bK,aQ e] at i;have:=(r _ _ i).1;have:=h.tu f l t;omega
  .simp only[bK,aM e] at i;rw[aV _ e] at g;exact h.sep c cx f k l g i t
theorem cK(w:World)(o:Obj):∀k,k<w.heap.size->(w.alloc o).heap[k]?=w.heap[k]?:=λk b=>Below.heap_alloc w o k b
theorem sw(b:Array Value):lT b (0,0):=λo _ h=>by omega
theorem xc(e:Ty)(b:Array Value):ThB e b (0,0):=⟨sw b,λ_ h=>by omega⟩
theorem bB.newVar(h:bB B γ mem w){b:Nat}{v:aO}{tid:TypeId}{aP:Nat}(c:∀f,mem b=some f->f.aP<aP){cs:Array Value}(g:TypeId)(i:tid=0\/g=tid)(l:cl γ mem w v .cells cs.toList) :
  let bx:bF:={ val:=v,tid,buf:=false,ro:=false,lk:=false,aP }
  bB B (bK γ b<|some (w.heap.size,0)) (cH mem b bx) (w.alloc<|.cells cs g)/\Ext B γ mem w (bK γ b<|some (w.heap.size,0)) (cH mem b bx) (w.alloc<|.cells cs g):=by
 intro bx;have j:uD B w (w.alloc<|.cells cs g):=(uD.refl _ _).alloc h.base _;have hx:=tI (L:=some (w.heap.size,0)) h (bx:=bx) c j (cK w _);refine⟨h.add c j (cK w _) (λm k e=>by obtain⟨rfl,rfl⟩:=br (aI e);exact⟨cg _,by simp⟩) ?_,hx⟩;exact⟨w.heap.size,0,cs,g,(0,0),by simp[bK],heap_alloc_new w _,sw cs,i,l.ext hx⟩
theorem bB.aaf(h:bB B γ mem w){b:Nat}{e:Ty}{l:List e.den}{tid:TypeId}{aP f g:Nat}(j:∀o,mem b=some o->o.aP<aP){p:Array Value}{s:TypeId}{t:Nat×Nat}(A:0<e.size)
  (z:uD B w w') (m:∀k,k<w.heap.size->w'.heap[k]?=w.heap[k]?) (u:w.heap.size<=g) (n:w'.heap[g]?=some (.cells p s t)) (v:ThB e p t) (r:tid=0\/s=tid)
  (C:l.length<=f) (D:f<=maxLen) (E:p.size=f*e.size) (F:∀(i:Nat) (x:e.den),l[i]?=some x->bI w' γ.I e x ((p.toList.drop<|i*e.size).take e.size)) :
  let bx:bF:={ val:=.data (.slice e) l,tid,buf:=true,ro:=false,lk:=false,aP }
  bB B (bK γ b<|some (g,f)) (cH mem b bx) w'/\Ext B γ mem w (bK γ b<|some (g,f)) (cH mem b bx) w':=by
 intro bx;have y:g<w'.heap.size:=(vk.1 n).1;have hx:=tI (L:=some (g,f)) h (bx:=bx) j z m;refine⟨h.add j z m (λc k q=>by obtain⟨rfl,rfl⟩:=br (aI q);exact⟨u,y⟩) ?_,hx⟩;exact⟨e,l,rfl,A,.inr ⟨g,f,p,s,t,by simp[bK],n,v,r,C,D,E,F⟩⟩
theorem bB.Oz(h:bB B γ mem w){b:Nat}{e:Ty}{l:List e.den}{tid:TypeId}{aP cap:Nat}(f:∀g,mem b=some g->g.aP<aP){n:Array Value}{r:TypeId}{s:Nat×Nat}(t:0<e.size)
  (u:uD B w w') (c:∀k,k<w.heap.size->w'.heap[k]?=w.heap[k]?) (j:w'.heap[w.heap.size]?=some (.cells n r s)) (p:ThB e n s) (m:tid=0\/r=tid)
  (v:l.length<=cap) (y:cap<=maxLen) (z:n.size=cap*e.size) (A:∀(i:Nat) (x:e.den),l[i]?=some x->bI w γ.I e x ((n.toList.drop<|i*e.size).take e.size)) :
  let bx:bF:={ val:=.data (.slice e) l,tid,buf:=true,ro:=false,lk:=false,aP }
  bB B (bK γ b<|some (w.heap.size,cap)) (cH mem b bx) w'/\Ext B γ mem w (bK γ b<|some (w.heap.size,cap)) (cH mem b bx) w' :=
 h.aaf f t u c (cg _) j p m v y z λi x C =>
  bI.mono (λ_ _ q=>q) (λblk o q=>di (c blk<|h.tu blk o q)) (A i x C)
theorem bB.IX(h:bB B γ mem w){b:Nat}{e:Ty}{tid:TypeId}{aP:Nat}(c:∀f,mem b=some f->f.aP<aP)(g:0<e.size) :
  let bx:bF:={ val:=.data (.slice e) ([]:List e.den),tid,buf:=true,ro:=false,lk:=false,aP }
  bB B (bK γ b none) (cH mem b bx) w/\Ext B γ mem w (bK γ b none) (cH mem b bx) w:=by
 intro bx;have hx:=tI (L:=none) h (bx:=bx) c (uD.refl B w) (λ_ _=>rfl);refine⟨h.add c (uD.refl B w) (λ_ _=>rfl) (λi k e=>by cases e) ?_,hx⟩;exact⟨e,[],rfl,g,.inl ⟨by simp[bK],rfl⟩⟩
theorem C8{e:bF}{b:Nat}(h:TW e b)(c:e.ro=false):False:=by rw[TW,c] at h;exact absurd h.1 (by simp)
theorem bB.write(h:bB B γ mem w){b:Nat}{m:bF}(p:mem b=some m)(u:m.ro=false){g k:Nat}(y:γ.loc b=some (g,k)){r cur':Array Value}{t:TypeId}{D:Nat×Nat}
  (G:w.heap[g]?=some (.cells r t D)) (Q:cur'.size=r.size) {v:aO} (z:({ m with val:=v }:bF).row=m.row)
  (E:∀w' dL,Ext B γ mem w γ dL w'->w'.heap[g]?=some (.cells cur' t D)->cE γ dL w' b { m with val:=v }) :
  bB B γ (cH mem b { m with val:=v }) (w.setRow g cur')/\Ext B γ mem w γ (cH mem b { m with val:=v }) (w.setRow g cur'):=by
 have H:=h.fresh b g k (by rw[p];simp) y;have A:=setRow_heap w g r cur' t D G;have j:∀i,i≠g->(w.setRow g cur').heap[i]?=w.heap[i]?:=λi q=>setRow_other w g i cur' (λe=>q e);have hx:Ext B γ mem w γ (cH mem b { m with val:=v }) (w.setRow g cur') :=
  { below:=⟨rfl,rfl,rfl,by simp,λi q=>j i λe=>q (by rw[e];exact H.1)⟩
    I:=λ_ _ x=>x
    pZ:=λ_ _ x=>.inl x
    cells:=λc o x=>by
     by_cases e:c=g
     .subst e;exact(C8 (h.sep b m c k o p y x) u).elim
     .exact di (j c e)
    boxes:=λc cx l=>by
     by_cases e:c=b
     .subst e;obtain rfl:cx=m:=aI (l.symm.trans p);exact⟨_,bw _ _,cg _,λ_=>⟨rfl,rfl,z⟩⟩
     .exact⟨cx,by rw[aV _ e];exact l,cg _,λ_=>⟨rfl,rfl,rfl⟩⟩ }
 refine⟨?_,hx⟩;exact
  { cU:=h.C5 hx
    base:=by have:=h.base;simpa using this
    boxes:=λc cx l=>by
     by_cases e:c=b
     .subst e;rw[bw] at l;obtain rfl:=aI l;exact E _ _ hx A
     .rw[aV _ e] at l;refine(h.boxes c cx l).keep hx rfl λf C F=>j f λJ=>e ?_;subst J;exact h.inj c b f C k (by rw[l];simp) (by rw[p];simp) F y
    inj:=λc d f K L l M s O=>h.inj c d f K L (by
     by_cases e:c=b
     .subst e;rw[p];simp
     .rwa [aV _ e] at l) (by
     by_cases e:d=b
     .subst e;rw[p];simp
     .rwa [aV _ e] at M) s O
    fresh:=λc f C l s=>by
     have:=h.fresh c f C (by
      by_cases e:c=b
      .subst e;rw[p];simp
      .rwa [aV _ e] at l) s
     exact⟨this.1,by simpa using this.2⟩
    tu:=λf n q=>by have:=h.tu f n q;simpa using this
    sep:=λc cx f C n l s q=>by
     by_cases e:c=b
     .subst e;rw[y] at s;obtain⟨rfl,rfl⟩:=br (aI s);exact(C8 (h.sep c m g k n p y q) u).elim
     .rw[aV _ e] at l;exact h.sep c cx f C n l s q }
def IY(f:Gh)(b:Nat)(n:Nat):Gh:={ f with I:=λc e=>f.I c e\/((∃k,f.loc b=some (c,k))/\e<n) }
theorem bB.freeze(h:bB B γ mem w){b:Nat}{j:bF}(l:mem b=some j){e:Ty}{n:Nat}(r:j.row=some (e,n)) :
  bB B (IY γ b<|n*e.size) (cH mem b { j with ro:=true }) w/\Ext B γ mem w (IY γ b<|n*e.size) (cH mem b { j with ro:=true }) w:=by
 have hx:Ext B γ mem w (IY γ b<|n*e.size) (cH mem b { j with ro:=true }) w :=
  { below:=uD.refl _ _
    I:=λ_ _ x=>.inl x
    pZ:=λy o x=>by
     rcases x with x|⟨⟨k,x⟩,_⟩
     .exact .inl x
     .exact .inr (h.fresh b y k (by rw[l];simp) x).1
    cells:=λ_ _ _=>rfl
    boxes:=λc cx g=>by
     by_cases e:c=b
     .subst e;obtain rfl:cx=j:=aI (g.symm.trans l);exact⟨_,bw _ _,cg _,λ_=>⟨rfl,rfl,rfl⟩⟩
     .exact⟨cx,by rw[aV _ e];exact g,cg _,λ_=>⟨rfl,rfl,rfl⟩⟩ }
 refine⟨?_,hx⟩;exact
  { cU:=h.C5 hx
    base:=h.base
    boxes:=λc cx g=>by
     by_cases e:c=b
     .subst e;rw[bw] at g;obtain rfl:=aI g;have:=(h.boxes c j l).keep hx rfl (λ_ _ _=>rfl);exact this
     .rw[aV _ e] at g;exact(h.boxes c cx g).keep hx rfl (λ_ _ _=>rfl)
    inj:=λc d f C D g E q F=>h.inj c d f C D (by
     by_cases e:c=b
     .subst e;rw[l];simp
     .rwa [aV _ e] at g) (by
     by_cases e:d=b
     .subst e;rw[l];simp
     .rwa [aV _ e] at E) q F
    fresh:=λc f s g q=>h.fresh c f s (by
     by_cases e:c=b
     .subst e;rw[l];simp
     .rwa [aV _ e] at g) q
    tu:=λf p i=>by
     rcases i with i|⟨⟨k,v⟩,_⟩
     .exact h.tu f p i
     .exact(h.fresh b f k (by rw[l];simp) v).2
    sep:=λc cx f s p g q i=>by
     by_cases z:c=b
     .subst z;rw[bw] at g;obtain rfl:=aI g;rcases i with i|⟨⟨k,v⟩,A⟩
      .obtain⟨J,G⟩:=h.sep c j f s p l q i;exact⟨rfl,G⟩
      .refine⟨rfl,λ_ u m H=>?_⟩;have t:j.row=some (u,m):=H;rw[r] at t;obtain⟨rfl,rfl⟩:=br (aI t);exact A
     .rw[aV _ z] at g;rcases i with i|⟨⟨k,v⟩,A⟩
      .exact h.sep c cx f s p g q i
      .exact absurd (h.inj c b f s k (by rw[g];simp) (by rw[l];simp) q v) z }
end
end Go.Ge
namespace Go.Ge
open RowKit
def nZ(P:Program)(B:qK)(N:Nat)(c:Gh)(e:St)(a:Act)(w:World)(d:Option Nat)(s:Sem Value)(b:St):Prop :=
 ∃v w' bQ,s.run P w=.ok v w'/\cW B N bQ b (a.put d v) w'/\Ext B c e.mem w bQ b.mem w'
section
variable {P:Program} {B:qK} {N:Nat} {γ:Gh} {σ bb:St} {a:Act} {w:World} {d:Option Nat}
theorem bN(h:cW B N γ σ a w)(b:∀k,d=some k->k<N){s:Sem Value}{v:aO}{x:Value}(c:s.run P w=.ok x w)(e:cl γ σ.mem w v .val [x]) :
  nZ P B N γ σ a w d s (σ.ba d v) :=
 ⟨x,w,γ,c,h.uE b e,by cases d<;>exact Ext.refl _ _ _ _⟩
theorem dM{g:Type}{b:Nat}{val:aO}{tid:TypeId}{buf:Bool}{k:Nat->St->Tree g}{y:g}(h:(σ.aT b val tid buf k).run=some y) :
  ∃aP,(∀c,σ.mem b=some c->c.aP<aP)/\(k aP<|σ.b5 b { val,tid,buf,ro:=false,lk:=false,aP }).run=some y:=by
 unfold St.aT at h;split at h
 .rename_i bx f;cases i:bx.lk with
  | true=>rw[i] at h;cases h
  | false =>
    rw[i] at h;exact⟨bx.aP+1,(λc e=>by rw[f] at e;obtain rfl:=aI e;omega),h⟩
 .rename_i f;exact⟨0,(λc e=>by rw[f] at e;cases e),h⟩
theorem uF(c:St)(b:Nat)(e:bF):(c.b5 b e).mem=cH c.mem b e:=rfl
theorem eE{c:Nat->Option bF}{b aP:Nat}{bx:bF}(h:c b=some bx)(f:bx.aP=aP){K:bF->Prop}(e:K bx):mx c b aP K :=
 ⟨bx,h,by omega,λ_=>e⟩
theorem xd{j:Ctx}(o:fo P j){p:Nat}{l:List Nat}{q:TypeId}{x:Operand}(h:cW B N γ σ a w)(c:∀k,d=some k->k<N)
  (b:(js j p l d q (cD σ x) σ).run=some bb):nZ P B N γ σ a w d (pure<|a.eval x) bb:=by
 have hv:=h.cD x;unfold js at b;split at b
 .rename_i g;rw[g] at hv;obtain⟨_,b⟩:=aC b;obtain rfl:=aI b;exact bN h c rfl hv
 .rename_i g;rw[g] at hv;have hx:a.eval x=.slice none 0 0:=by simpa [cl] using hv
  split at b
  .rename_i k e r;cases m:cP l k with
   | true =>
     rw[m] at b;simp only[eC] at b;obtain⟨s,f,i⟩:=dM b;obtain rfl:=aI i;obtain⟨t,v,y,z,u⟩:=(o.T _ _ r).slice;obtain⟨m1,n⟩:=h.ok.IX (tid:=0) f u;refine⟨_,w,_,rfl,h.step n m1 (c k rfl) ?_,n⟩;rw[hx];exact⟨⟨_,rfl,rfl⟩,eE (bw _ _) rfl ⟨e,0,rfl,rfl,.inl ⟨by simp[bK],rfl⟩⟩⟩
   | false =>
     rw[m] at b;obtain rfl:=aI b;exact bN (d:=some k) h c rfl (by rw[hx];exact⟨_,.inl ⟨⟨none,rfl⟩,rfl⟩,rfl⟩)
  .obtain rfl:=aI b;exact bN h c rfl (by rw[hx];rfl)
 .obtain rfl:=aI b;exact bN h c rfl hv
theorem xZ{b:Bool}{v:Value}(h:cl γ σ.mem w (.data .bool b) .val [v]):v=.bool b:=by
 obtain⟨c,e,f⟩:=dQ.1 h;rw[f,show c=_ from e];rfl
theorem s6{k:IntKind}{n:Int}{v:Value}(h:cl γ σ.mem w (.data (.int k) n) .val [v]):v=.int k n/\k.min<=n/\n<=k.max:=by
 obtain⟨e,b,c⟩:=dQ.1 h;rw[c,b.1];exact⟨rfl,b.2⟩
theorem wm{s:aq}{v:Value}(h:cl γ σ.mem w (.data .str s) .val [v]):v=.string ⟨s.toArray⟩/\s.length<=maxLen:=by
 obtain⟨cs,b,c⟩:=dQ.1 h;rw[c,b.1];exact⟨rfl,b.2⟩
theorem gg(b:Bool):cl γ σ.mem w (.data .bool b) .val [.bool b]:=⟨_,rfl,rfl⟩
theorem mkInt{k:IntKind}{n:Int}(h:k.min<=n/\n<=k.max):cl γ σ.mem w (.data (.int k) n) .val [.int k n]:=⟨_,⟨rfl,h.1,h.2⟩,rfl⟩
theorem mkStr{s:aq}(h:s.length<=maxLen):cl γ σ.mem w (.data .str s) .val [.string ⟨s.toArray⟩]:=⟨_,⟨rfl,h⟩,rfl⟩
theorem IZ{c x y:Operand}(h:cW B N γ σ a w)(j:∀k,d=some k->k<N)(f:(oc d (cD σ c) (cD σ x) (cD σ y) σ).run=some bb) :
  nZ P B N γ σ a w d (do pure (if <-asBool (a.eval c) then a.eval x else a.eval y)) bb:=by
 have q:=h.cD c;have hx:=h.cD x;have hy:=h.cD y;unfold oc at f;split at f
 .rename_i g l;rw[l] at q;have m:a.eval c=.bool g:=xZ q;have b:(do pure (if <-asBool (a.eval c) then a.eval x else a.eval y):Sem Value).run P w=.ok (if(show Bool from g)=true then a.eval x else a.eval y) w:=by
   rw[m];cases g<;>rfl
  split at f
  .rename_i t s u v n o;rw[n] at hx;rw[o] at hy;split at f
   .rename_i z p;obtain rfl:=aI f;obtain⟨e,r⟩:=Ty.kz p;subst e;subst r;refine bN h j b ?_;cases g
    .exact hy
    .exact hx
   .cases f
  .have i:=fT f;cases g
   .obtain rfl:=aI i;exact bN h j b hy
   .obtain rfl:=aI i;exact bN h j b hx
 .cases f
theorem ff(k:IntKind)(n:Int):k.min<=k.wrap n/\k.wrap n<=k.max:=wrap_within k n
theorem acs{k:IntKind}{x y:Int}(h:k.min<=x/\x<=k.max):k.min<=x.tmod y/\x.tmod y<=k.max:=by
 have b:k.min<=0:=by cases k<;>decide
 have c:0<=k.max:=by cases k<;>decide
 have f:(x.tmod y).natAbs<=x.natAbs:=by
  rw[Int.natAbs_tmod];exact Nat.mod_le _ _
 rcases Int.le_total 0 x with e|e
 .have:=Int.tmod_nonneg y e;omega
 .have:x.tmod y<=0:=by
   have:=Int.tmod_nonneg y (show 0<=-x by omega);rw[Int.neg_tmod] at this;omega
  omega
theorem acu{k:IntKind}{x:Int}(n:Nat)(h:k.min<=x/\x<=k.max):k.min<=x.fdiv (2 ^ n)/\x.fdiv (2 ^ n)<=k.max:=by
 have f:k.min<=0:=by cases k<;>decide
 have g:0<=k.max:=by cases k<;>decide
 have b:(0:Int)<2 ^ n:=Int.pow_pos (by decide);have e:x.fdiv (2 ^ n)=x / 2 ^ n:=adR _ (by omega);rw[e];rcases Int.le_total 0 x with c|c
 .have i:=Int.ediv_nonneg c (Int.le_of_lt b);have j:=Int.ediv_le_self (2 ^ n:Int) c;omega
 .have j:x / 2 ^ n<1:=Int.ediv_lt_of_lt_mul b (by omega);have l:x<=x / 2 ^ n:=by
   rw[Int.le_ediv_iff_mul_le b];have i:(1:Int)<=2 ^ n:=b;have:=Int.mul_le_mul_of_nonpos_left c i;simpa using this
  omega
theorem OA{b:BinOp}{l:Bool}(h:CT b=some l):(b=.shl/\l=true)\/(b=.shr/\l=false):=by
 cases b<;>simp[CT] at h<;>simp[h]
theorem rl{b:BinOp}{l:Bool}(h:isEq b=some l):(b=.eql/\l=true)\/(b=.neq/\l=false):=by
 cases b<;>simp[isEq] at h<;>simp[h]
def gA(b:BinOp)(c:TypeId)(x y:Operand)(u v:Value):Sem Value:=do eqGuard b c x y u v;binOp b c u v
theorem OB{f:BinOp}{k:IntKind}{n m:Int}{v:aO}{i:TypeId}{x y:Operand}(j:k.min<=n/\n<=k.max)(h:CT f=none)(c:(TQ f k n m).run=some v) :
  ∃r,(gA f i x y (.int k n)<|.int k m).run P w=.ok r w/\cl γ σ.mem w v .val [r]:=by
 unfold gA;cases f<;>simp only[eqGuard_at_int,Sem.run_bind,Sem.run_pure,Result.andThen_ok]<;>simp only[TQ] at c
 case add=>obtain rfl:=aI c;exact⟨.int k<|aF k n m,by simp only[binOp_add,Op.intArith,Sem.run_pure];rfl,mkInt (ff _ _)⟩
 case sub=>obtain rfl:=aI c;exact⟨.int k<|cC k n m,by simp only[binOp_sub,Op.intArith,Sem.run_pure];rfl,mkInt (ff _ _)⟩
 case mul=>obtain rfl:=aI c;exact⟨.int k<|gX k n m,by simp only[binOp_mul,Op.intArith,Sem.run_pure];rfl,mkInt (ff _ _)⟩
 case quo =>
  have b:=fT c;cases e:aX m 0
  .rw[e] at b;obtain rfl:=aI b;have g:m≠0:=by simpa [aX] using e
   exact⟨.int k<|GX k n m,by simp only[binOp_quo,Op.intDiv,aM g,Sem.run_pure];rfl,mkInt (ff _ _)⟩
  .rw[e] at b;cases b
 case rem =>
  have b:=fT c;cases e:aX m 0
  .rw[e] at b;obtain rfl:=aI b;have g:m≠0:=by simpa [aX] using e
   exact⟨.int k<|iE n m,by simp only[binOp_rem,Op.intDiv,aM g,Sem.run_pure];rfl,mkInt (acs j)⟩
  .rw[e] at b;cases b
 case and=>obtain rfl:=aI c;exact⟨.int k<|lP k n m,by simp only[binOp_and,intBits_and,Sem.run_pure];rfl,mkInt (ff _ _)⟩
 case or=>obtain rfl:=aI c;exact⟨.int k<|wV k n m,by simp only[binOp_or,intBits_or,Sem.run_pure];rfl,mkInt (ff _ _)⟩
 case xor=>obtain rfl:=aI c;exact⟨.int k<|fI k n m,by simp only[binOp_xor,intBits_xor,Sem.run_pure];rfl,mkInt (ff _ _)⟩
 case andNot=>obtain rfl:=aI c;exact⟨.int k<|ad1 k n m,by simp only[binOp_andNot,intBits_andNot,Sem.run_pure];rfl,mkInt (ff _ _)⟩
 case shl=>cases h
 case shr=>cases h
 case eql=>obtain rfl:=aI c;exact⟨.bool<|aX n m,by simp[binOp,Op.intCmp,aX];rfl,gg _⟩
 case neq=>obtain rfl:=aI c;exact⟨.bool<|nt<|aX n m,by simp[binOp,Op.intCmp,aX,nt];rfl,gg _⟩
 case lss=>obtain rfl:=aI c;exact⟨.bool<|aY n m,by simp[binOp,Op.intCmp,aY],gg _⟩
 case leq=>obtain rfl:=aI c;exact⟨.bool<|cu n m,by simp[binOp,Op.intCmp,cu],gg _⟩
 case gtr=>obtain rfl:=aI c;exact⟨.bool<|aY m n,by simp[binOp,Op.intCmp,aY],gg _⟩
 case geq=>obtain rfl:=aI c;exact⟨.bool<|cu m n,by simp[binOp,Op.intCmp,cu],gg _⟩
theorem iW(s:aq):(⟨s.toArray⟩:ByteArray).toList=s:=by rw[ByteArray.toList_eq]
theorem TY(s t:aq):(s==t)=bt s t:=by rw[Ey];simp[bt]
theorem OC{c:BinOp}{s t:aq}{v:aO}{g:TypeId}{x y:Operand}(b:(TR c s t).run=some v) :
  ∃r,(gA c g x y (.string ⟨s.toArray⟩)<|.string ⟨t.toArray⟩).run P w=.ok r w/\cl γ σ.mem w v .val [r]:=by
 unfold gA;cases c<;>simp only[eqGuard_at_string,Sem.run_bind,Sem.run_pure,Result.andThen_ok]<;>simp only[TR] at b<;>try (cases b;done)
 case add =>
  obtain⟨h,e⟩:=cv b;obtain rfl:=aI e;have j:s.length+t.length<=4294967296:=by have i:plus (len s) (len t)<=4294967296:=gM h;simp only[plus,len] at i;omega
  refine⟨.string ⟨(s++t).toArray⟩,?_,mkStr (by simp only[app,fQ,maxLen];omega)⟩;have f:∀l:aq,(⟨l.toArray⟩:ByteArray).size=l.length:=λl=>rfl;have:¬(((s.length+t.length:Nat):Int) > IntKind.i64.max):=by rw[IntKind.max_i64];omega
  simp only[binOp,Op.stringOp,f,this,pR,Sem.run_pure]
  congr 2
 case eql=>obtain rfl:=aI b;exact⟨.bool<|bt s t,by simp only[binOp,Op.stringOp,iW,TY,Sem.run_pure],gg _⟩
 case neq=>obtain rfl:=aI b;exact⟨.bool<|nt<|bt s t,by simp only[binOp,Op.stringOp,iW,TY,Sem.run_pure];rfl,gg _⟩
 case lss=>obtain rfl:=aI b;exact⟨.bool<|iu s t,by simp only[binOp,Op.stringOp,iW,TY,Sem.run_pure];rfl,gg _⟩
 case leq=>obtain rfl:=aI b;exact⟨.bool<|Zk (iu s t)<|bt s t,by simp only[binOp,Op.stringOp,iW,TY,Sem.run_pure];rfl,gg _⟩
 case gtr=>obtain rfl:=aI b;exact⟨.bool<|nt<|Zk (iu s t)<|bt s t,by simp only[binOp,Op.stringOp,iW,TY,Sem.run_pure];rfl,gg _⟩
 case geq=>obtain rfl:=aI b;exact⟨.bool<|nt<|iu s t,by simp only[binOp,Op.stringOp,iW,TY,Sem.run_pure];rfl,gg _⟩
theorem Rb{b:BinOp}{left:Bool}{k e:IntKind}{n m:Int}{f:TypeId}{x y:Operand}(g:k.min<=n/\n<=k.max)(h:CT b=some left)(i:aY m 0=false) :
  ∃r,(gA b f x y (.int k n)<|.int e m).run P w=.ok r w/\cl γ σ.mem w (.data (.int k)<|bif left then lQ k n m else mu k n m) .val [r]:=by
 have c:¬m<0:=by simpa [aY] using i
 unfold gA;rcases OA h with ⟨rfl,rfl⟩|⟨rfl,rfl⟩
 .exact⟨.int k<|lQ k n m,by simp only[eqGuard_shl,binOp_shl,Op.shift,aM c,Sem.run_bind,Sem.run_pure,Result.andThen_ok];rfl,mkInt (ff _ _)⟩
 .exact⟨.int k<|mu k n m,by simp only[eqGuard_shr,binOp_shr,Op.shift,aM c,Sem.run_bind,Sem.run_pure,Result.andThen_ok];rfl,mkInt (acu _ g)⟩
theorem AB{t:Ty}{c:TypeId}(g:Den P t c){cs:Array Value}{off:Nat}(h:off+t.size<=cs.size)(j:t.isAgg=false->t.size=1) :
  (part c cs off).run P w=.ok (bZ t<|(cs.toList.drop off).take t.size) w:=by
 unfold part;rw[Sem.run_bind,g.agg w,Result.andThen_ok];cases b:t.isAgg with
 | true =>
   simp only[ky,Sem.run_bind,g.sizeOf w,Result.andThen_ok,Sem.run_pure,bZ,b,eC]
   congr 2
   apply QZ;simp
 | false =>
   have k:=j b;simp only[aM<|show ¬(false=true) by simp,bZ,b,iT,k];have f:off<cs.size:=by omega
   have e:(cs.toList.drop off).take 1=[cs[off]]:=by
    apply Bq;intro i;rw[fi];cases i with
    | zero=>simp[f]
    | succ i=>simp
   rw[e];simp[f]
theorem sx:∀{t:Ty},t.isAgg=false->t.size=1:=by
 intro t h;induction t with
 | alt u a r c b=>exact b h
 | arr|pair|unit=>cases h
 | _=>rfl
theorem Rc(t:Ty):1<=t.CS:=by cases t<;>simp[Ty.CS]
theorem Bz{γ:Gh}{w:World}:∀(t:Ty),(∀(d:Nat) (tid:TypeId) (x y:t.den) (cx cy:List Value) (c:Bool),Den P t tid->bI w γ.I t x cx->bI w γ.I t y cy->Ty.eqv t x y=some c->t.CS<d ->
   (Op.equalIn d tid (bZ t cx)<|bZ t cy).run P w=.ok c w) /\
  (∀(d off:Nat) (v:List Field) (x y:t.den) (cx cy:List Value) (o s:Array Value) (c:Bool),pP P t off v->bI w γ.I t x cx->bI w γ.I t y cy->Ty.eqv t x y=some c->t.CS<d ->
   o.toList.drop off=cx->s.toList.drop off=cy->off<=o.size->off<=s.size->(Op.eqFields d o s v).run P w=.ok c w):=by
 intro t;induction t with
 | int k =>
   refine⟨λd tid x y cx cy c g A C m J=>?_,λd off v x y cx cy o s c g=>by simp[pP,eV] at g⟩;obtain⟨d,rfl⟩:∃e,d=e+1:=⟨d-1,by omega⟩;rw[A.1,C.1];obtain rfl:=aI m;show(Op.equalIn (d+1) tid (.int k x)<|.int k y).run P w=_
   rw[run_equalIn_int w d tid k k x y g.int]
   congr 1
 | bool =>
   refine⟨λd tid x y cx cy c g A C m J=>?_,λd off v x y cx cy o s c g=>by simp[pP,eV] at g⟩;obtain⟨d,rfl⟩:∃e,d=e+1:=⟨d-1,by omega⟩;rw[show cx=_ from A,show cy=_ from C];obtain rfl:=aI m;exact run_equalIn_bool' w d tid x y g.bool
 | str =>
   refine⟨λd tid x y cx cy c g A C m J=>?_,λd off v x y cx cy o s c g=>by simp[pP,eV] at g⟩;obtain⟨d,rfl⟩:∃e,d=e+1:=⟨d-1,by omega⟩;rw[A.1,C.1];obtain rfl:=aI m;have K:=run_equalIn_string (P:=P) w d tid ⟨List.toArray (α:=UInt8) x⟩ ⟨List.toArray (α:=UInt8) y⟩ g.str;rw[iW<|show aq from x,iW (show aq from y),TY] at K;exact K
 | slice e ih=>exact⟨(λd tid x y cx cy c g A C m=>by cases m),(λd off v x y cx cy o s c g=>by simp[pP,eV] at g)⟩
 | alt u a r Y ihr=>exact⟨(λd tid x y cx cy c g A C m=>by cases m),(λd off v x y cx cy o s c g=>by simp[pP,eV] at g)⟩
 | zj=>exact⟨(λd tid x y cx cy c g A C m=>by cases m),(λd off v x y cx cy o s c g=>by simp[pP,eV] at g)⟩
 | arr n e ih =>
   refine⟨λd tid x y cx cy c g A C m J=>?_,(λd off v x y cx cy o s c g=>by simp[pP,eV] at g)⟩;cases e with
   | int k =>
     obtain⟨d,rfl⟩:∃e,d=e+1:=⟨d-1,by omega⟩;obtain⟨d,rfl⟩:∃e,d=e+1:=⟨d-1,by have:(Ty.arr n<|.int k).CS=1+1:=rfl;omega⟩;obtain rfl:=aI m;obtain⟨Z,L,F,k3⟩:=g.arr;obtain⟨i,z,i1,i2,_,_⟩:=F.info;have M:=F.cells;show(Op.equalIn (d+1+1) tid (.agg cx.toArray)<|.agg cy.toArray).run P w=_
     rw[run_equalIn_array w (d+1) cx.toArray cy.toArray L i1,M];obtain⟨hxl,O,D⟩:=A;obtain⟨hyl,Q,E⟩:=C;have U:(Ty.int k).size=1:=rfl;rw[U] at O D Q E⊢;rw[Bu] at O Q;change List Int at x y;have item:∀V:List Nat,(∀i∈V,i<n)->(Op.eqItems (d+1) Z 1 cx.toArray cy.toArray V).run P w=.ok (V.all λi=>decide (x[i]?=y[i]?)) w:=by
      intro V;induction V with
      | nil=>intro _;rfl
      | cons i V ihs =>
        intro hi;have G:=hi i (mo ..);obtain⟨a,hxi⟩:∃a,x[i]?=some a:=⟨_,fN (by rw[show x.length=n from hxl];exact G)⟩;obtain⟨b,hyi⟩:∃a,y[i]?=some a:=⟨_,fN (by rw[show y.length=n from hyl];exact G)⟩;have W:=AB (w:=w) F (cs:=cx.toArray) (off:=i*1) (by rw[U];simp[O];omega) (λ_=>U);have X:=AB (w:=w) F (cs:=cy.toArray) (off:=i*1) (by rw[U];simp[Q];omega) (λ_=>U);have ex:=(D i _ hxi).1;have ey:=(E i _ hyi).1;rw[U] at W X;rw[show cx.toArray.toList=cx from rfl,ex] at W;rw[show cy.toArray.toList=cy from rfl,ey] at X;simp only[Op.eqItems,Sem.run_bind,W,X,Result.andThen_ok];have R:=run_equalIn_int w d Z k k a b F.int;simp only[bZ,Ty.isAgg,iT,List.headD_cons,R,ky,Result.andThen_ok,hxi,hyi,Iz];cases hb:(a==b) with
        | true =>
          have S:a=b:=by simpa using hb
          simp only[QT,Iu,pR,S,Bw,QU];exact ihs λj hj=>hi j (nX _ hj)
        | false =>
          have S:¬a=b:=by simpa using hb
          simp[S]
     rw[item _ λi hi=>B8.1 hi]
     congr 1
     unfold eqL;rw[Ey,ra];simp only[B8,kQ];constructor
     .intro h;apply Bq;intro i;by_cases G:i<n
      .exact h i G
      .rw[Om<|by rw[show x.length=n from hxl];omega,Om (by rw[show y.length=n from hyl];omega)]
     .intro h i _;exact congrArg (λl=>l[i]?) h
   | _=>cases m
 | unit =>
   refine⟨(λd tid x y cx cy c g=>by simp[Den,eV] at g),λd off v x y cx cy o s c g A C m J K h2 h3 h4=>?_⟩;cases v with
   | nil=>obtain rfl:=aI m;rfl
   | cons f r=>simp[pP,eV] at g
 | pair a b Y ihb =>
   have key:(∀(d off:Nat) (v:List Field) (x y:(Ty.pair a b).den) (cx cy:List Value) (o s:Array Value) (c:Bool),pP P (.pair a b) off v->bI w γ.I (.pair a b) x cx->bI w γ.I (.pair a b) y cy->Ty.eqv (.pair a b) x y=some c->(Ty.pair a b).CS<d+1 ->
    o.toList.drop off=cx->s.toList.drop off=cy->off<=o.size->off<=s.size->(Op.eqFields d o s v).run P w=.ok c w):=by
    intro d off v x y cx cy o s c g A C m J K h2 h3 h4;obtain⟨f,r,rfl,L,F,k3,k4,k5⟩:=g.cons;obtain⟨x1,x2,D,hx1,hx2⟩:=A;obtain⟨y1,y2,E,hy1,hy2⟩:=C;simp only[Ty.eqv] at m;cases H:Ty.eqv a x.1 y.1 with
    | none=>rw[H] at m;cases m
    | some p =>
      cases T:Ty.eqv b x.2 y.2 with
      | none=>rw[H,T] at m;cases m
      | some q =>
        rw[H,T] at m;obtain rfl:=aI m;have hlx:=hx1.length;have hly:=hy1.length;have lx:o.size-off=x1.length+x2.length:=by
         have:=congrArg List.length (K.trans D);simpa using this
        have ly:s.size-off=y1.length+y2.length:=by
         have:=congrArg List.length (h2.trans E);simpa using this
        have W:=AB (w:=w) k3 (cs:=o) (off:=f.offset) (by omega) sx;have X:=AB (w:=w) k3 (cs:=s) (off:=f.offset) (by omega) sx;have ex:(o.toList.drop f.offset).take a.size=x1:=by rw[L,K,D,<-hlx,Iy]
        have ey:(s.toList.drop f.offset).take a.size=y1:=by rw[L,h2,E,<-hly,Iy]
        rw[ex] at W;rw[ey] at X;have TZ:(Ty.pair a b).CS=a.CS+b.CS+1:=rfl;have hra:=Rc a;have hrb:=Rc b;have R:=Y.1 d f.type x.1 y.1 x1 y1 p k3 hx1 hy1 H (by omega);simp only[Op.eqFields,aQ F,Sem.run_bind,W,X,R,Result.andThen_ok];cases p with
        | false=>simp[an]
        | true =>
          simp only[QT,Iu,pR];rw[ihb.2 d (off+a.size) r x.2 y.2 x2 y2 o s q k5 hx2 hy2 T (by omega) (by rw[<-vm,K,D,<-hlx,Bf]) (by rw[<-vm,h2,E,<-hly,Bf]) (by omega)<|by omega];simp[an]
   refine⟨λd tid x y cx cy c g A C m J=>?_,λd off v x y cx cy o s c g A C m J=>key d off v x y cx cy o s c g A C m (by omega)⟩;obtain⟨d,rfl⟩:∃e,d=e+1:=⟨d-1,by omega⟩;obtain⟨v,L,F,k3,k4⟩:=g.pair;have hf:P.fieldsOf tid=v:=by simp[Program.fieldsOf,L]
   show(Op.equalIn (d+1) tid (.agg _)<|.agg _).run P w=_
   rw[run_equalIn_struct w d tid _ _ (by rw[hf];exact L) k4,hf];exact key d 0 v.toList x y cx cy _ _ c F A C m (by omega) (by simp) (by simp) (by simp) (by simp)
end
end Go.Ge
