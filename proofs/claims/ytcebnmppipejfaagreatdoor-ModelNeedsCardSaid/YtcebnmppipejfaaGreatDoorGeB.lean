import Derived.Test.YtcebnmppipejfaaGreatDoorGeA
import Derived.Laws.StructEq
import Derived.ChangeKeysEq
set_option linter.unusedVariables false
set_option linter.unusedSimpArgs false
set_option linter.unusedSectionVars false
namespace Go.Ge
structure Gh where
 I:Nat->Nat->Prop
 loc:Nat->Option (Nat×Nat)
def bW(t:Ty)(cs:List Value):Value:=bif t.isAgg then .agg cs.toArray else cs.headD undef
def bB(w:World)(I:Nat->Nat->Prop):(t:Ty)->t.den->List Value->Prop
 | .int k,n,cs=>cs=[.int k n]/\k.min<=(show Int from n)/\(show Int from n)<=k.max
 | .bool,b,cs=>cs=[.bool b]
 | .str,s,cs=>cs=[.string ⟨List.toArray (α:=UInt8) s⟩]/\List.length (α:=UInt8) s<=maxLen
 | .slice e,l,cs=>((∃base,cs=[.slice base 0 0])/\l=([]:List e.den)) \/
  ∃f off g,cs=[.slice (some ⟨f,off,none⟩) (List.length (α:=e.den) l) g]/\List.length (α:=e.den) l<=g/\g<=maxLen /\
   ∀(i:Nat) (x:e.den),(show List e.den from l)[i]?=some x->∃es:List Value,es.length=e.size /\
    (∀(j:Nat) v,es[j]?=some v->w.cell? ⟨f,off+i*e.size+j,none⟩=some v/\I f (off+i*e.size+j))/\bB w I e x es
 | .arr n e,l,cs=>List.length (α:=e.den) l=n/\cs.length=n*e.size /\
  ∀(i:Nat) (x:e.den),(show List e.den from l)[i]?=some x->bB w I e x ((cs.drop<|i*e.size).take e.size)
 | .pair a b,x,cs=>∃h m,cs=h++m/\bB w I a x.1 h/\bB w I b x.2 m
 | .unit,_,cs=>cs=[]
 | .alt u a r,x,cs=>match(show a.den⊕r.den from x) with
   | .inl y=>r.size=1/\∃c,cs=[.iface u<|bW a c]/\bB w I a y c
   | .inr z=>bB w I r z cs
 | .zH,_,cs=>cs=[.nilIface]
theorem bB.length{w:World}{I:Nat->Nat->Prop}:∀{t:Ty} {x:t.den} {cs:List Value},bB w I t x cs->cs.length=t.size:=by
 intro t;induction t with
 | int k=>intro x cs h;rw[h.1];rfl
 | bool=>intro x cs h;rw[h];rfl
 | str=>intro x cs h;rw[h.1];rfl
 | slice e l=>intro x cs h;rcases h with ⟨⟨_,h⟩,_⟩|⟨_,_,_,h,_⟩<;>rw[h]<;>rfl
 | arr n e l=>intro x cs h;exact h.2.1
 | pair a b f g=>intro x cs h;obtain⟨o,p,rfl,i,m⟩:=h;rw[iP,f i,g m];rfl
 | unit=>intro x cs h;rw[h];rfl
 | alt u a r f j =>
   intro x cs h;rcases x with y|z
   .obtain⟨i,c,rfl,_⟩:=h;exact i.symm
   .exact j (show bB w I r z cs from h)
 | zH=>intro x cs h;rw[show cs=_ from h];rfl
theorem bB.mono{w w':World}{I I':Nat->Nat->Prop}(D:∀b o,I b o->I' b o)(E:∀b o,I b o->w'.cell? ⟨b,o,none⟩=w.cell? ⟨b,o,none⟩) :
  ∀{t:Ty} {x:t.den} {cs:List Value},bB w I t x cs->bB w' I' t x cs:=by
 intro t;induction t with
 | int k=>intro x cs h;exact h
 | bool=>intro x cs h;exact h
 | str=>intro x cs h;exact h
 | slice e m =>
   intro x cs h;rcases h with h|⟨blk,off,p,g,l,q,F⟩
   .exact .inl h
   .refine .inr ⟨blk,off,p,g,l,q,λi y s=>?_⟩;obtain⟨es,G,H,J⟩:=F i y s;exact⟨es,G,λj v K=>by obtain⟨a,b⟩:=H j v K;exact⟨by rw[E _ _ b];exact a,D _ _ b⟩,m J⟩
 | arr n e m=>intro x cs h;exact⟨h.1,h.2.1,λi y s=>m (h.2.2 i y s)⟩
 | pair a b f A=>intro x cs h;obtain⟨L,M,O,g,l⟩:=h;exact⟨L,M,O,f g,A l⟩
 | unit=>intro x cs h;exact h
 | alt u a r f C =>
   intro x cs h;rcases x with y|z
   .obtain⟨g,c,l,q⟩:=h;exact⟨g,c,l,f q⟩
   .exact C (show bB w I r z cs from h)
 | zH=>intro x cs h;exact h
theorem bB.one{w:World}{I:Nat->Nat->Prop}:∀{t:Ty} {x:t.den} {cs:List Value},bB w I t x cs->∀v∈cs,v.oneCell'=true:=by
 intro t;induction t with
 | int k=>intro x cs h v f;rw[h.1] at f;simp at f;subst f;rfl
 | bool=>intro x cs h v f;rw[h] at f;simp at f;subst f;rfl
 | str=>intro x cs h v f;rw[h.1] at f;simp at f;subst f;rfl
 | slice e s=>intro x cs h v f;rcases h with ⟨⟨_,h⟩,_⟩|⟨_,_,_,h,_⟩<;>rw[h] at f<;>simp at f<;>subst f<;>rfl
 | arr n e s =>
   intro x cs h v f;obtain⟨i,j,A⟩:=h;obtain⟨k,D,l⟩:=O1 f;have C:0<e.size:=by
    rcases SE e.size with m|m
    .rw[m,Nat.mul_zero] at j;omega
    .exact m
   have hdiv:k / e.size<n:=by rw[XB C];omega
   have hx:∃y,(show List e.den from x)[k / e.size]?=some y:=⟨_,jE (by rw[i];exact hdiv)⟩;obtain⟨y,E⟩:=hx;refine s (A _ y E) v ?_;have F:=w9 k C;have o:k / e.size*e.size+k % e.size=k:=by rw[SN];exact SK k e.size
   have:((cs.drop<|k / e.size*e.size).take e.size)[k % e.size]?=some v:=by
    rw[gm,bd F,l9,o,jE D,l]
   exact iy this
 | pair a b g p =>
   intro x cs h v f;obtain⟨G,H,rfl,i,j⟩:=h;rcases sv.1 f with f|f
   .exact g i v f
   .exact p j v f
 | unit=>intro x cs h v f;rw[h] at f;cases f
 | alt u a r g q =>
   intro x cs h v f;rcases x with y|z
   .obtain⟨i,c,rfl,A⟩:=h;simp at f;subst f;rfl
   .exact q (show bB w I r z cs from h) v f
 | zH=>intro x cs h v f;rw[show cs=_ from h] at f;simp at f;subst f;rfl
theorem qW{w:World}{I:Nat->Nat->Prop}:∀{t:Ty} {x:t.den} {cs:List Value},bB w I t x cs->(bW t cs).cells.toList=cs:=by
 intro t;induction t with
 | int k=>intro x cs h;unfold bW;rw[h.1];rfl
 | bool=>intro x cs h;unfold bW;rw[h];rfl
 | str=>intro x cs h;unfold bW;rw[h.1];rfl
 | slice e=>intro x cs h;unfold bW;rcases h with ⟨⟨_,h⟩,_⟩|⟨_,_,_,h,_⟩<;>rw[h]<;>rfl
 | arr n e=>intro x cs h;rfl
 | pair a b=>intro x cs h;rfl
 | unit=>intro x cs h;rfl
 | alt u a r g f =>
   intro x cs h;rcases x with y|z
   .obtain⟨i,c,rfl,j⟩:=h;unfold bW Ty.isAgg;cases r.isAgg<;>rfl
   .exact f (show bB w I r z cs from h)
 | zH=>intro x cs h;unfold bW;rw[show cs=_ from h];rfl
inductive Mode where
 | cells|val|many
def uk(b:Option Addr)(c:Nat):Prop:=c=0\/∃e f,b=some ⟨e,f,none⟩
def cL:List CU->Nat
 | []=>0
 | .fD _ off::p=>off+cL p
 | .idx i size::p=>i.toNat*size+cL p
theorem zY(p q:List CU):cL (p++q)=cL p+cL q:=by
 induction p with
 | nil=>simp[cL]
 | cons s p b=>cases s<;>simp[cL,b]<;>omega
section
variable (γ:Gh) (mem:Nat->Option Box) (w:World)
def Eg(g:Box)(b:Nat)(h:Int)(c:Option Addr)(e:Nat):Prop:=h=0->g.buf=true->(γ.loc b=none/\c=none/\e=0)\/∃f,γ.loc b=some (f,e)/\c=some ⟨f,0,none⟩
def Eh(I:Nat->Nat->Prop)(b c:Nat)(e:List Value):Prop:=∀(j:Nat) v,e[j]?=some v->w.cell? ⟨b,c+j,none⟩=some v/\I b (c+j)
def mn(b c:Nat)(K:Box->Prop):Prop:=∃e,mem b=some e/\c<=e.aI/\(e.aI=c->K e)
def b5:aK->Mode->List Value->Prop
 | .undef,.val,vs=>∃v,vs=[v]
 | .undef,.cells,vs=>∃v,vs=[v]/\v.oneCell'=true
 | .undef,.many,_=>False
 | .data t x,.cells,vs=>bB w γ.I t x vs
 | .data t x,.val,vs=>∃cs,bB w γ.I t x cs/\vs=[bW t cs]
 | .data _ _,.many,_=>False
 | .mix a b,.cells,vs=>∃l m,vs=l++m/\b5 a .cells l/\b5 b .cells m
 | .mix a b,.val,vs=>∃l m,vs=[.agg (l++m).toArray]/\b5 a .cells l/\b5 b .cells m
 | .mix a b,.many,vs=>∃v r,vs=v::r/\b5 a .val [v]/\b5 b .many r
 | .nl,.many,vs=>vs=[]
 | .nl,_,_=>False
 | .y7 u,.val,vs=>∃h:Array Value,vs=[.tuple h]/\b5 u .many h.toList
 | .y7 _,_,_=>False
 | .dK,.many,_=>False
 | .dK,_,vs=>vs=[.pointer none]
 | .rL,.many,_=>False
 | .rL,_,vs=>vs=[.nilIface]
 | .vk _ _,.many,_=>False
 | .vk b aI,_,vs=>(∃v,vs=[v]/\v.oneCell'=true)/\mn mem b aI λ_=>∃g cap,γ.loc b=some (g,cap)/\(vs=[.pointer none]\/vs=[.pointer<|some ⟨g,0,none⟩])
 | .nJ,.many,_=>False
 | .nJ,_,vs=>vs=[.slice none 0 0]
 | .cell _ _,.many,_=>False
 | .cell t x,_,vs=>∃g off cs,vs=[.pointer<|some ⟨g,off,none⟩]/\bB w γ.I t x cs/\Eh w γ.I g off cs
 | .ptr _ _ _,.many,_=>False
 | .ptr b aI p,_,vs=>(∃v,vs=[v]/\v.oneCell'=true)/\mn mem b aI λ_=>∃g cap,γ.loc b=some (g,cap)/\vs=[.pointer<|some ⟨g,cL p,none⟩]
 | .whole _ _,.many,_=>False
 | .whole b aI,_,vs=>(∃v,vs=[v]/\v.oneCell'=true)/\mn mem b aI λbx=>∃e n,bx.buf=true/\bx.row=some (e,n) /\
  ((γ.loc b=none/\vs=[.slice none 0 0])\/∃g cap,γ.loc b=some (g,cap)/\vs=[.slice (some ⟨g,0,none⟩) n cap])
 | .part _ _ _ _,.many,_=>False
 | .part b aI lo n,_,vs=>(∃v,vs=[v]/\v.oneCell'=true)/\mn mem b aI λbx=>∃e k,bx.row=some (e,k)/\0<=lo/\0<=n/\lo+n<=k /\
  ∃base cap,vs=[.slice base n.toNat cap]/\n.toNat<=cap/\cap<=maxLen/\(uk base cap/\Eg γ bx b lo base cap)/\(n=0\/∃g c,γ.loc b=some (g,c)/\base=some ⟨g,lo.toNat*e.size,none⟩)
 | .win _ _ _ _ _ _ _,.many,_=>False
 | .win b aI q e k lo n,_,vs=>(∃v,vs=[v]/\v.oneCell'=true)/\mn mem b aI λ_=>q≠[]/\∃g c,γ.loc b=some (g,c)/\0<=lo/\0<=n/\lo+n<=k /\
  ∃base cap,vs=[.slice base n.toNat cap]/\n.toNat<=cap/\(n=0\/base=some ⟨g,cL q+lo.toNat*e.size,none⟩)
 | .fn _ _,.many,_=>False
 | .fn f j,_,vs=>∃h:Array Value,vs=[xe f h]/\h.size=j.length /\
  ∀(i:Nat) b aI,j[i]?=some (b,aI)->mn mem b aI λ_=>∃g cap,γ.loc b=some (g,cap)/\h[i]?=some (.pointer<|some ⟨g,0,none⟩)
def lU(c:Array Value)(e:Nat×Nat):Prop:=∀b,b<c.size->¬(e.1<=b/\b<e.2)
def Ty.isInt:Ty->Bool
 | .int _=>true
 | _=>false
structure ThB (e:Ty) (cur:Array Value) (fr:Nat×Nat):Prop where
 th:lU cur fr
 um:e.isInt=false->¬(fr.1<=cur.size/\cur.size<fr.2)
def cJ(b:Nat)(bx:Box):Prop :=
 match bx.buf with
 | true=>∃(e:Ty) (l:List e.den),bx.val=.data (.slice e) l/\0<e.size /\
  ((γ.loc b=none/\l=[])\/∃f cap c tid g,γ.loc b=some (f,cap)/\w.heap[f]?=some (.cells c tid g)/\ThB e c g/\(bx.tid=0\/tid=bx.tid)/\l.length<=cap/\cap<=maxLen /\
   c.size=cap*e.size/\∀(i:Nat) (x:e.den),l[i]?=some x->bB w γ.I e x ((c.toList.drop<|i*e.size).take e.size))
 | false=>∃f cap c tid g,γ.loc b=some (f,cap)/\w.heap[f]?=some (.cells c tid g)/\lU c g/\(bx.tid=0\/tid=bx.tid)/\b5 γ mem w bx.val .cells c.toList
end
def VB(b:Box):Nat->Prop:=λc=>b.ro=true/\(b.buf=true->∀e n,b.row=some (e,n)->c<n*e.size)
abbrev fm:=Nat->(Obj->Prop)->Prop
def vl:fm:=λ_ _=>False
def F2(G:fm)(w:World):Prop:=∀b Q,G b Q->∃o,w.heap[b]?=some o/\Q o
structure qA where
 lo:Nat
 X:Nat->Prop
 G:fm
def qA.has(B:qA)(k:Nat):Prop:=B.lo<=k\/B.X k
def lZ(G:fm)(n:Nat):qA:=⟨n,λ_=>False,G⟩
theorem pB{G:fm}{n k:Nat}:(lZ G n).has k↔n<=k:=⟨λh=>h.elim id False.elim,.inl⟩
structure tV (B:qA) (w w':World):Prop where
 os:w'.os=w.os
 tape:w'.tape=w.tape
 output:w'.output=w.output
 size:w.heap.size<=w'.heap.size
 block:∀k,¬B.has k->w'.heap[k]?=w.heap[k]?
theorem tV.refl(B:qA)(w:World):tV B w w:=⟨rfl,rfl,rfl,cD _,λ_ _=>rfl⟩
theorem tV.trans{B:qA}{a b c:World}(h:tV B a b)(k:tV B b c):tV B a c :=
 ⟨k.os.trans h.os,k.tape.trans h.tape,k.output.trans h.output,iz h.size k.size,λi e=>(k.block i e).trans (h.block i e)⟩
theorem tV.of{B:qA}{w b:World}(h:RowKit.Below B.lo w b):tV B w b:=⟨h.os,h.tape,h.output,h.size,λk c=>h.block k (XJ λq=>c (.inl q))⟩
theorem tV.below{G:fm}{n:Nat}{w b:World}(h:tV (lZ G n) w b):RowKit.Below n w b:=⟨h.os,h.tape,h.output,h.size,λk c=>h.block k λq=>by have:=pB.1 q;omega⟩
theorem tV.drew{B:qA}{a w:World}(h:tV B a w):tV B a w.drew:=⟨h.os,h.tape,h.output,h.size,h.block⟩
theorem tV.alloc{B:qA}{a w:World}(h:tV B a w)(b:B.lo<=w.heap.size)(o:Obj):tV B a (w.alloc o):=h.trans (.of<|(RowKit.Below.refl _ _).alloc b o)
structure bu (B:qA) (γ:Gh) (mem:Nat->Option Box) (w:World):Prop where
 base:B.lo<=w.heap.size
 boxes:∀b bx,mem b=some bx->cJ γ mem w b bx
 inj:∀b c blk k k',mem b≠none->mem c≠none->γ.loc b=some (blk,k)->γ.loc c=some (blk,k')->b=c
 fresh:∀b blk k,mem b≠none->γ.loc b=some (blk,k)->B.has blk/\blk<w.heap.size
 sV:∀blk off,γ.I blk off->blk<w.heap.size
 sep:∀b bx blk k off,mem b=some bx->γ.loc b=some (blk,k)->γ.I blk off->VB bx off
 cP:∀b Q,B.G b Q->¬B.has b/\∃o,w.heap[b]?=some o/\Q o
structure cQ (B:qA) (N:Nat) (γ:Gh) (σ:St) (a:Act) (w:World):Prop where
 slots:∀t,b5 γ σ.mem w (σ.slots t) .val [a.tmps.getD t undef]
 size:a.tmps.size=N
 defers:a.defers=[]
 ok:bu B γ σ.mem w
structure Ext (B:qA) (γ:Gh) (mem:Nat->Option Box) (w:World) (bG:Gh) (dP:Nat->Option Box) (w':World):Prop where
 below:tV B w w'
 I:∀b o,γ.I b o->bG.I b o
 pC:∀b o,bG.I b o->γ.I b o\/B.has b
 cells:∀b o,γ.I b o->w'.cell? ⟨b,o,none⟩=w.cell? ⟨b,o,none⟩
 boxes:∀b bx,mem b=some bx->∃rN,dP b=some rN/\bx.aI<=rN.aI/\(rN.aI=bx.aI->bG.loc b=γ.loc b/\rN.buf=bx.buf/\rN.row=bx.row)
theorem bu.Ei{B:qA}{k j:Gh}{e f:Nat->Option Box}{w l:World}(h:bu B k e w)(x:Ext B k e w j f l):∀b Q,B.G b Q->¬B.has b/\∃o,l.heap[b]?=some o/\Q o:=λb Q g=>by
 obtain⟨i,o,c,q⟩:=h.cP b Q g;exact⟨i,o,(x.below.block b i).trans c,q⟩
theorem bu.Qs{B:qA}{e:Gh}{c:Nat->Option Box}{w:World}(h:bu B e c w):F2 B.G w:=λb Q g=>(h.cP b Q g).2
theorem Ext.refl(B:qA)(γ:Gh)(mem:Nat->Option Box)(w:World):Ext B γ mem w γ mem w :=
 ⟨tV.refl _ _,λ_ _ h=>h,λ_ _ h=>.inl h,λ_ _ _=>rfl,λb bx h=>⟨bx,h,cD _,λ_=>⟨rfl,rfl,rfl⟩⟩⟩
theorem Ext.trans{B:qA}{n j f:Gh}{l g c:Nat->Option Box}{w p m:World}(h:Ext B n l w j g p)(k:Ext B j g p f c m) :
  Ext B n l w f c m where
 below:=h.below.trans k.below
 I:=λb o x=>k.I _ _ (h.I _ _ x)
 pC:=λb o x=>by
  rcases k.pC b o x with y|y
  .exact h.pC b o y
  .exact .inr y
 cells:=λb o x=>(k.cells _ _<|h.I _ _ x).trans (h.cells _ _ x)
 boxes:=λb bx x=>by
  obtain⟨rN,q,r,s⟩:=h.boxes b bx x;obtain⟨i,t,u,v⟩:=k.boxes b rN q;refine⟨i,t,iz r u,λe=>?_⟩;have z:rN.aI=bx.aI:=by omega
  have A:i.aI=rN.aI:=by omega
  obtain⟨C,D,E⟩:=s z;obtain⟨F,G,H⟩:=v A;exact⟨F.trans C,G.trans D,H.trans E⟩
theorem mn.ext{B:qA}{k j:Gh}{g c:Nat->Option Box}{w o:World}(h:Ext B k g w j c o){b i:Nat}{K l:Box->Prop}(p:mn g b i K)
  (q:∀f rN,g b=some f->c b=some rN->j.loc b=k.loc b->rN.buf=f.buf->rN.row=f.row->K f->l rN):mn c b i l:=by
 obtain⟨f,m,r,s⟩:=p;obtain⟨rN,n,t,u⟩:=h.boxes b f m;refine⟨rN,n,iz r t,λe=>?_⟩;have v:f.aI=i:=by omega
 obtain⟨x,y,z⟩:=u (by omega);exact q f rN m n x y z (s v)
theorem Eh.ext{w e:World}{I f:Nat->Nat->Prop}(g:∀b o,I b o->f b o)(i:∀b o,I b o->e.cell? ⟨b,o,none⟩=w.cell? ⟨b,o,none⟩){blk c:Nat}{cs:List Value}
  (h:Eh w I blk c cs):Eh e f blk c cs :=
 λj v k=>by obtain⟨a,b⟩:=h j v k;exact⟨by rw[i _ _ b];exact a,g _ _ b⟩
theorem b5.ext{B:qA}{M F:Gh}{G s:Nat->Option Box}{w O:World}(h:Ext B M G w F s O):∀{v:aK} {m:Mode} {vs:List Value},b5 M G w v m vs->b5 F s O v m vs:=by
 intro v;induction v with
 | undef=>intro m vs r;cases m<;>exact r
 | data t x =>
   intro m vs r;cases m with
   | cells=>exact bB.mono h.I h.cells r
   | val=>obtain⟨cs,g,j⟩:=r;exact⟨cs,bB.mono h.I h.cells g,j⟩
   | many=>exact r
 | nJ=>intro m vs r;cases m<;>exact r
 | dK=>intro m vs r;cases m<;>exact r
 | rL=>intro m vs r;cases m<;>exact r
 | vk b aI =>
   intro m vs r;cases m with
   | many=>exact r
   | cells=>exact⟨r.1,r.2.ext h λl rN _ _ c _ _ k=>by rw[c];exact k⟩
   | val=>exact⟨r.1,r.2.ext h λl rN _ _ c _ _ k=>by rw[c];exact k⟩
 | cell t x =>
   intro m vs r;cases m with
   | many=>exact r
   | cells=>obtain⟨blk,y,cs,g,j,z⟩:=r;exact⟨blk,y,cs,g,bB.mono h.I h.cells j,z.ext h.I h.cells⟩
   | val=>obtain⟨blk,y,cs,g,j,z⟩:=r;exact⟨blk,y,cs,g,bB.mono h.I h.cells j,z.ext h.I h.cells⟩
 | ptr b aI p =>
   intro m vs r;cases m with
   | many=>exact r
   | cells=>exact⟨r.1,r.2.ext h λl rN _ _ c _ _ k=>by rw[c];exact k⟩
   | val=>exact⟨r.1,r.2.ext h λl rN _ _ c _ _ k=>by rw[c];exact k⟩
 | whole b aI =>
   intro m vs r;cases m with
   | many=>exact r
   | cells=>exact⟨r.1,r.2.ext h λl rN _ _ c A C k=>by rw[c,A,C];exact k⟩
   | val=>exact⟨r.1,r.2.ext h λl rN _ _ c A C k=>by rw[c,A,C];exact k⟩
 | part b aI lo n =>
   intro m vs r;cases m with
   | many=>exact r
   | cells=>exact⟨r.1,r.2.ext h λl rN _ _ c A C k=>by unfold Eg at k⊢;rw[c,A,C];exact k⟩
   | val=>exact⟨r.1,r.2.ext h λl rN _ _ c A C k=>by unfold Eg at k⊢;rw[c,A,C];exact k⟩
 | win b aI q e k lo n =>
   intro m vs r;cases m with
   | many=>exact r
   | cells=>exact⟨r.1,r.2.ext h λl rN _ _ c _ _ k=>by rw[c];exact k⟩
   | val=>exact⟨r.1,r.2.ext h λl rN _ _ c _ _ k=>by rw[c];exact k⟩
 | fn f Q =>
   intro m vs r;cases m with
   | many=>exact r
   | cells=>obtain⟨o,g,j,z⟩:=r;exact⟨o,g,j,λi b aI L=>(z i b aI L).ext h λl rN _ _ c _ _ k=>by rw[c];exact k⟩
   | val=>obtain⟨o,g,j,z⟩:=r;exact⟨o,g,j,λi b aI L=>(z i b aI L).ext h λl rN _ _ c _ _ k=>by rw[c];exact k⟩
 | mix a b D E =>
   intro m vs r;cases m with
   | cells=>obtain⟨H,J,K,g,j⟩:=r;exact⟨H,J,K,D g,E j⟩
   | val=>obtain⟨H,J,K,g,j⟩:=r;exact⟨H,J,K,D g,E j⟩
   | many=>obtain⟨H,J,K,g,j⟩:=r;exact⟨H,J,K,D g,E j⟩
 | y7 u R =>
   intro m vs r;cases m with
   | val=>obtain⟨o,g,j⟩:=r;exact⟨o,g,R j⟩
   | cells=>exact r
   | many=>exact r
 | nl=>intro m vs r;cases m<;>exact r
def dX:Ty->List Value
 | .int k=>[.int k 0]
 | .bool=>[.bool false]
 | .str=>[.string ⟨#[]⟩]
 | .slice _=>[.slice none 0 0]
 | .arr n e=>(List.replicate n<|dX e).flatten
 | .pair a b=>dX a++dX b
 | .unit=>[]
 | .alt _ _ r=>dX r
 | .zH=>[.nilIface]
theorem dS(t:Ty):(dX t).length=t.size:=by
 induction t with
 | arr n e h=>simp[dX,Ty.size,h]
 | pair a b c f=>simp[dX,Ty.size,c,f]
 | alt u a r c g=>exact g
 | _=>rfl
theorem eN{b:Type}(l:List b):∀(n i:Nat),i<n->((List.replicate n l).flatten.drop<|i*l.length).take l.length=l
 | 0,i,h=>absurd h (by omega)
 | n+1,0,_=>by simp[aa9]
 | n+1,i+1,h=>by
   rw[aa9,abg,zQ,XR,<-vZ,BL];exact eN l n i (by omega)
theorem jS(w:World)(I:Nat->Nat->Prop):∀t:Ty,bB w I t t.zero (dX t):=by
 intro t;induction t with
 | int k=>exact⟨rfl,by cases k<;>decide,by cases k<;>decide⟩
 | bool=>rfl
 | str=>exact⟨rfl,pj _⟩
 | slice e j=>exact .inl ⟨⟨none,rfl⟩,rfl⟩
 | arr n e j =>
   refine⟨Sy,by rw[dS];rfl,λi x l=>?_⟩;have c:(List.replicate n e.zero)[i]?=some x:=l;rw[OY] at c;split at c
   .rename_i m;obtain rfl:e.zero=x:=by simpa using c
    have:=eN (dX e) n i m;rw[dS] at this;show bB w I e e.zero (((List.replicate n<|dX e).flatten.drop<|i*e.size).take e.size)
    rw[this];exact j
   .cases c
 | pair a b f g=>exact⟨_,_,rfl,f,g⟩
 | unit=>rfl
 | alt u a r f h=>exact h
 | zH=>rfl
def Qt:Value->Value->Bool
 | .int k n,.int c m=>Nat.beq (y6 k) (y6 c)&&decide (n=m)
 | .bool a,.bool b=>a==b
 | .string a,.string b=>decide (a.data.toList=b.data.toList)
 | .slice none 0 0,.slice none 0 0=>true
 | .pointer none,.pointer none=>true
 | .nilIface,.nilIface=>true
 | _,_=>false
theorem VC{a b:Value}(h:Qt a b=true):a=b:=by
 unfold Qt at h;split at h
 .simp only[dF,nI] at h;rw[xa h.1,h.2]
 .simpa using h
 .rename_i a b;obtain⟨⟨a⟩⟩:=a;obtain⟨⟨b⟩⟩:=b;have c:a=b:=by simpa using h
  rw[c]
 .rfl
 .rfl
 .rfl
 .cases h
def Ej:List Value->List Value->Bool
 | [],[]=>true
 | a::r,b::s=>Qt a b&&Ej r s
 | _,_=>false
theorem HI:∀{a b:List Value},Ej a b=true->a=b
 | [],[],_=>rfl
 | a::r,b::s,h=>by simp only[Ej,dF] at h;rw[VC h.1,HI h.2]
 | [],_::_,h=>by cases h
 | _::_,[],h=>by cases h
def B8(P:Program)(c:TypeId)(b:Nat)(e:List Value):Bool :=
 match P.info? c with
 | some i=>Nat.beq i.size b&&(match i.zero with|some z=>Ej z.cells.toList e|none=>false)
 | none=>false
theorem jt{P:Program}{c:TypeId}{b:Nat}{e:List Value}(h:B8 P c b e=true) :
  ∃i z,P.info? c=some i/\i.size=b/\i.zero=some z/\z.cells.toList=e:=by
 unfold B8 at h;split at h
 .rename_i i f;simp only[dF] at h;split at h
  .rename_i z g;exact⟨i,z,f,eT h.1,g,HI h.2⟩
  .cases h.2
 .cases h
def F3(P:Program)(b:TypeId):Bool :=
 match P.info? b with
 | some i=>Nat.ble i.bytes 32768
 | none=>false
def Ty.abN:Ty->Bool
 | .alt _ _ r=>r.abN
 | .zH=>true
 | _=>false
def ew(P:Program):Ty->Bool->TypeId->Nat->List Field->Bool
 | .int k,false,tid,_,_=>(match P.underlying tid with|some (.int g)=>Nat.beq (y6 k) (y6 g)|_=>false)&&B8 P tid 1 [.int k 0]
 | .bool,false,tid,_,_=>(match P.underlying tid with|some .bool=>true|_=>false)&&B8 P tid 1 [.bool false]
 | .str,false,tid,_,_=>(match P.underlying tid with|some .string=>true|_=>false)&&B8 P tid 1 [.string ⟨#[]⟩]
 | .slice e,false,tid,_,_=>(match P.underlying tid with|some (.slice c)=>ew P e false c 0 []&&F3 P c&&Nat.blt 0 e.size|_=>false)&&B8 P tid 1 [.slice none 0 0]
 | .arr n e,false,tid,_,_=>(match P.underlying tid with|some (.array m c)=>Nat.beq n m&&ew P e false c 0 []&&Nat.blt 0 e.size|_=>false)&&B8 P tid (n*e.size) (dX<|.arr n e)&&!P.eqGuardType P.depth tid
 | .pair a b,false,tid,_,_=>(match P.underlying tid with
  | some (.struct h)=>(match h.toList with
    | f::r=>Nat.beq f.offset 0&&decide (f.name ≠ "_")&&ew P a false f.type 0 []&&Nat.blt 0 a.size&&ew P b true 0 a.size r
    | []=>false)
  | _=>false)&&B8 P tid (a.size+b.size) (dX<|.pair a b)&&!P.eqGuardType P.depth tid&&!P.stoodInHeld tid
 | .unit,false,tid,_,_=>false
 | .alt u _ r,false,tid,_,_=>ew P r false tid 0 []&&P.concrete u&&r.abN
 | .zH,false,tid,_,_=>(match P.underlying tid with|some (.interface _)=>true|_=>false)&&B8 P tid 1 [.nilIface]
 | .pair a b,true,_,off,f::r=>Nat.beq f.offset off&&decide (f.name ≠ "_")&&ew P a false f.type 0 []&&Nat.blt 0 a.size&&ew P b true 0 (off+a.size) r
 | .unit,true,_,_,[]=>true
 | _,_,_,_,_=>false
def Den(P:Program)(t:Ty)(b:TypeId):Prop:=ew P t false b 0 []=true
def pq(P:Program)(t:Ty)(off:Nat)(b:List Field):Prop:=ew P t true 0 off b=true
section
variable {P:Program} {tid:TypeId}
theorem Den.int{k:IntKind}(h:Den P (.int k) tid):P.underlying tid=some (.int k):=by
 simp only[Den,ew,dF] at h;have b:=h.1;split at b
 .rename_i e c;rw[c,xa b]
 .cases b
theorem Den.bool(h:Den P .bool tid):P.underlying tid=some .bool:=by
 simp only[Den,ew,dF] at h;have b:=h.1;split at b
 .rename_i c;rw[c]
 .cases b
theorem Den.str(h:Den P .str tid):P.underlying tid=some .string:=by
 simp only[Den,ew,dF] at h;have b:=h.1;split at b
 .rename_i c;rw[c]
 .cases b
theorem Den.slice{e:Ty}(h:Den P (.slice e) tid):∃b,P.underlying tid=some (.slice b)/\Den P e b/\F3 P b=true/\0<e.size:=by
 simp only[Den,ew,dF] at h;have c:=h.1;split at c
 .rename_i b f;simp only[dF] at c;exact⟨b,f,c.1.1,c.1.2,by simpa using c.2⟩
 .cases c
theorem Den.arr{n:Nat}{e:Ty}(h:Den P (.arr n e) tid):∃b,P.underlying tid=some (.array n b)/\Den P e b/\0<e.size:=by
 simp only[Den,ew,dF] at h;have c:=h.1.1;split at c
 .rename_i m b f;simp only[dF] at c;rw[eT c.1.1];exact⟨b,f,c.1.2,by simpa using c.2⟩
 .cases c
theorem Den.ahd{n:Nat}{e:Ty}(h:Den P (.arr n e) tid):P.eqGuardType P.depth tid=false:=by
 simp only[Den,ew,dF,kS] at h;exact h.2
theorem Den.pair{a b:Ty}(h:Den P (.pair a b) tid):∃e,P.underlying tid=some (.struct e)/\pq P (.pair a b) 0 e.toList/\P.eqGuardType P.depth tid=false/\P.stoodInHeld tid=false:=by
 simp only[Den,ew,dF] at h;obtain⟨⟨⟨c,l⟩,g⟩,i⟩:=h;split at c
 .rename_i e j;refine⟨e,j,?_,by simpa using g,by simpa using i⟩;split at c
  .rename_i f r k;simp only[pq,k,ew,pv];exact c
  .cases c
 .cases c
theorem Den.info{t:Ty}(h:Den P t tid):∃i z,P.info? tid=some i/\i.size=t.size/\i.zero=some z/\z.cells.toList=dX t:=by
 induction t with
 | int k=>simp only[Den,ew,dF] at h;exact jt h.2
 | bool=>simp only[Den,ew,dF] at h;exact jt h.2
 | str=>simp only[Den,ew,dF] at h;exact jt h.2
 | slice e=>simp only[Den,ew,dF] at h;exact jt h.2
 | arr n e=>simp only[Den,ew,dF] at h;exact jt h.1.2
 | pair a b=>simp only[Den,ew,dF] at h;exact jt h.1.1.2
 | unit=>simp[Den,ew] at h
 | alt u a r f c=>simp only[Den,ew,dF] at h;exact c h.1.1
 | zH=>simp only[Den,ew,dF] at h;exact jt h.2
theorem Den.zH(h:Den P .zH tid):∃c,P.underlying tid=some (.interface c):=by
 simp only[Den,ew,dF] at h;have b:=h.1;split at b
 .exact⟨_,by assumption⟩
 .cases b
theorem Den.rest{u:Nat}{a r:Ty}(h:Den P (.alt u a r) tid):Den P r tid/\P.concrete u=true:=by
 simp only[Den,ew,dF] at h;exact h.1
theorem Ty.KF:∀{t:Ty},t.abN=true->t.size=1/\t.isAgg=false:=by
 intro t;induction t with
 | alt u a r c b=>intro h;exact b h
 | zH=>intro h;exact⟨rfl,rfl⟩
 | _=>intro h;cases h
theorem Den.abO{u:Nat}{a r:Ty}(_:Den P r tid)(h:Den P (.alt u a r) tid):r.size=1:=by
 simp only[Den,ew,dF] at h;exact(Ty.KF h.2).1
theorem Den.agg{t:Ty}(h:Den P t tid)(w:World):(isAgg tid).run P w=.ok t.isAgg w:=by
 induction t with
 | alt u a r f g=>exact g h.rest.1
 | zH=>obtain⟨_,c⟩:=h.zH;unfold Go.isAgg;simp[run_underlying c,Ty.isAgg]
 | int k=>unfold Go.isAgg;simp[run_underlying h.int,Ty.isAgg]
 | bool=>unfold Go.isAgg;simp[run_underlying h.bool,Ty.isAgg]
 | str=>unfold Go.isAgg;simp[run_underlying h.str,Ty.isAgg]
 | slice e i=>unfold Go.isAgg;obtain⟨_,c,_⟩:=h.slice;simp[run_underlying c,Ty.isAgg]
 | arr n e i=>unfold Go.isAgg;obtain⟨_,c,_⟩:=h.arr;simp[run_underlying c,Ty.isAgg]
 | pair a b f j=>unfold Go.isAgg;obtain⟨_,c,_⟩:=h.pair;simp[run_underlying c,Ty.isAgg]
 | unit=>simp[Den,ew] at h
theorem Den.sizeOf{t:Ty}(h:Den P t tid)(w:World):(Go.sizeOf tid).run P w=.ok t.size w:=by
 obtain⟨i,z,b,c,_⟩:=h.info;simp[Go.sizeOf,typeInfo,b,c]
theorem Den.zero{t:Ty}(h:Den P t tid)(w:World):∃z,(zeroValue tid).run P w=.ok z w/\z.cells.toList=dX t:=by
 obtain⟨i,z,b,f,c,e⟩:=h.info;exact⟨z,by simp[zeroValue,typeInfo,b,c],e⟩
theorem Den.cells{t:Ty}(h:Den P t tid):P.cellsOf tid=t.size:=by
 obtain⟨i,z,b,c,_⟩:=h.info;simp[Program.cellsOf,b,c]
theorem pq.cons{a b:Ty}{off:Nat}{c:List Field}(h:pq P (.pair a b) off c) :
  ∃f r,c=f::r/\f.offset=off/\f.name ≠ "_"/\Den P a f.type/\0<a.size/\pq P b (off+a.size) r:=by
 cases c with
 | nil=>simp[pq,ew] at h
 | cons f r =>
   simp only[pq,ew,dF] at h;obtain⟨⟨⟨⟨e,g⟩,i⟩,j⟩,k⟩:=h;exact⟨f,r,rfl,eT e,by simpa using g,i,by simpa using j,k⟩
theorem pq.at{t:Ty}:∀{off:Nat} {g:List Field} {k:Nat} {u:Ty} {o:Nat},pq P t off g->rM t k=some u->jr t k=some o ->
  ∃f,g[k]?=some f/\f.offset=off+o/\Den P u f.type/\0<u.size:=by
 induction t with
 | pair a b l i =>
   intro off g k u o h e c;obtain⟨f,r,rfl,y,z,m,n,p⟩:=h.cons;cases k with
   | zero =>
     simp only[rM,jr,su] at e c;subst e c;exact⟨f,rfl,by omega,m,n⟩
   | succ k =>
     simp only[rM,jr] at e c;cases j:jr b k with
     | none=>rw[j] at c;cases c
     | some A =>
       rw[j] at c;simp only[FT,su] at c;obtain⟨q,s,C,v,x⟩:=i p e j;exact⟨q,by simpa using s,by omega,v,x⟩
 | _=>intro off g k u o h e c;cases k<;>simp[rM] at e
end
def mR.cells:mR->List Value
 | .zL t=>dX t
 | .buf _ _=>[.slice none 0 0]
 | _=>[.pointer none]
def KG:List mR->List Value
 | []=>[]
 | f::r=>f.cells++KG r
def afF:List mR->Nat
 | []=>0
 | f::r=>f.size+afF r
def Pe(P:Program):Nat->List mR->List Field->Bool
 | _,[],[]=>true
 | off,f::r,g::s=>Nat.beq g.offset off&&Nat.blt 0 f.size&&(match P.info? g.type with|some i=>Nat.beq i.size f.size|none=>false)&&Pe P (off+f.size) r s
 | _,_,_=>false
def KH(P:Program)(b:TypeId)(c:List mR):Bool :=
 (match P.underlying b with|some (.struct gs)=>Pe P 0 c gs.toList|_=>false)&&B8 P b (afF c) (KG c)
theorem Za{P:Program}{b:TypeId}{c:List mR}(h:KH P b c=true)(w:World):∃z,(zeroValue b).run P w=.ok z w/\z.cells.toList=KG c:=by
 simp only[KH,dF] at h;obtain⟨i,z,e,j,f,g⟩:=jt h.2;exact⟨z,by simp[zeroValue,typeInfo,e,f],g⟩
theorem abP{P:Program}:∀{c:List mR} {gs:List Field} {off k o:Nat},Pe P off c gs=true->yc c k=some o->∃f i,gs[k]?=some f/\f.offset=off+o/\P.info? f.type=some i/\0<i.size:=by
 intro c;induction c with
 | nil=>intro gs off k o h b;cases b
 | cons f r l =>
   intro gs off k o h b;cases gs with
   | nil=>cases h
   | cons g s =>
     simp only[Pe,dF] at h;obtain⟨⟨⟨m,n⟩,e⟩,p⟩:=h;cases k with
     | zero =>
       obtain rfl:=aE b;split at e
       .rename_i i q;have t:=eT e;have u:0<f.size:=by simpa using n
        exact⟨g,i,rfl,by rw[eT m];rfl,q,by omega⟩
       .cases e
     | succ k =>
       simp only[yc] at b;split at b
       .rename_i A j;obtain rfl:=aE b;obtain⟨v,i,x,C,y,z⟩:=l p j;exact⟨v,i,x,by omega,y,z⟩
       .cases b
theorem ad7{P:Program}{b:TypeId}{e:List mR}{k o:Nat}(h:KH P b e=true)(g:yc e k=some o):∃(gs:Array Field) (f:Field) (i:TypeInfo),P.underlying b=some (.struct gs)/\gs.toList[k]?=some f/\f.offset=o/\P.info? f.type=some i/\0<i.size:=by
 simp only[KH,dF] at h;obtain⟨c,_⟩:=h;split at c
 .rename_i gs j;obtain⟨f,i,l,p,m,n⟩:=abP c g;exact⟨gs,f,i,j,l,by omega,m,n⟩
 .cases c
theorem Ek{P:Program}:∀{b:List mR} {gs:List Field} {off:Nat},Pe P off b gs=true->∃e:List (Nat×Nat),gs.mapM (λf=>(P.info? f.type).map λi=>(f.offset,i.size))=some e /\
  ∀k o f,yc b k=some o->b[k]?=some f->e[k]?=some (off+o,f.size):=by
 intro b;induction b with
 | nil =>
   intro gs off h;cases gs with
   | nil=>exact⟨[],rfl,λk o f _ n=>by cases n⟩
   | cons g s=>cases h
 | cons f r p =>
   intro gs off h;cases gs with
   | nil=>cases h
   | cons g s =>
     simp only[Pe,dF] at h;obtain⟨⟨⟨t,A⟩,j⟩,u⟩:=h;obtain⟨e,v,x⟩:=p u;split at j
     .rename_i i y;refine⟨(g.offset,i.size)::e,by simp[y,v],λk o q c m=>?_⟩;cases k with
      | zero =>
        obtain rfl:=aE c;obtain rfl:=aE m;rw[aa1,eT t,eT j];rfl
      | succ k =>
        simp only[yc] at c;split at c
        .rename_i z l;obtain rfl:=aE c;have:=x k z q l (by simpa using m);rw[aa2,this,x8]
        .cases c
     .cases j
structure eS (P:Program) (cx:Ctx):Prop where
 T:∀tid t,find cx.T tid=some t->Den P t tid
 qx:∀tid,cK cx.qx tid=true->(∀w,(isAgg tid).run P w=.ok false w)/\(∀w,(Go.sizeOf tid).run P w=.ok 1 w)/\∃z,(∀w,(zeroValue tid).run P w=.ok z w)/\z.oneCell'=true
 kT:∀tid,cK cx.kT tid=true->∃e,P.underlying tid=some (.pointer e)
 fns:∀f fn,find cx.fns f=some fn->P.funcs[f]?=some fn
 sx:∀tid fs,find cx.sx tid=some fs->KH P tid fs=true
 XW:∀tid e,find cx.XW tid=some e->P.underlying tid=some (.slice e)
theorem iH{o:Option Ty}{t:Ty}(h:FW o t=true):o=some t:=by
 unfold FW at h;split at h
 .rw[Ty.eq_of_beq h]
 .cases h
theorem addr_add(b o n:Nat):Addr.add ⟨b,o,none⟩ n=⟨b,o+n,none⟩:=by
 unfold Addr.add;split<;>simp_all
def aQ(l:List Value)(b:Nat)(c:List Value):List Value:=l.take b++c++l.drop (b+c.length)
theorem bH{l c:List Value}{b:Nat}(h:b+c.length<=l.length):(aQ l b c).length=l.length:=by
 simp[aQ];omega
theorem lU.same{cur b:Array Value}{c:Nat×Nat}(h:lU cur c)(e:b.size=cur.size):lU b c:=λo f=>h o (by omega)
section
variable {P:Program}
theorem ThB.same{e:Ty}{cur b:Array Value}{c:Nat×Nat}(h:ThB e cur c)(f:b.size=cur.size):ThB e b c:=⟨h.th.same f,λg=>by rw[f];exact h.um g⟩
theorem cS(g o:Nat)(t:TypeId)(f:Nat×Nat):∀(vs:List Value) (i:Nat) (cur:Array Value) (w:World),w.heap[g]?=some (.cells cur t f)->lU cur f ->
  o+i+vs.length<=cur.size->(∀v∈vs,v.oneCell'=true)->(storeCells ⟨g,o,none⟩ vs i).run P w=.ok () (w.setRow g (aQ cur.toList (o+i) vs).toArray)
 | [],i,cur,w,h,_,_,_=>by
   simp only[storeCells,aQ,wX,gi,v7,x6,Array.toArray_toList];rw[setRow_self w g cur t f h];rfl
 | v::rest,i,cur,w,h,j,l,n=>by
   have hi:o+i<cur.size:=by simp at l;omega
   have c:w.cell? ⟨g,o+i,none⟩=some cur[o+i]:=by simp[World.cell?,h,hi]
   have k:w.frozen? ⟨g,o+i,none⟩=false:=by
    have:=j (o+i) hi;simp only[World.frozen?,h];obtain⟨a,b⟩:=f;simp only[Bool.and_eq_false_iff,Vu];simp only at this;omega
   have m:(store ((⟨g,o,none⟩:Addr).add i) v).run P w=.ok () (w.setRow g<|cur.setIfInBounds (o+i) v):=by
    rw[addr_add,run_store P w _ v _ (n v<|by simp),c];simp[k,setCell_eq_setRow w g (o+i) cur t f v h]
   have p:=cS g o t f rest (i+1) (cur.setIfInBounds (o+i) v) (w.setRow g<|cur.setIfInBounds (o+i) v) (setRow_heap w g cur _ t _ h) (j.same<|by simp) (by simp at l⊢;omega) (λx q=>n x (by simp[q]));simp only[storeCells,Sem.run_bind,m,Result.andThen_ok,p,setRow_setRow]
   congr 3
   have e:=list_seg_step cur.toList (o+i) v rest (by simp at l⊢;omega);simpa [aQ,afp,x8] using e
theorem cell_of_heap{w:World}{g:Nat}{cur:Array Value}{t:TypeId}{b:Nat×Nat}(c:w.heap[g]?=some (.cells cur t b))(j:Nat):w.cell? ⟨g,j,none⟩=cur[j]?:=by
 simp[World.cell?,c]
theorem BM{w:World}{g b n:Nat}{c:Array Value}{t:TypeId}{f:Nat×Nat}(i:w.heap[g]?=some (.cells c t f))(h:b+n<=c.size) :
  (loadCells ⟨g,b,none⟩ n).run P w=.ok ((c.toList.drop b).take n).toArray w:=by
 have k:((c.toList.drop b).take n).length=n:=by simp;omega
 have:=run_loadCells_list (P:=P) w ⟨g,b,none⟩ ((c.toList.drop b).take n) (λj v e=>by
  rw[addr_add,cell_of_heap i];rw[gm] at e;split at e
  .rw[l9] at e;simpa using e
  .cases e)
 rwa [k] at this
theorem F4{w:World}{I:Nat->Nat->Prop}{g b:Nat}{c:List Value}(h:Eh w I g b c):(loadCells ⟨g,b,none⟩ c.length).run P w=.ok c.toArray w :=
 run_loadCells_list (P:=P) w ⟨g,b,none⟩ c (λj v e=>by rw[addr_add];exact(h j v e).1)
end
theorem iF{a b:Nat}(h:a≠b):Nat.beq a b=false:=by
 cases c:Nat.beq a b
 .rfl
 .exact absurd (eT c) h
theorem abQ(a:Act)(d t:Nat)(v:Value)(b:d<a.tmps.size):(a.put (some d) v).tmps.getD t undef=if t=d then v else a.tmps.getD t undef:=by
 simp only[Act.put,Vs,aaW];by_cases h:d=t
 .subst h;simp[b]
 .rw[bb h,bb λe=>h e.symm]
theorem SZ(a:Act)(d:Option Nat)(v:Value):(a.put d v).tmps.size=a.tmps.size:=by cases d<;>simp[Act.put]
theorem put_defers(a:Act)(d:Option Nat)(v:Value):(a.put d v).defers=a.defers:=by cases d<;>rfl
section
variable {B:qA} {N:Nat} {γ bG:Gh} {σ:St} {a:Act} {w w':World} {dP:Nat->Option Box}
theorem cQ.step(h:cQ B N γ σ a w)(b:Ext B γ σ.mem w bG dP w')(c:bu B bG dP w'){d:Nat}(f:d<N){v:aK}{val:Value}(g:b5 bG dP w' v .val [val]) :
  cQ B N bG ({ slots:=σ.slots,mem:=dP:St }.put d v) (a.put (some d) val) w' where
 slots:=λt=>by
  rw[abQ a d t val<|by rw[h.size];exact f];simp only[St.put];by_cases e:t=d
  .subst e;simpa using g
  .rw[bb e,iF e];exact(h.slots t).ext b
 size:=by rw[SZ];exact h.size
 defers:=by rw[put_defers];exact h.defers
 ok:=c
theorem cQ.go(h:cQ B N γ σ a w)(b:Ext B γ σ.mem w bG dP w')(c:bu B bG dP w'):cQ B N bG { slots:=σ.slots,mem:=dP } a w' where
 slots:=λt=>(h.slots t).ext b
 size:=h.size
 defers:=h.defers
 ok:=c
theorem cQ.aS(h:cQ B N γ σ a w)(b:Ext B γ σ.mem w bG dP w')(c:bu B bG dP w'){d:Option Nat}(e:∀k,d=some k->k<N){v:aK}{val:Value}(f:b5 bG dP w' v .val [val]) :
  cQ B N bG ({ slots:=σ.slots,mem:=dP:St }.aS d v) (a.put d val) w':=by
 cases d with
 | none=>exact h.go b c
 | some d=>exact h.step b c (e d rfl) f
theorem cQ.uo(h:cQ B N γ σ a w){d:Option Nat}(b:∀k,d=some k->k<N){v:aK}{val:Value}(c:b5 γ σ.mem w v .val [val]) :
 cQ B N γ (σ.aS d v) (a.put d val) w:=h.aS (Ext.refl _ _ _ _) h.ok b c
end
theorem dY{γ:Gh}{b:Nat->Option Box}{w:World}{t:Ty}{x:t.den}{v:Value}:b5 γ b w (.data t x) .val [v]↔∃cs,bB w γ.I t x cs/\v=bW t cs:=by
 simp only[b5,O7,and_true]
theorem Zb(f:Gh)(e:Nat->Option Box)(w:World)(v:Value):b5 f e w (Ku v) .val [v]:=by
 unfold Ku;split
 .rename_i k n;cases c:(decide (k.min<=n)&&decide (n<=k.max))
  .exact⟨_,rfl⟩
  .simp only[dF,nI] at c;exact⟨[.int k n],⟨rfl,c.1,c.2⟩,rfl⟩
 .rename_i b;exact⟨[.bool b],rfl,rfl⟩
 .rename_i s;cases c:Nat.ble s.data.toList.length 4294967296
  .exact⟨_,rfl⟩
  .refine⟨[.string s],⟨?_,?_⟩,rfl⟩
   .obtain⟨⟨l⟩⟩:=s;rfl
   .have:=CO c;simp only[maxLen];omega
 .rfl
 .rfl
 .rfl
 .exact⟨_,rfl⟩
theorem cQ.cp{B:qA}{N:Nat}{e:Gh}{c:St}{a:Act}{w:World}(h:cQ B N e c a w)(x:Operand):b5 e c.mem w (cp c x) .val [a.eval x]:=by
 cases x with
 | tmp t=>exact h.slots t
 | const v=>exact Zb _ _ _ v
 | global g=>exact⟨_,rfl⟩
 | func f =>
   show b5 e c.mem w (bif Nat.blt f 10000000 then .fn f [] else .undef) .val _
   cases j:Nat.blt f 10000000 with
   | false=>exact⟨_,rfl⟩
   | true=>exact⟨#[],by unfold xe;rw[j];rfl,rfl,λi b aI k=>by simp at k⟩
theorem HJ(f:Nat)(b:Array Value):(xe f b).cells.toList=[xe f b]:=by
 simp only[xe];cases Nat.blt f 10000000<;>rfl
theorem b5.kE{K:Gh}{F:Nat->Option Box}{w:World}{v:aK}{x:Value}(h:b5 K F w v .val [x])(O:∀u,v≠.y7 u)(L:v=.undef->x.oneCell'=true):b5 K F w v .cells x.cells.toList:=by
 cases v with
 | undef=>exact⟨x,by cases x<;>first|rfl|(have:=L rfl;simp[Value.oneCell'] at this),L rfl⟩
 | data t y=>obtain⟨cs,g,i⟩:=dY.1 h;subst i;show bB _ _ _ _ _;rw[qW g];exact g
 | nJ=>obtain rfl:x=_:=by simpa [b5] using h
       rfl
 | dK=>obtain rfl:x=_:=by simpa [b5] using h
       rfl
 | rL=>obtain rfl:x=_:=by simpa [b5] using h
       rfl
 | vk b aI=>obtain⟨⟨v,g,i⟩,o⟩:=h;simp at g;subst g;refine⟨⟨x,?_,i⟩,?_⟩
            .cases x<;>first|rfl|(simp[Value.oneCell'] at i)
            .obtain⟨bx,s,z,A⟩:=o;exact⟨bx,s,z,λe=>by
              obtain⟨m,j,C,l⟩:=A e;refine⟨m,j,C,?_⟩;rcases l with l|l
              .simp at l;subst l;exact .inl rfl
              .simp at l;subst l;exact .inr rfl⟩
 | cell t y=>obtain⟨m,I,cs,g,i,o⟩:=h;simp at g;subst g;exact⟨m,I,cs,rfl,i,o⟩
 | ptr b aI p=>obtain⟨⟨v,g,i⟩,o⟩:=h;simp at g;subst g;refine⟨⟨x,?_,i⟩,?_⟩
               .cases x<;>first|rfl|(simp[Value.oneCell'] at i)
               .obtain⟨bx,s,z,A⟩:=o;exact⟨bx,s,z,λe=>by obtain⟨m,j,C,l⟩:=A e;simp at l;subst l;exact⟨m,j,C,rfl⟩⟩
 | whole b aI=>obtain⟨⟨v,g,i⟩,o⟩:=h;simp at g;subst g;refine⟨⟨x,?_,i⟩,?_⟩
               .cases x<;>first|rfl|(simp[Value.oneCell'] at i)
               .obtain⟨bx,s,z,A⟩:=o;exact⟨bx,s,z,λe=>by
                 obtain⟨u,n,C,l,D⟩:=A e;refine⟨u,n,C,l,?_⟩;rcases D with ⟨D,E⟩|⟨m,j,D,E⟩
                 .simp at E;subst E;exact .inl ⟨D,rfl⟩
                 .simp at E;subst E;exact .inr ⟨m,j,D,rfl⟩⟩
 | part b aI lo n=>obtain⟨⟨v,g,i⟩,o⟩:=h;simp at g;subst g;refine⟨⟨x,?_,i⟩,?_⟩
                   .cases x<;>first|rfl|(simp[Value.oneCell'] at i)
                   .obtain⟨bx,s,z,A⟩:=o;exact⟨bx,s,z,λe=>by
                     obtain⟨u,k,C,l,D,E,r,j,G,J⟩:=A e;simp at G;subst G;exact⟨u,k,C,l,D,E,r,j,rfl,J⟩⟩
 | win b aI q e k lo n=>obtain⟨⟨v,g,i⟩,o⟩:=h;simp at g;subst g;refine⟨⟨x,?_,i⟩,?_⟩
                        .cases x<;>first|rfl|(simp[Value.oneCell'] at i)
                        .obtain⟨bx,s,z,A⟩:=o;exact⟨bx,s,z,λe=>by
                          obtain⟨Q,u,c,C,l,D,E,r,j,G,J⟩:=A e;simp at G;subst G;exact⟨Q,u,c,C,l,D,E,r,j,rfl,J⟩⟩
 | fn f M=>obtain⟨H,g,i⟩:=h;simp at g;subst g;exact⟨H,HJ f H,i⟩
 | mix p q=>obtain⟨R,S,g,i,o⟩:=h;simp at g;subst g;exact⟨R,S,by simp[Value.cells],i,o⟩
 | y7 u=>exact absurd rfl (O u)
 | nl=>exact h.elim
theorem b5.length{γ:Gh}{mem:Nat->Option Box}{w:World}:∀{v:aK} {cs:List Value},b5 γ mem w v .cells cs->cs.length=da v:=by
 intro v;induction v with
 | data t x=>intro cs h;exact bB.length h
 | mix a b c g=>intro cs h;obtain⟨m,o,rfl,j,l⟩:=h;rw[iP,c j,g l];rfl
 | undef=>intro cs h;obtain⟨v,rfl,_⟩:=h;rfl
 | nJ=>intro cs h;rw[show cs=_ from h];rfl
 | dK=>intro cs h;rw[show cs=_ from h];rfl
 | rL=>intro cs h;rw[show cs=_ from h];rfl
 | vk b aI=>intro cs h;obtain⟨⟨_,rfl,_⟩,_⟩:=h;rfl
 | cell t x=>intro cs h;obtain⟨_,_,_,rfl,_⟩:=h;rfl
 | ptr b aI p=>intro cs h;obtain⟨⟨_,rfl,_⟩,_⟩:=h;rfl
 | whole b aI=>intro cs h;obtain⟨⟨_,rfl,_⟩,_⟩:=h;rfl
 | part b aI lo n=>intro cs h;obtain⟨⟨_,rfl,_⟩,_⟩:=h;rfl
 | win b aI q e k lo n=>intro cs h;obtain⟨⟨_,rfl,_⟩,_⟩:=h;rfl
 | fn f i=>intro cs h;obtain⟨_,rfl,_⟩:=h;simp only[xe];cases Nat.blt f 10000000<;>rfl
 | y7 u r=>intro cs h;exact h.elim
 | nl=>intro cs h;exact h.elim
theorem b5.one{r:Gh}{j:Nat->Option Box}{w:World}:∀{v:aK} {cs:List Value},b5 r j w v .cells cs->∀c∈cs,c.oneCell'=true:=by
 intro v;induction v with
 | data t x=>intro cs h;exact bB.one h
 | mix a b l m =>
   intro cs h c g;obtain⟨y,z,rfl,i,s⟩:=h;rcases sv.1 g with g|g
   .exact l i c g
   .exact m s c g
 | undef=>intro cs h c g;obtain⟨v,rfl,i⟩:=h;simp at g;subst g;exact i
 | nJ=>intro cs h c g;rw[show cs=_ from h] at g;simp at g;subst g;rfl
 | dK=>intro cs h c g;rw[show cs=_ from h] at g;simp at g;subst g;rfl
 | rL=>intro cs h c g;rw[show cs=_ from h] at g;simp at g;subst g;rfl
 | vk b aI=>intro cs h c g;obtain⟨⟨_,rfl,i⟩,_⟩:=h;simp at g;subst g;exact i
 | cell t x=>intro cs h c g;obtain⟨_,_,_,rfl,_⟩:=h;simp at g;subst g;rfl
 | ptr b aI p=>intro cs h c g;obtain⟨⟨_,rfl,i⟩,_⟩:=h;simp at g;subst g;exact i
 | whole b aI=>intro cs h c g;obtain⟨⟨_,rfl,i⟩,_⟩:=h;simp at g;subst g;exact i
 | part b aI lo n=>intro cs h c g;obtain⟨⟨_,rfl,i⟩,_⟩:=h;simp at g;subst g;exact i
 | win b aI q e k lo n=>intro cs h c g;obtain⟨⟨_,rfl,i⟩,_⟩:=h;simp at g;subst g;exact i
 | fn f o=>intro cs h c g;obtain⟨_,rfl,_⟩:=h;simp at g;subst g;simp only[xe];cases Nat.blt f 10000000<;>rfl
 | y7 u A=>intro cs h;exact h.elim
 | nl=>intro cs h;exact h.elim
theorem rO{α:Type}{l:List α}{i:Int}{x:α}(h:idx l i=some x):0<=i/\l[i.toNat]?=some x:=by
 unfold idx at h;split at h
 .rename_i b;exact⟨b,h⟩
 .cases h
theorem CY{w:World}{I:Nat->Nat->Prop}:∀{t:Ty} {x:t.den} {cs:List Value} {k o:Nat} {u:aK},bB w I t x cs->oD t x k=some (o,u) ->
  ∃(e:Ty) (y:e.den),u=.data e y/\rM t k=some e/\jr t k=some o/\o+e.size<=cs.length/\bB w I e y ((cs.drop o).take e.size):=by
 intro t;induction t with
 | pair a b j g =>
   intro x cs k o u h c;obtain⟨s,v,rfl,f,l⟩:=h;cases k with
   | zero =>
     simp only[oD,su,D0] at c;obtain⟨rfl,rfl⟩:=c;refine⟨a,x.1,rfl,rfl,rfl,by rw[iP,f.length];omega,?_⟩;rw[CT,<-f.length,Kp];exact f
   | succ k =>
     simp only[oD] at c;cases i:oD b x.2 k with
     | none=>rw[i] at c;cases c
     | some r =>
       rw[i] at c;simp only[su,D0] at c;obtain⟨rfl,rfl⟩:=c;obtain⟨e,y,m,n,p,z,q⟩:=g l (show oD b x.2 k=some (r.1,r.2) from i);refine⟨e,y,m,n,by simp[jr,p],by rw[iP,f.length];omega,?_⟩;rw[<-f.length,<-vZ,BL];exact q
 | _=>intro x cs k o u h c;cases k<;>simp[oD] at c
theorem F5{l:Gh}{f:Nat->Option Box}{w:World}:∀{v:aK} {cs:List Value} {k o:Nat} {u:aK},b5 l f w v .cells cs->mi v k=some (o,u) ->
  o+da u<=cs.length/\b5 l f w u .cells ((cs.drop o).take<|da u):=by
 intro v;induction v with
 | data t x =>
   intro cs k o u h c;obtain⟨p,y,rfl,_,_,e,g⟩:=CY (w:=w) h c;exact⟨e,g⟩
 | mix a b m i =>
   intro cs k o u h c;obtain⟨q,s,rfl,e,g⟩:=h;cases k with
   | zero =>
     simp only[mi,su,D0] at c;obtain⟨rfl,rfl⟩:=c;refine⟨by rw[iP,e.length];omega,?_⟩;rw[CT,<-e.length,Kp];exact e
   | succ k =>
     simp only[mi] at c;cases j:mi b k with
     | none=>rw[j] at c;cases c
     | some r =>
       rw[j] at c;simp only[su,D0] at c;obtain⟨rfl,rfl⟩:=c;obtain⟨z,n⟩:=i g (show mi b k=some (r.1,r.2) from j);refine⟨by rw[iP,e.length];omega,?_⟩;rw[<-e.length,<-vZ,BL];exact n
 | _=>intro cs k o u h c;cases k<;>simp[mi] at c
theorem JR{c:Gh}{b:Nat->Option Box}{w:World}{t:Ty}{v:aK}{z:t.den}{f:List Value}(h:toS t v=some z)(g:b5 c b w v .cells f):bB w c.I t z f:=by
 cases v with
 | data u y =>
   obtain⟨e,i⟩:=Ty.kz (show Ty.to u t y=some z from h);subst e;subst i;exact g
 | _=>cases h
theorem bind_some{α b:Type}{t:Tree α}{f:α->Tree b}{y:b}(h:(t.bind f).run=some y):∃x,t.run=some x/\(f x).run=some y:=by
 rw[Tree.run_bind] at h;exact zM.1 h
theorem bX{T α:Type}{o:Option T}{k:T->Tree α}{y:α}(h:(Tree.look o k).run=some y):∃x,o=some x/\(k x).run=some y:=by
 cases o with
 | none=>cases h
 | some x=>exact⟨x,rfl,h⟩
theorem ck{α:Type}{c:Bool}{t:Tree α}{y:α}(h:(Tree.need c t).run=some y):c=true/\t.run=some y:=by
 cases c with
 | false=>cases h
 | true=>exact⟨rfl,h⟩
theorem aw{α:Type}{c:Bool}{t:Tree α}{y:α}(h:(bif c then t else .fail).run=some y):c=true/\t.run=some y:=by
 cases c with
 | false=>cases h
 | true=>exact⟨rfl,h⟩
theorem fP{b:Type}{c:Bool}{t e:Tree b}{y:b}(h:(Tree.node c t e).run=some y):(bif c then t else e).run=some y:=by
 cases c<;>exact h
section
variable {γ:Gh} {mem:Nat->Option Box} {w:World}
theorem S0:∀{t:Ty} {x:t.den} {cs:List Value} {k o:Nat} {u:aK} {y:t.den} {f:aK->Tree aK} {es:List Value},
  bB w γ.I t x cs->oD t x k=some (o,u)->(∀v,(f u).run=some v->b5 γ mem w v .cells es)->(JH t x k f).run=some y->es.length=da u ->
  bB w γ.I t y (aQ cs o es):=by
 intro t;induction t with
 | pair a b A i =>
   intro x cs k o u y f es h c n e j;obtain⟨p,q,rfl,l,s⟩:=h;cases k with
   | zero =>
     simp only[oD,su,D0] at c;obtain⟨rfl,rfl⟩:=c;obtain⟨v,m,e⟩:=bind_some e;have C:=n v m;cases hv:toS a v with
     | none=>rw[hv] at e;cases e
     | some z =>
       rw[hv] at e;obtain rfl:=aE e;simp only[da] at j;refine⟨es,q,?_,JR hv C,s⟩;simp only[aQ,Kq,wY,pv];rw[show es.length=p.length by rw[j,l.length],BL]
   | succ k =>
     simp only[oD] at c;cases g:oD b x.2 k with
     | none=>rw[g] at c;cases c
     | some r =>
       rw[g] at c;simp only[su,D0] at c;obtain⟨rfl,rfl⟩:=c;obtain⟨z,D,e⟩:=bind_some e;obtain rfl:=aE e;have:=i s (show oD b x.2 k=some (r.1,r.2) from g) n D j;refine⟨p,aQ q r.1 es,?_,l,this⟩;simp only[aQ,<-l.length,Xx,oC]
       congr 1;congr 1;congr 1
       rw[x8,<-vZ,BL]
 | _=>intro x cs k o u y f es h c;cases k<;>simp[oD] at c
theorem KI:∀{j:aK} {cs:List Value} {k o:Nat} {u c:aK} {f:aK->Tree aK} {es:List Value},
  b5 γ mem w j .cells cs->mi j k=some (o,u)->(∀v,(f u).run=some v->b5 γ mem w v .cells es)->(FU j k f).run=some c->es.length=da u ->
  b5 γ mem w c .cells (aQ cs o es):=by
 intro j;induction j with
 | data t x =>
   intro cs k o u c f es h e l g m;obtain⟨y,D,g⟩:=bind_some g;obtain rfl:=aE g;exact S0 h e l D m
 | mix a b E n =>
   intro cs k o u c f es h e l g m;obtain⟨s,A,rfl,p,C⟩:=h;cases k with
   | zero =>
     simp only[mi,su,D0] at e;obtain⟨rfl,rfl⟩:=e;obtain⟨v,q,g⟩:=bind_some g;have F:=l v q;obtain rfl:=aE g;refine⟨es,A,?_,F,C⟩;simp only[aQ,Kq,wY,pv];rw[show es.length=s.length by rw[m,p.length],BL]
   | succ k =>
     simp only[mi] at e;cases i:mi b k with
     | none=>rw[i] at e;cases e
     | some r =>
       rw[i] at e;simp only[su,D0] at e;obtain⟨rfl,rfl⟩:=e;obtain⟨z,G,g⟩:=bind_some g;obtain rfl:=aE g;have:=n C (show mi b k=some (r.1,r.2) from i) l G m;refine⟨s,aQ A r.1 es,?_,p,this⟩;simp only[aQ,<-p.length,Xx,oC]
       congr 1;congr 1;congr 1
       rw[x8,<-vZ,BL]
 | _=>intro cs k o u c f es h e;cases k<;>simp[mi] at e
theorem vm:∀{p:List CU} {v u:aK} {cs:List Value},b5 γ mem w v .cells cs->(Y3 p v).run=some u->cL p+da u<=cs.length/\b5 γ mem w u .cells ((cs.drop<|cL p).take<|da u):=by
 intro p;induction p with
 | nil =>
   intro v u cs h b;obtain rfl:=aE b;have f:=h.length;refine⟨by simp[cL];omega,?_⟩;rw[show cL []=0 from rfl,CT,<-f,Iw];exact h
 | cons s p A =>
   intro v u cs h b;cases s with
   | fD k off =>
     simp only[Y3] at b;cases o:mi v k with
     | none=>rw[o] at b;cases b
     | some r =>
       rw[o] at b;obtain⟨q,c⟩:=aw b;have g:=eT q;obtain⟨H,C⟩:=F5 h (show mi v k=some (r.1,r.2) from o);obtain⟨t,j⟩:=A C c;have f:=C.length;simp only[cL,<-g];rw[f] at t;refine⟨by omega,?_⟩;rw[XO,Kr,vZ,sw (by omega)] at j;exact j
   | idx i size =>
     simp only[Y3] at b;split at b
     .rename_i n e l;obtain⟨q,c⟩:=aw b;have y:=eT q;obtain⟨x,E,z⟩:=bX c;obtain⟨I,m⟩:=rO E;obtain⟨J,K,F⟩:=h;have D:=F _ x m;obtain⟨t,j⟩:=A (v:=.data e x) (show b5 γ mem w (.data e x) .cells _ from D) z;have f:=D.length;have hi:i.toNat<n:=by have:=(ix.1 m).1;omega
      have G:(i.toNat+1)*e.size<=n*e.size:=fN _ hi;rw[zQ] at G;rw[f] at t;simp only[cL,y];refine⟨by omega,?_⟩;rw[XO,Kr,vZ,sw (by omega)] at j;exact j
     .cases b
theorem qX(cs:List Value)(a b:Nat)(n:Nat)(c:List Value)(h:b+c.length<=n)(i:a+n<=cs.length) :
  aQ cs a (aQ ((cs.drop a).take n) b c)=aQ cs (a+b) c:=by
 have f:((cs.drop a).take n).length=n:=by simp;omega
 have e:(aQ ((cs.drop a).take n) b c).length=n:=by rw[bH<|by omega,f]
 have g:aQ cs a (aQ ((cs.drop a).take n) b c)=cs.take a++aQ ((cs.drop a).take n) b c++cs.drop (a+n):=by
  rw[aQ,e]
 rw[g];simp only[aQ,oC];rw[Kr,sw (by omega),<-oC,<-List.take_add]
 congr 1;congr 1
 have:cs.drop (a+n)=(cs.drop a).drop n:=by rw[vZ]
 rw[this,<-YZ (by rw[f];exact h),x6,vZ,x8]
theorem KJ{I:Nat->Nat->Prop}{e:Ty}{n:Nat}{l:List e.den}{cs f:List Value}{i:Nat}{y:e.den}(u:l.length=n)(v:n*e.size<=cs.length)
  (h:∀(j:Nat) (x:e.den),l[j]?=some x->bB w I e x ((cs.drop<|j*e.size).take e.size)) (r:i<n) (o:bB w I e y f) :
  ∀(j:Nat) (x:e.den),(l.set i y)[j]?=some x->bB w I e x (((aQ cs (i*e.size) f).drop<|j*e.size).take e.size):=by
 intro j x c;have k:=o.length;have s:(i+1)*e.size<=n*e.size:=fN _ r;rw[zQ] at s;have b:(cs.take<|i*e.size).length=i*e.size:=by rw[gM];omega
 rw[XH] at c;split at c
 .rename_i g;subst g;split at c
  .obtain rfl:=aE c;have:((aQ cs (i*e.size) f).drop<|i*e.size).take e.size=f:=by
    rw[aQ,oC]
    conv=>lhs;arg 2;arg 1;rw[<-b]
    rw[b,HB b,<-k,Kp]
   rw[this];exact o
  .cases c
 .rename_i g;have t:j<n:=by have:=(ix.1 c).1;omega
  have m:(j+1)*e.size<=n*e.size:=fN _ t;rw[zQ] at m;have key:((aQ cs (i*e.size) f).drop<|j*e.size).take e.size=(cs.drop<|j*e.size).take e.size:=by
   apply Nk;intro q;rw[gm,gm];split
   .rename_i z;rw[l9,l9,aQ];rcases ud j i with p|p
    .have:(j+1)*e.size<=i*e.size:=fN _ p;rw[zQ] at this;rw[oC,Qh (by omega),gm,bd (by omega)]
    .have:(i+1)*e.size<=j*e.size:=fN _ (by omega);rw[zQ] at this;rw[Vt<|by rw[iP];omega,l9,iP,b]
     congr 1;omega
   .rfl
  rw[key];exact h j x c
theorem yh:∀{p:List CU} {v G u c:aK} {cs es:List Value},b5 γ mem w v .cells cs->(Y3 p v).run=some G->(v8 p v u).run=some c->b5 γ mem w u .cells es->es.length=da G ->
  b5 γ mem w c .cells (aQ cs (cL p) es):=by
 intro p;induction p with
 | nil =>
   intro v G u c cs es h b q H t;obtain rfl:=aE b;obtain rfl:=aE q;have:=h.length;simp only[cL,aQ,Kq,wY,pv];rw[Kh<|by omega,wX];exact H
 | cons s p T =>
   intro v G u c cs es h b q H t;cases s with
   | fD k off =>
     simp only[Y3] at b;cases I:mi v k with
     | none=>rw[I] at b;cases b
     | some r =>
       rw[I] at b;obtain⟨J,g⟩:=aw b;have A:=eT J;obtain⟨Y,K⟩:=F5 h (show mi v k=some (r.1,r.2) from I);obtain⟨C,Z⟩:=vm K g;have m:=K.length;rw[m] at C;have:=KI (f:=λw=>v8 p w u) h (show mi v k=some (r.1,r.2) from I) (λz L=>T (u:=u) K g L H t) q (by rw[bH<|by rw[m,t];exact C,m]);rw[qX cs r.1 (cL p) (da r.2) es (by omega) Y,A] at this;exact this
   | idx i size =>
     simp only[Y3] at b;split at b
     .rename_i n e l;obtain⟨J,g⟩:=aw b;have M:=eT J;obtain⟨x,U,D⟩:=bX g;simp only[v8] at q;obtain⟨x',O,Q⟩:=bX q;obtain rfl:x=x':=aE (U.symm.trans O);obtain⟨z,L,j⟩:=bind_some Q;cases R:toS e z with
      | none=>rw[R] at j;cases j
      | some y =>
        rw[R] at j;obtain rfl:=aE j;obtain⟨h0,E⟩:=rO U;obtain⟨V,k2,W⟩:=h;have X:=W _ x E;have hi:i.toNat<n:=by have:=(ix.1 E).1;omega
        have hm:(i.toNat+1)*e.size<=n*e.size:=fN _ hi;rw[zQ] at hm;have F:b5 γ mem w (.data e x) .cells ((cs.drop<|i.toNat*e.size).take e.size):=X;obtain⟨C,Z⟩:=vm F D;have o:=X.length;rw[o] at C;have S:=JR R (T F D L H t);have hsl:(aQ ((cs.drop<|i.toNat*e.size).take e.size) (cL p) es).length=e.size:=by rw[bH<|by rw[o,t];exact C,o]
        have e1:=qX cs (i.toNat*e.size) (cL p) e.size es (by omega) (by omega);simp only[cL,M];rw[<-e1];refine⟨?_,?_,?_⟩
        .exact(@List.length_set _ (l:List e.den) _ _).trans V
        .rw[bH<|by omega];exact k2
        .exact KJ V (by omega) W hi S
     .cases b
end
open RowKit
section
variable {B:qA} {γ bG:Gh} {mem dP:Nat->Option Box} {w w':World}
theorem cJ.keep{c:Nat}{bx:Box}(h:cJ γ mem w c bx)(p:Ext B γ mem w bG dP w')(q:bG.loc c=γ.loc c)
  (u:∀b k,γ.loc c=some (b,k)->w'.heap[b]?=w.heap[b]?):cJ bG dP w' c bx:=by
 unfold cJ at h⊢;cases g:bx.buf with
 | true =>
   rw[g] at h;obtain⟨e,l,v,y,f⟩:=h;refine⟨e,l,v,y,?_⟩;rcases f with ⟨f,n⟩|⟨b,j,m,tid,r,f,n,s,o,t,z,A,C⟩
   .exact .inl ⟨q.trans f,n⟩
   .exact .inr ⟨b,j,m,tid,r,q.trans f,(u _ _ f).trans n,s,o,t,z,A,λi x D=>bB.mono p.I p.cells (C i x D)⟩
 | false =>
   rw[g] at h;obtain⟨b,j,m,tid,r,f,n,s,E,t⟩:=h;exact⟨b,j,m,tid,r,q.trans f,(u _ _ f).trans n,s,E,t.ext p⟩
theorem de{a:Addr}(h:w'.heap[a.block]?=w.heap[a.block]?):w'.cell? a=w.cell? a:=by simp[World.cell?,h]
def bq(c:Gh)(b:Nat)(L:Option (Nat×Nat)):Gh:={ c with loc:=λi=>if i=b then L else c.loc i }
def cB(c:Nat->Option Box)(b:Nat)(bx:Box):Nat->Option Box:=λi=>bif Nat.beq i b then some bx else c i
theorem bk(b:Nat)(bx:Box):cB mem b bx b=some bx:=by simp[cB]
theorem aN{b c:Nat}(bx:Box)(h:c≠b):cB mem b bx c=mem c:=by simp[cB,iF h]
theorem tj(h:bu B γ mem w){b:Nat}{bx:Box}{L:Option (Nat×Nat)}(f:∀g,mem b=some g->g.aI<bx.aI)
  (m:tV B w w') (i:∀k,k<w.heap.size->w'.heap[k]?=w.heap[k]?):Ext B γ mem w (bq γ b L) (cB mem b bx) w' where
 below:=m
 I:=λ_ _ x=>x
 pC:=λ_ _ x=>.inl x
 cells:=λj o x=>de (i j<|h.sV j o x)
 boxes:=λc cx l=>by
  by_cases e:c=b
  .subst e;refine⟨bx,bk _ _,SO (f _ l),λe=>absurd e ?_⟩;have:=f _ l;omega
  .exact⟨cx,by rw[aN _ e];exact l,cD _,λ_=>⟨by simp[bq,e],rfl,rfl⟩⟩
theorem bu.add(h:bu B γ mem w){b:Nat}{bx:Box}{L:Option (Nat×Nat)}(m:∀p,mem b=some p->p.aI<bx.aI)
  (q:tV B w w') (j:∀k,k<w.heap.size->w'.heap[k]?=w.heap[k]?) (r:∀f k,L=some (f,k)->w.heap.size<=f/\f<w'.heap.size)
  (u:cJ (bq γ b L) (cB mem b bx) w' b bx):bu B (bq γ b L) (cB mem b bx) w' where
 cP:=h.Ei (tj (L:=L) h m q j)
 base:=iz h.base q.size
 boxes:=λc cx g=>by
  by_cases e:c=b
  .subst e;rw[bk] at g;obtain rfl:=aE g;exact u
  .rw[aN _ e] at g;refine(h.boxes c cx g).keep (tj h m q j) (by simp[bq,e]) λf k x=>j f (h.fresh c f k (by rw[g];simp) x).2
 inj:=λc d f k v g s i n=>by
  by_cases e:c=b
  .by_cases o:d=b
   .rw[e,o]
   .exfalso;simp only[bq,bd e] at i;simp only[bq,bb o] at n;rw[aN _ o] at s;have:=(h.fresh d f v s n).2;have:=(r _ _ i).1;omega
  .by_cases o:d=b
   .exfalso;simp only[bq,bb e] at i;simp only[bq,bd o] at n;rw[aN _ e] at g;have:=(h.fresh c f k g i).2;have:=(r _ _ n).1;omega
   .simp only[bq,bb e] at i;simp only[bq,bb o] at n;rw[aN _ e] at g;rw[aN _ o] at s;exact h.inj c d f k v g s i n
 fresh:=λc f k g i=>by
  by_cases e:c=b
  .simp only[bq,bd e] at i;obtain⟨n,y⟩:=r _ _ i;exact⟨.inl (by have:=h.base;omega),y⟩
  .simp only[bq,bb e] at i;rw[aN _ e] at g;have:=h.fresh c f k g i;exact⟨this.1,CP this.2 q.size⟩
 sV:=λf l t=>CP (h.sV f l t) q.size
 sep:=λc cx f k l g i t=>by
  by_cases e:c=b
  .exfalso;simp only[bq,bd e] at i;have:=(r _ _ i).1;have:=h.sV f l t;omega
  .simp only[bq,bb e] at i;rw[aN _ e] at g;exact h.sep c cx f k l g i t
theorem cG(w:World)(o:Obj):∀k,k<w.heap.size->(w.alloc o).heap[k]?=w.heap[k]?:=λk b=>Below.heap_alloc w o k b
theorem rP(b:Array Value):lU b (0,0):=λo _ h=>by omega
theorem uq(e:Ty)(b:Array Value):ThB e b (0,0):=⟨rP b,λ_ h=>by omega⟩
theorem bu.newVar(h:bu B γ mem w){b:Nat}{v:aK}{tid:TypeId}{aI:Nat}(c:∀f,mem b=some f->f.aI<aI){cs:Array Value}(g:TypeId)(i:tid=0\/g=tid)(l:b5 γ mem w v .cells cs.toList) :
  let bx:Box:={ val:=v,tid,buf:=false,ro:=false,lk:=false,aI }
  bu B (bq γ b<|some (w.heap.size,0)) (cB mem b bx) (w.alloc<|.cells cs g)/\Ext B γ mem w (bq γ b<|some (w.heap.size,0)) (cB mem b bx) (w.alloc<|.cells cs g):=by
 intro bx;have j:tV B w (w.alloc<|.cells cs g):=(tV.refl _ _).alloc h.base _;have hx:=tj (L:=some (w.heap.size,0)) h (bx:=bx) c j (cG w _);refine⟨h.add c j (cG w _) (λm k e=>by obtain⟨rfl,rfl⟩:=dz (aE e);exact⟨cD _,by simp⟩) ?_,hx⟩;exact⟨w.heap.size,0,cs,g,(0,0),by simp[bq],heap_alloc_new w _,rP cs,i,l.ext hx⟩
theorem bu.abR(h:bu B γ mem w){b:Nat}{e:Ty}{l:List e.den}{tid:TypeId}{aI f g:Nat}(j:∀o,mem b=some o->o.aI<aI){p:Array Value}{s:TypeId}{t:Nat×Nat}(A:0<e.size)
  (z:tV B w w') (m:∀k,k<w.heap.size->w'.heap[k]?=w.heap[k]?) (u:w.heap.size<=g) (n:w'.heap[g]?=some (.cells p s t)) (v:ThB e p t) (r:tid=0\/s=tid)
  (C:l.length<=f) (D:f<=maxLen) (E:p.size=f*e.size) (F:∀(i:Nat) (x:e.den),l[i]?=some x->bB w' γ.I e x ((p.toList.drop<|i*e.size).take e.size)) :
  let bx:Box:={ val:=.data (.slice e) l,tid,buf:=true,ro:=false,lk:=false,aI }
  bu B (bq γ b<|some (g,f)) (cB mem b bx) w'/\Ext B γ mem w (bq γ b<|some (g,f)) (cB mem b bx) w':=by
 intro bx;have y:g<w'.heap.size:=(u9.1 n).1;have hx:=tj (L:=some (g,f)) h (bx:=bx) j z m;refine⟨h.add j z m (λc k q=>by obtain⟨rfl,rfl⟩:=dz (aE q);exact⟨u,y⟩) ?_,hx⟩;exact⟨e,l,rfl,A,.inr ⟨g,f,p,s,t,by simp[bq],n,v,r,C,D,E,F⟩⟩
theorem bu.KK(h:bu B γ mem w){b:Nat}{e:Ty}{l:List e.den}{tid:TypeId}{aI cap:Nat}(f:∀g,mem b=some g->g.aI<aI){n:Array Value}{r:TypeId}{s:Nat×Nat}(t:0<e.size)
  (u:tV B w w') (c:∀k,k<w.heap.size->w'.heap[k]?=w.heap[k]?) (j:w'.heap[w.heap.size]?=some (.cells n r s)) (p:ThB e n s) (m:tid=0\/r=tid)
  (v:l.length<=cap) (y:cap<=maxLen) (z:n.size=cap*e.size) (A:∀(i:Nat) (x:e.den),l[i]?=some x->bB w γ.I e x ((n.toList.drop<|i*e.size).take e.size)) :
  let bx:Box:={ val:=.data (.slice e) l,tid,buf:=true,ro:=false,lk:=false,aI }
  bu B (bq γ b<|some (w.heap.size,cap)) (cB mem b bx) w'/\Ext B γ mem w (bq γ b<|some (w.heap.size,cap)) (cB mem b bx) w' :=
 h.abR f t u c (cD _) j p m v y z λi x C =>
  bB.mono (λ_ _ q=>q) (λblk o q=>de (c blk<|h.sV blk o q)) (A i x C)
theorem bu.CZ(h:bu B γ mem w){b:Nat}{e:Ty}{tid:TypeId}{aI:Nat}(c:∀f,mem b=some f->f.aI<aI)(g:0<e.size) :
  let bx:Box:={ val:=.data (.slice e) ([]:List e.den),tid,buf:=true,ro:=false,lk:=false,aI }
  bu B (bq γ b none) (cB mem b bx) w/\Ext B γ mem w (bq γ b none) (cB mem b bx) w:=by
 intro bx;have hx:=tj (L:=none) h (bx:=bx) c (tV.refl B w) (λ_ _=>rfl);refine⟨h.add c (tV.refl B w) (λ_ _=>rfl) (λi k e=>by cases e) ?_,hx⟩;exact⟨e,[],rfl,g,.inl ⟨by simp[bq],rfl⟩⟩
theorem El{e:Box}{b:Nat}(h:VB e b)(c:e.ro=false):False:=by rw[VB,c] at h;exact absurd h.1 (by simp)
theorem bu.write(h:bu B γ mem w){b:Nat}{m:Box}(p:mem b=some m)(u:m.ro=false){g k:Nat}(y:γ.loc b=some (g,k)){r cur':Array Value}{t:TypeId}{D:Nat×Nat}
  (G:w.heap[g]?=some (.cells r t D)) (Q:cur'.size=r.size) {v:aK} (z:({ m with val:=v }:Box).row=m.row)
  (E:∀w' dP,Ext B γ mem w γ dP w'->w'.heap[g]?=some (.cells cur' t D)->cJ γ dP w' b { m with val:=v }) :
  bu B γ (cB mem b { m with val:=v }) (w.setRow g cur')/\Ext B γ mem w γ (cB mem b { m with val:=v }) (w.setRow g cur'):=by
 have H:=h.fresh b g k (by rw[p];simp) y;have A:=setRow_heap w g r cur' t D G;have j:∀i,i≠g->(w.setRow g cur').heap[i]?=w.heap[i]?:=λi q=>setRow_other w g i cur' (λe=>q e);have hx:Ext B γ mem w γ (cB mem b { m with val:=v }) (w.setRow g cur') :=
  { below:=⟨rfl,rfl,rfl,by simp,λi q=>j i λe=>q (by rw[e];exact H.1)⟩
    I:=λ_ _ x=>x
    pC:=λ_ _ x=>.inl x
    cells:=λc o x=>by
     by_cases e:c=g
     .subst e;exact(El (h.sep b m c k o p y x) u).elim
     .exact de (j c e)
    boxes:=λc cx l=>by
     by_cases e:c=b
     .subst e;obtain rfl:cx=m:=aE (l.symm.trans p);exact⟨_,bk _ _,cD _,λ_=>⟨rfl,rfl,z⟩⟩
     .exact⟨cx,by rw[aN _ e];exact l,cD _,λ_=>⟨rfl,rfl,rfl⟩⟩ }
 refine⟨?_,hx⟩;exact
  { cP:=h.Ei hx
    base:=by have:=h.base;simpa using this
    boxes:=λc cx l=>by
     by_cases e:c=b
     .subst e;rw[bk] at l;obtain rfl:=aE l;exact E _ _ hx A
     .rw[aN _ e] at l;refine(h.boxes c cx l).keep hx rfl λf C F=>j f λJ=>e ?_;subst J;exact h.inj c b f C k (by rw[l];simp) (by rw[p];simp) F y
    inj:=λc d f K L l M s O=>h.inj c d f K L (by
     by_cases e:c=b
     .subst e;rw[p];simp
     .rwa [aN _ e] at l) (by
     by_cases e:d=b
     .subst e;rw[p];simp
     .rwa [aN _ e] at M) s O
    fresh:=λc f C l s=>by
     have:=h.fresh c f C (by
      by_cases e:c=b
      .subst e;rw[p];simp
      .rwa [aN _ e] at l) s
     exact⟨this.1,by simpa using this.2⟩
    sV:=λf n q=>by have:=h.sV f n q;simpa using this
    sep:=λc cx f C n l s q=>by
     by_cases e:c=b
     .subst e;rw[y] at s;obtain⟨rfl,rfl⟩:=dz (aE s);exact(El (h.sep c m g k n p y q) u).elim
     .rw[aN _ e] at l;exact h.sep c cx f C n l s q }
def KL(f:Gh)(b:Nat)(n:Nat):Gh:={ f with I:=λc e=>f.I c e\/((∃k,f.loc b=some (c,k))/\e<n) }
theorem bu.freeze(h:bu B γ mem w){b:Nat}{j:Box}(l:mem b=some j){e:Ty}{n:Nat}(r:j.row=some (e,n)) :
  bu B (KL γ b<|n*e.size) (cB mem b { j with ro:=true }) w/\Ext B γ mem w (KL γ b<|n*e.size) (cB mem b { j with ro:=true }) w:=by
 have hx:Ext B γ mem w (KL γ b<|n*e.size) (cB mem b { j with ro:=true }) w :=
  { below:=tV.refl _ _
    I:=λ_ _ x=>.inl x
    pC:=λy o x=>by
     rcases x with x|⟨⟨k,x⟩,_⟩
     .exact .inl x
     .exact .inr (h.fresh b y k (by rw[l];simp) x).1
    cells:=λ_ _ _=>rfl
    boxes:=λc cx g=>by
     by_cases e:c=b
     .subst e;obtain rfl:cx=j:=aE (g.symm.trans l);exact⟨_,bk _ _,cD _,λ_=>⟨rfl,rfl,rfl⟩⟩
     .exact⟨cx,by rw[aN _ e];exact g,cD _,λ_=>⟨rfl,rfl,rfl⟩⟩ }
 refine⟨?_,hx⟩;exact
  { cP:=h.Ei hx
    base:=h.base
    boxes:=λc cx g=>by
     by_cases e:c=b
     .subst e;rw[bk] at g;obtain rfl:=aE g;have:=(h.boxes c j l).keep hx rfl (λ_ _ _=>rfl);exact this
     .rw[aN _ e] at g;exact(h.boxes c cx g).keep hx rfl (λ_ _ _=>rfl)
    inj:=λc d f C D g E q F=>h.inj c d f C D (by
     by_cases e:c=b
     .subst e;rw[l];simp
     .rwa [aN _ e] at g) (by
     by_cases e:d=b
     .subst e;rw[l];simp
     .rwa [aN _ e] at E) q F
    fresh:=λc f s g q=>h.fresh c f s (by
     by_cases e:c=b
     .subst e;rw[l];simp
     .rwa [aN _ e] at g) q
    sV:=λf p i=>by
     rcases i with i|⟨⟨k,v⟩,_⟩
     .exact h.sV f p i
     .exact(h.fresh b f k (by rw[l];simp) v).2
    sep:=λc cx f s p g q i=>by
     by_cases z:c=b
     .subst z;rw[bk] at g;obtain rfl:=aE g;rcases i with i|⟨⟨k,v⟩,A⟩
      .obtain⟨J,G⟩:=h.sep c j f s p l q i;exact⟨rfl,G⟩
      .refine⟨rfl,λ_ u m H=>?_⟩;have t:j.row=some (u,m):=H;rw[r] at t;obtain⟨rfl,rfl⟩:=dz (aE t);exact A
     .rw[aN _ z] at g;rcases i with i|⟨⟨k,v⟩,A⟩
      .exact h.sep c cx f s p g q i
      .exact absurd (h.inj c b f s k (by rw[g];simp) (by rw[l];simp) q v) z }
end
end Go.Ge
namespace Go.Ge
open RowKit
def mb(P:Program)(B:qA)(N:Nat)(c:Gh)(e:St)(a:Act)(w:World)(d:Option Nat)(s:Sem Value)(b:St):Prop :=
 ∃v w' bG,s.run P w=.ok v w'/\cQ B N bG b (a.put d v) w'/\Ext B c e.mem w bG b.mem w'
section
variable {P:Program} {B:qA} {N:Nat} {γ:Gh} {σ aV:St} {a:Act} {w:World} {d:Option Nat}
theorem bD(h:cQ B N γ σ a w)(b:∀k,d=some k->k<N){s:Sem Value}{v:aK}{x:Value}(c:s.run P w=.ok x w)(e:b5 γ σ.mem w v .val [x]) :
  mb P B N γ σ a w d s (σ.aS d v) :=
 ⟨x,w,γ,c,h.uo b e,by cases d<;>exact Ext.refl _ _ _ _⟩
theorem cV{g:Type}{b:Nat}{val:aK}{tid:TypeId}{buf:Bool}{k:Nat->St->Tree g}{y:g}(h:(σ.aJ b val tid buf k).run=some y) :
  ∃aI,(∀c,σ.mem b=some c->c.aI<aI)/\(k aI<|σ.bT b { val,tid,buf,ro:=false,lk:=false,aI }).run=some y:=by
 unfold St.aJ at h;split at h
 .rename_i bx f;cases i:bx.lk with
  | true=>rw[i] at h;cases h
  | false =>
    rw[i] at h;exact⟨bx.aI+1,(λc e=>by rw[f] at e;obtain rfl:=aE e;omega),h⟩
 .rename_i f;exact⟨0,(λc e=>by rw[f] at e;cases e),h⟩
theorem ur(c:St)(b:Nat)(e:Box):(c.bT b e).mem=cB c.mem b e:=rfl
theorem dJ{c:Nat->Option Box}{b aI:Nat}{bx:Box}(h:c b=some bx)(f:bx.aI=aI){K:Box->Prop}(e:K bx):mn c b aI K :=
 ⟨bx,h,by omega,λ_=>e⟩
theorem xp{j:Ctx}(o:eS P j){p:Nat}{l:List Nat}{q:TypeId}{x:Operand}(h:cQ B N γ σ a w)(c:∀k,d=some k->k<N)
  (b:(js j p l d q (cp σ x) σ).run=some aV):mb P B N γ σ a w d (pure<|a.eval x) aV:=by
 have hv:=h.cp x;unfold js at b;split at b
 .rename_i g;rw[g] at hv;obtain⟨_,b⟩:=aw b;obtain rfl:=aE b;exact bD h c rfl hv
 .rename_i g;rw[g] at hv;have hx:a.eval x=.slice none 0 0:=by simpa [b5] using hv
  split at b
  .rename_i k e r;cases m:cK l k with
   | true =>
     rw[m] at b;simp only[eG] at b;obtain⟨s,f,i⟩:=cV b;obtain rfl:=aE i;obtain⟨t,v,y,z,u⟩:=(o.T _ _ r).slice;obtain⟨m1,n⟩:=h.ok.CZ (tid:=0) f u;refine⟨_,w,_,rfl,h.step n m1 (c k rfl) ?_,n⟩;rw[hx];exact⟨⟨_,rfl,rfl⟩,dJ (bk _ _) rfl ⟨e,0,rfl,rfl,.inl ⟨by simp[bq],rfl⟩⟩⟩
   | false =>
     rw[m] at b;obtain rfl:=aE b;exact bD (d:=some k) h c rfl (by rw[hx];exact⟨_,.inl ⟨⟨none,rfl⟩,rfl⟩,rfl⟩)
  .obtain rfl:=aE b;exact bD h c rfl (by rw[hx];rfl)
 .obtain rfl:=aE b;exact bD h c rfl hv
theorem yi{b:Bool}{v:Value}(h:b5 γ σ.mem w (.data .bool b) .val [v]):v=.bool b:=by
 obtain⟨c,e,f⟩:=dY.1 h;rw[f,show c=_ from e];rfl
theorem sy{k:IntKind}{n:Int}{v:Value}(h:b5 γ σ.mem w (.data (.int k) n) .val [v]):v=.int k n/\k.min<=n/\n<=k.max:=by
 obtain⟨e,b,c⟩:=dY.1 h;rw[c,b.1];exact⟨rfl,b.2⟩
theorem we{s:aq}{v:Value}(h:b5 γ σ.mem w (.data .str s) .val [v]):v=.string ⟨s.toArray⟩/\s.length<=maxLen:=by
 obtain⟨cs,b,c⟩:=dY.1 h;rw[c,b.1];exact⟨rfl,b.2⟩
theorem gb(b:Bool):b5 γ σ.mem w (.data .bool b) .val [.bool b]:=⟨_,rfl,rfl⟩
theorem mkInt{k:IntKind}{n:Int}(h:k.min<=n/\n<=k.max):b5 γ σ.mem w (.data (.int k) n) .val [.int k n]:=⟨_,⟨rfl,h.1,h.2⟩,rfl⟩
theorem mkStr{s:aq}(h:s.length<=maxLen):b5 γ σ.mem w (.data .str s) .val [.string ⟨s.toArray⟩]:=⟨_,⟨rfl,h⟩,rfl⟩
theorem KM{c x y:Operand}(h:cQ B N γ σ a w)(j:∀k,d=some k->k<N)(f:(nK d (cp σ c) (cp σ x) (cp σ y) σ).run=some aV) :
  mb P B N γ σ a w d (do pure (if <-asBool (a.eval c) then a.eval x else a.eval y)) aV:=by
 have q:=h.cp c;have hx:=h.cp x;have hy:=h.cp y;unfold nK at f;split at f
 .rename_i g l;rw[l] at q;have m:a.eval c=.bool g:=yi q;have b:(do pure (if <-asBool (a.eval c) then a.eval x else a.eval y):Sem Value).run P w=.ok (if(show Bool from g)=true then a.eval x else a.eval y) w:=by
   rw[m];cases g<;>rfl
  split at f
  .rename_i t s u v n o;rw[n] at hx;rw[o] at hy;split at f
   .rename_i z p;obtain rfl:=aE f;obtain⟨e,r⟩:=Ty.kz p;subst e;subst r;refine bD h j b ?_;cases g
    .exact hy
    .exact hx
   .cases f
  .have i:=fP f;cases g
   .obtain rfl:=aE i;exact bD h j b hy
   .obtain rfl:=aE i;exact bD h j b hx
 .cases f
theorem fi(k:IntKind)(n:Int):k.min<=k.wrap n/\k.wrap n<=k.max:=wrap_within k n
theorem ad8{k:IntKind}{x y:Int}(h:k.min<=x/\x<=k.max):k.min<=x.tmod y/\x.tmod y<=k.max:=by
 have b:k.min<=0:=by cases k<;>decide
 have c:0<=k.max:=by cases k<;>decide
 have f:(x.tmod y).natAbs<=x.natAbs:=by
  rw[Int.natAbs_tmod];exact Nat.mod_le _ _
 rcases Int.le_total 0 x with e|e
 .have:=Int.tmod_nonneg y e;omega
 .have:x.tmod y<=0:=by
   have:=Int.tmod_nonneg y (show 0<=-x by omega);rw[Int.neg_tmod] at this;omega
  omega
theorem ad9{k:IntKind}{x:Int}(n:Nat)(h:k.min<=x/\x<=k.max):k.min<=x.fdiv (2 ^ n)/\x.fdiv (2 ^ n)<=k.max:=by
 have f:k.min<=0:=by cases k<;>decide
 have g:0<=k.max:=by cases k<;>decide
 have b:(0:Int)<2 ^ n:=Int.pow_pos (by decide);have e:x.fdiv (2 ^ n)=x / 2 ^ n:=Int.fdiv_eq_ediv_of_nonneg _ (by omega);rw[e];rcases Int.le_total 0 x with c|c
 .have i:=Int.ediv_nonneg c (Int.le_of_lt b);have j:=Int.ediv_le_self (2 ^ n:Int) c;omega
 .have j:x / 2 ^ n<1:=Int.ediv_lt_of_lt_mul b (by omega);have l:x<=x / 2 ^ n:=by
   rw[Int.le_ediv_iff_mul_le b];have i:(1:Int)<=2 ^ n:=b;have:=Int.mul_le_mul_of_nonpos_left c i;simpa using this
  omega
theorem Qu{b:BinOp}{l:Bool}(h:D5 b=some l):(b=.shl/\l=true)\/(b=.shr/\l=false):=by
 cases b<;>simp[D5] at h<;>simp[h]
theorem qB{b:BinOp}{l:Bool}(h:isEq b=some l):(b=.eql/\l=true)\/(b=.neq/\l=false):=by
 cases b<;>simp[isEq] at h<;>simp[h]
def gr(b:BinOp)(c:TypeId)(x y:Operand)(u v:Value):Sem Value:=do eqGuard b c x y u v;binOp b c u v
theorem Qv{f:BinOp}{k:IntKind}{n m:Int}{v:aK}{i:TypeId}{x y:Operand}(j:k.min<=n/\n<=k.max)(h:D5 f=none)(c:(Vv f k n m).run=some v) :
  ∃r,(gr f i x y (.int k n)<|.int k m).run P w=.ok r w/\b5 γ σ.mem w v .val [r]:=by
 unfold gr;cases f<;>simp only[eqGuard_at_int,Sem.run_bind,Sem.run_pure,Result.andThen_ok]<;>simp only[Vv] at c
 case add=>obtain rfl:=aE c;exact⟨.int k<|ax k n m,by simp only[binOp_add,Op.intArith,Sem.run_pure];rfl,mkInt (fi _ _)⟩
 case sub=>obtain rfl:=aE c;exact⟨.int k<|cE k n m,by simp only[binOp_sub,Op.intArith,Sem.run_pure];rfl,mkInt (fi _ _)⟩
 case mul=>obtain rfl:=aE c;exact⟨.int k<|gU k n m,by simp only[binOp_mul,Op.intArith,Sem.run_pure];rfl,mkInt (fi _ _)⟩
 case quo =>
  have b:=fP c;cases e:aL m 0
  .rw[e] at b;obtain rfl:=aE b;have g:m≠0:=by simpa [aL] using e
   exact⟨.int k<|Ix k n m,by simp only[binOp_quo,Op.intDiv,bb g,Sem.run_pure];rfl,mkInt (fi _ _)⟩
  .rw[e] at b;cases b
 case rem =>
  have b:=fP c;cases e:aL m 0
  .rw[e] at b;obtain rfl:=aE b;have g:m≠0:=by simpa [aL] using e
   exact⟨.int k<|iA n m,by simp only[binOp_rem,Op.intDiv,bb g,Sem.run_pure];rfl,mkInt (ad8 j)⟩
  .rw[e] at b;cases b
 case and=>obtain rfl:=aE c;exact⟨.int k<|jQ k n m,by simp only[binOp_and,intBits_and,Sem.run_pure];rfl,mkInt (fi _ _)⟩
 case or=>obtain rfl:=aE c;exact⟨.int k<|xc k n m,by simp only[binOp_or,intBits_or,Sem.run_pure];rfl,mkInt (fi _ _)⟩
 case xor=>obtain rfl:=aE c;exact⟨.int k<|fC k n m,by simp only[binOp_xor,intBits_xor,Sem.run_pure];rfl,mkInt (fi _ _)⟩
 case andNot=>obtain rfl:=aE c;exact⟨.int k<|afC k n m,by simp only[binOp_andNot,intBits_andNot,Sem.run_pure];rfl,mkInt (fi _ _)⟩
 case shl=>cases h
 case shr=>cases h
 case eql=>obtain rfl:=aE c;exact⟨.bool<|aL n m,by simp[binOp,Op.intCmp,aL];rfl,gb _⟩
 case neq=>obtain rfl:=aE c;exact⟨.bool<|nt<|aL n m,by simp[binOp,Op.intCmp,aL,nt];rfl,gb _⟩
 case lss=>obtain rfl:=aE c;exact⟨.bool<|aO n m,by simp[binOp,Op.intCmp,aO],gb _⟩
 case leq=>obtain rfl:=aE c;exact⟨.bool<|ca n m,by simp[binOp,Op.intCmp,ca],gb _⟩
 case gtr=>obtain rfl:=aE c;exact⟨.bool<|aO m n,by simp[binOp,Op.intCmp,aO],gb _⟩
 case geq=>obtain rfl:=aE c;exact⟨.bool<|ca m n,by simp[binOp,Op.intCmp,ca],gb _⟩
theorem iR(s:aq):(⟨s.toArray⟩:ByteArray).toList=s:=by rw[ByteArray.toList_eq]
theorem VD(s t:aq):(s==t)=bz s t:=by rw[HC];simp[bz]
theorem Qw{c:BinOp}{s t:aq}{v:aK}{g:TypeId}{x y:Operand}(b:(Vw c s t).run=some v) :
  ∃r,(gr c g x y (.string ⟨s.toArray⟩)<|.string ⟨t.toArray⟩).run P w=.ok r w/\b5 γ σ.mem w v .val [r]:=by
 unfold gr;cases c<;>simp only[eqGuard_at_string,Sem.run_bind,Sem.run_pure,Result.andThen_ok]<;>simp only[Vw] at b<;>try (cases b;done)
 case add =>
  obtain⟨h,e⟩:=ck b;obtain rfl:=aE e;have j:s.length+t.length<=4294967296:=by have i:plus (len s) (len t)<=4294967296:=kx h;simp only[plus,len] at i;omega
  refine⟨.string ⟨(s++t).toArray⟩,?_,mkStr (by simp only[app,iP,maxLen];omega)⟩;have f:∀l:aq,(⟨l.toArray⟩:ByteArray).size=l.length:=λl=>rfl;have:¬(((s.length+t.length:Nat):Int) > IntKind.i64.max):=by rw[IntKind.max_i64];omega
  simp only[binOp,Op.stringOp,f,this,sR,Sem.run_pure]
  congr 2
 case eql=>obtain rfl:=aE b;exact⟨.bool<|bz s t,by simp only[binOp,Op.stringOp,iR,VD,Sem.run_pure],gb _⟩
 case neq=>obtain rfl:=aE b;exact⟨.bool<|nt<|bz s t,by simp only[binOp,Op.stringOp,iR,VD,Sem.run_pure];rfl,gb _⟩
 case lss=>obtain rfl:=aE b;exact⟨.bool<|jH s t,by simp only[binOp,Op.stringOp,iR,VD,Sem.run_pure];rfl,gb _⟩
 case leq=>obtain rfl:=aE b;exact⟨.bool<|oor (jH s t)<|bz s t,by simp only[binOp,Op.stringOp,iR,VD,Sem.run_pure];rfl,gb _⟩
 case gtr=>obtain rfl:=aE b;exact⟨.bool<|nt<|oor (jH s t)<|bz s t,by simp only[binOp,Op.stringOp,iR,VD,Sem.run_pure];rfl,gb _⟩
 case geq=>obtain rfl:=aE b;exact⟨.bool<|nt<|jH s t,by simp only[binOp,Op.stringOp,iR,VD,Sem.run_pure];rfl,gb _⟩
theorem S1{b:BinOp}{left:Bool}{k e:IntKind}{n m:Int}{f:TypeId}{x y:Operand}(g:k.min<=n/\n<=k.max)(h:D5 b=some left)(i:aO m 0=false) :
  ∃r,(gr b f x y (.int k n)<|.int e m).run P w=.ok r w/\b5 γ σ.mem w (.data (.int k)<|bif left then lS k n m else mQ k n m) .val [r]:=by
 have c:¬m<0:=by simpa [aO] using i
 unfold gr;rcases Qu h with ⟨rfl,rfl⟩|⟨rfl,rfl⟩
 .exact⟨.int k<|lS k n m,by simp only[eqGuard_shl,binOp_shl,Op.shift,bb c,Sem.run_bind,Sem.run_pure,Result.andThen_ok];rfl,mkInt (fi _ _)⟩
 .exact⟨.int k<|mQ k n m,by simp only[eqGuard_shr,binOp_shr,Op.shift,bb c,Sem.run_bind,Sem.run_pure,Result.andThen_ok];rfl,mkInt (ad9 _ g)⟩
theorem Bk{t:Ty}{c:TypeId}(g:Den P t c){cs:Array Value}{off:Nat}(h:off+t.size<=cs.size)(j:t.isAgg=false->t.size=1) :
  (part c cs off).run P w=.ok (bW t<|(cs.toList.drop off).take t.size) w:=by
 unfold part;rw[Sem.run_bind,g.agg w,Result.andThen_ok];cases b:t.isAgg with
 | true =>
   simp only[mh,Sem.run_bind,g.sizeOf w,Result.andThen_ok,Sem.run_pure,bW,b,eG]
   congr 2
   apply SQ;simp
 | false =>
   have k:=j b;simp only[bb<|show ¬(false=true) by simp,bW,b,iD,k];have f:off<cs.size:=by omega
   have e:(cs.toList.drop off).take 1=[cs[off]]:=by
    apply Nk;intro i;rw[gm];cases i with
    | zero=>simp[f]
    | succ i=>simp
   rw[e];simp[f]
theorem rQ:∀{t:Ty},t.isAgg=false->t.size=1:=by
 intro t h;induction t with
 | alt u a r c b=>exact b h
 | arr|pair|unit=>cases h
 | _=>rfl
theorem S2(t:Ty):1<=t.D4:=by cases t<;>simp[Ty.D4]
theorem B9{γ:Gh}{w:World}:∀(t:Ty),(∀(d:Nat) (tid:TypeId) (x y:t.den) (cx cy:List Value) (c:Bool),Den P t tid->bB w γ.I t x cx->bB w γ.I t y cy->Ty.eqv t x y=some c->t.D4<d ->
   (Op.equalIn d tid (bW t cx)<|bW t cy).run P w=.ok c w) /\
  (∀(d off:Nat) (v:List Field) (x y:t.den) (cx cy:List Value) (o s:Array Value) (c:Bool),pq P t off v->bB w γ.I t x cx->bB w γ.I t y cy->Ty.eqv t x y=some c->t.D4<d ->
   o.toList.drop off=cx->s.toList.drop off=cy->off<=o.size->off<=s.size->(Op.eqFields d o s v).run P w=.ok c w):=by
 intro t;induction t with
 | int k =>
   refine⟨λd tid x y cx cy c g A C m J=>?_,λd off v x y cx cy o s c g=>by simp[pq,ew] at g⟩;obtain⟨d,rfl⟩:∃e,d=e+1:=⟨d-1,by omega⟩;rw[A.1,C.1];obtain rfl:=aE m;show(Op.equalIn (d+1) tid (.int k x)<|.int k y).run P w=_
   rw[run_equalIn_int w d tid k k x y g.int]
   congr 1
 | bool =>
   refine⟨λd tid x y cx cy c g A C m J=>?_,λd off v x y cx cy o s c g=>by simp[pq,ew] at g⟩;obtain⟨d,rfl⟩:∃e,d=e+1:=⟨d-1,by omega⟩;rw[show cx=_ from A,show cy=_ from C];obtain rfl:=aE m;exact run_equalIn_bool' w d tid x y g.bool
 | str =>
   refine⟨λd tid x y cx cy c g A C m J=>?_,λd off v x y cx cy o s c g=>by simp[pq,ew] at g⟩;obtain⟨d,rfl⟩:∃e,d=e+1:=⟨d-1,by omega⟩;rw[A.1,C.1];obtain rfl:=aE m;have K:=run_equalIn_string (P:=P) w d tid ⟨List.toArray (α:=UInt8) x⟩ ⟨List.toArray (α:=UInt8) y⟩ g.str;rw[iR<|show aq from x,iR (show aq from y),VD] at K;exact K
 | slice e ih=>exact⟨(λd tid x y cx cy c g A C m=>by cases m),(λd off v x y cx cy o s c g=>by simp[pq,ew] at g)⟩
 | alt u a r Y ihr=>exact⟨(λd tid x y cx cy c g A C m=>by cases m),(λd off v x y cx cy o s c g=>by simp[pq,ew] at g)⟩
 | zH=>exact⟨(λd tid x y cx cy c g A C m=>by cases m),(λd off v x y cx cy o s c g=>by simp[pq,ew] at g)⟩
 | arr n e ih =>
   refine⟨λd tid x y cx cy c g A C m J=>?_,(λd off v x y cx cy o s c g=>by simp[pq,ew] at g)⟩;cases e with
   | int k =>
     obtain⟨d,rfl⟩:∃e,d=e+1:=⟨d-1,by omega⟩;obtain⟨d,rfl⟩:∃e,d=e+1:=⟨d-1,by have:(Ty.arr n<|.int k).D4=1+1:=rfl;omega⟩;obtain rfl:=aE m;obtain⟨Z,L,F,k3⟩:=g.arr;obtain⟨i,z,i1,i2,_,_⟩:=F.info;have M:=F.cells;show(Op.equalIn (d+1+1) tid (.agg cx.toArray)<|.agg cy.toArray).run P w=_
     rw[run_equalIn_array w (d+1) cx.toArray cy.toArray L i1,M];obtain⟨hxl,O,D⟩:=A;obtain⟨hyl,Q,E⟩:=C;have U:(Ty.int k).size=1:=rfl;rw[U] at O D Q E⊢;rw[B7] at O Q;change List Int at x y;have item:∀V:List Nat,(∀i∈V,i<n)->(Op.eqItems (d+1) Z 1 cx.toArray cy.toArray V).run P w=.ok (V.all λi=>decide (x[i]?=y[i]?)) w:=by
      intro V;induction V with
      | nil=>intro _;rfl
      | cons i V ihs =>
        intro hi;have G:=hi i (oB ..);obtain⟨a,hxi⟩:∃a,x[i]?=some a:=⟨_,jE (by rw[show x.length=n from hxl];exact G)⟩;obtain⟨b,hyi⟩:∃a,y[i]?=some a:=⟨_,jE (by rw[show y.length=n from hyl];exact G)⟩;have W:=Bk (w:=w) F (cs:=cx.toArray) (off:=i*1) (by rw[U];simp[O];omega) (λ_=>U);have X:=Bk (w:=w) F (cs:=cy.toArray) (off:=i*1) (by rw[U];simp[Q];omega) (λ_=>U);have ex:=(D i _ hxi).1;have ey:=(E i _ hyi).1;rw[U] at W X;rw[show cx.toArray.toList=cx from rfl,ex] at W;rw[show cy.toArray.toList=cy from rfl,ey] at X;simp only[Op.eqItems,Sem.run_bind,W,X,Result.andThen_ok];have R:=run_equalIn_int w d Z k k a b F.int;simp only[bW,Ty.isAgg,iD,List.headD_cons,R,mh,Result.andThen_ok,hxi,hyi,O8];cases hb:(a==b) with
        | true =>
          have S:a=b:=by simpa using hb
          simp only[abu,Kn,sR,S,HE,abv];exact ihs λj hj=>hi j (oA _ hj)
        | false =>
          have S:¬a=b:=by simpa using hb
          simp[S]
     rw[item _ λi hi=>B5.1 hi]
     congr 1
     unfold eqL;rw[HC,va];simp only[B5,nI];constructor
     .intro h;apply Nk;intro i;by_cases G:i<n
      .exact h i G
      .rw[Ni<|by rw[show x.length=n from hxl];omega,Ni (by rw[show y.length=n from hyl];omega)]
     .intro h i _;exact congrArg (λl=>l[i]?) h
   | _=>cases m
 | unit =>
   refine⟨(λd tid x y cx cy c g=>by simp[Den,ew] at g),λd off v x y cx cy o s c g A C m J K h2 h3 h4=>?_⟩;cases v with
   | nil=>obtain rfl:=aE m;rfl
   | cons f r=>simp[pq,ew] at g
 | pair a b Y ihb =>
   have key:(∀(d off:Nat) (v:List Field) (x y:(Ty.pair a b).den) (cx cy:List Value) (o s:Array Value) (c:Bool),pq P (.pair a b) off v->bB w γ.I (.pair a b) x cx->bB w γ.I (.pair a b) y cy->Ty.eqv (.pair a b) x y=some c->(Ty.pair a b).D4<d+1 ->
    o.toList.drop off=cx->s.toList.drop off=cy->off<=o.size->off<=s.size->(Op.eqFields d o s v).run P w=.ok c w):=by
    intro d off v x y cx cy o s c g A C m J K h2 h3 h4;obtain⟨f,r,rfl,L,F,k3,k4,k5⟩:=g.cons;obtain⟨x1,x2,D,hx1,hx2⟩:=A;obtain⟨y1,y2,E,hy1,hy2⟩:=C;simp only[Ty.eqv] at m;cases H:Ty.eqv a x.1 y.1 with
    | none=>rw[H] at m;cases m
    | some p =>
      cases T:Ty.eqv b x.2 y.2 with
      | none=>rw[H,T] at m;cases m
      | some q =>
        rw[H,T] at m;obtain rfl:=aE m;have hlx:=hx1.length;have hly:=hy1.length;have lx:o.size-off=x1.length+x2.length:=by
         have:=congrArg List.length (K.trans D);simpa using this
        have ly:s.size-off=y1.length+y2.length:=by
         have:=congrArg List.length (h2.trans E);simpa using this
        have W:=Bk (w:=w) k3 (cs:=o) (off:=f.offset) (by omega) rQ;have X:=Bk (w:=w) k3 (cs:=s) (off:=f.offset) (by omega) rQ;have ex:(o.toList.drop f.offset).take a.size=x1:=by rw[L,K,D,<-hlx,Kp]
        have ey:(s.toList.drop f.offset).take a.size=y1:=by rw[L,h2,E,<-hly,Kp]
        rw[ex] at W;rw[ey] at X;have VE:(Ty.pair a b).D4=a.D4+b.D4+1:=rfl;have hra:=S2 a;have hrb:=S2 b;have R:=Y.1 d f.type x.1 y.1 x1 y1 p k3 hx1 hy1 H (by omega);simp only[Op.eqFields,bd F,Sem.run_bind,W,X,R,Result.andThen_ok];cases p with
        | false=>simp[an]
        | true =>
          simp only[abu,Kn,sR];rw[ihb.2 d (off+a.size) r x.2 y.2 x2 y2 o s q k5 hx2 hy2 T (by omega) (by rw[<-vZ,K,D,<-hlx,BL]) (by rw[<-vZ,h2,E,<-hly,BL]) (by omega)<|by omega];simp[an]
   refine⟨λd tid x y cx cy c g A C m J=>?_,λd off v x y cx cy o s c g A C m J=>key d off v x y cx cy o s c g A C m (by omega)⟩;obtain⟨d,rfl⟩:∃e,d=e+1:=⟨d-1,by omega⟩;obtain⟨v,L,F,k3,k4⟩:=g.pair;have hf:P.fieldsOf tid=v:=by simp[Program.fieldsOf,L]
   show(Op.equalIn (d+1) tid (.agg _)<|.agg _).run P w=_
   rw[run_equalIn_struct w d tid _ _ (by rw[hf];exact L) k4,hf];exact key d 0 v.toList x y cx cy _ _ c F A C m (by omega) (by simp) (by simp) (by simp) (by simp)
end
end Go.Ge
