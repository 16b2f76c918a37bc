/- A ghost interpreter of the model's code, and that it tells the truth: part 2. It says of a function of plain data what a call of it comes to. -/
import Derived.Test.YtbaijbjhkmoidaaGreatDoorGeA
import Derived.Maps.Own
import Derived.Laws.StructEq
import Derived.ChangeKeysEq
set_option linter.unusedVariables false
set_option linter.unusedSimpArgs false
set_option linter.unusedSectionVars false
namespace Go.Ge
structure Gh where
 I:Nat->Nat->Prop
 loc:Nat->Option (Nat×Nat)
def bX(t:Ty)(cs:List Value):Value:=bif t.isAgg then .agg cs.toArray else cs.headD undef
def bg(w:World)(I:Nat->Nat->Prop):(t:Ty)->t.den->List Value->Prop
 | .int k,n,cs=>cs=[.int k n]/\k.min<=(show Int from n)/\(show Int from n)<=k.max
 | .bool,b,cs=>cs=[.bool b]
 | .str,s,cs=>cs=[.string ⟨List.toArray (α:=UInt8) s⟩]/\List.length (α:=UInt8) s<=maxLen
 | .slice e,l,cs=>((∃h,cs=[.slice h 0 0])/\l=([]:List e.den)) \/
  ∃f off g,cs=[.slice (some ⟨f,off,none⟩) (List.length (α:=e.den) l) g]/\List.length (α:=e.den) l<=g/\g<=maxLen /\
   ∀(i:Nat) (x:e.den),(show List e.den from l)[i]?=some x->∃es:List Value,es.length=e.size /\
    (∀(j:Nat) v,es[j]?=some v->w.cell? ⟨f,off+i*e.size+j,none⟩=some v/\I f (off+i*e.size+j))/\bg w I e x es
 | .arr n e,l,cs=>List.length (α:=e.den) l=n/\cs.length=n*e.size /\
  ∀(i:Nat) (x:e.den),(show List e.den from l)[i]?=some x->bg w I e x ((cs.drop<|i*e.size).take e.size)
 | .pair a b,x,cs=>∃m o,cs=m++o/\bg w I a x.1 m/\bg w I b x.2 o
 | .unit,_,cs=>cs=[]
 | .alt u a r,x,cs=>match(show a.den⊕r.den from x) with
   | .inl y=>r.size=1/\∃c,cs=[.iface u<|bX a c]/\bg w I a y c
   | .inr z=>bg w I r z cs
 | .rr,_,cs=>cs=[.nilIface]
theorem bg.length{w:World}{I:Nat->Nat->Prop}:∀{t:Ty} {x:t.den} {cs:List Value},bg w I t x cs->cs.length=t.size:=by
 intro t;induction t with
 | int k=>intro x cs h;rw[h.1];rfl
 | bool=>intro x cs h;rw[h];rfl
 | str=>intro x cs h;rw[h.1];rfl
 | slice e l=>intro x cs h;rcases h with ⟨⟨_,h⟩,_⟩|⟨_,_,_,h,_⟩<;>rw[h]<;>rfl
 | arr n e l=>intro x cs h;exact h.2.1
 | pair a b f g=>intro x cs h;obtain⟨o,p,rfl,i,m⟩:=h;rw[l9,f i,g m];rfl
 | unit=>intro x cs h;rw[h];rfl
 | alt u a r f j =>
   intro x cs h;rcases x with y|z
   .obtain⟨i,c,rfl,_⟩:=h;exact i.symm
   .exact j (show bg w I r z cs from h)
 | rr=>intro x cs h;rw[show cs=_ from h];rfl
theorem bg.mono{w E:World}{I I':Nat->Nat->Prop}(F:∀b o,I b o->I' b o)(G:∀b o,I b o->E.cell? ⟨b,o,none⟩=w.cell? ⟨b,o,none⟩) :
  ∀{t:Ty} {x:t.den} {cs:List Value},bg w I t x cs->bg E I' t x cs:=by
 intro t;induction t with
 | int k=>intro x cs h;exact h
 | bool=>intro x cs h;exact h
 | str=>intro x cs h;exact h
 | slice e m =>
   intro x cs h;rcases h with h|⟨blk,p,q,g,l,s,H⟩
   .exact .inl h
   .refine .inr ⟨blk,p,q,g,l,s,λi y A=>?_⟩;obtain⟨es,J,K,L⟩:=H i y A;exact⟨es,J,λj v M=>by obtain⟨a,b⟩:=K j v M;exact⟨by rw[G _ _ b];exact a,F _ _ b⟩,m L⟩
 | arr n e m=>intro x cs h;exact⟨h.1,h.2.1,λi y A=>m (h.2.2 i y A)⟩
 | pair a b f C=>intro x cs h;obtain⟨O,Q,R,g,l⟩:=h;exact⟨O,Q,R,f g,C l⟩
 | unit=>intro x cs h;exact h
 | alt u a r f D =>
   intro x cs h;rcases x with y|z
   .obtain⟨g,c,l,s⟩:=h;exact⟨g,c,l,f s⟩
   .exact D (show bg w I r z cs from h)
 | rr=>intro x cs h;exact h
theorem bg.one{w:World}{I:Nat->Nat->Prop}:∀{t:Ty} {x:t.den} {cs:List Value},bg w I t x cs->∀v∈cs,v.oneCell'=true:=by
 intro t;induction t with
 | int k=>intro x cs h v f;rw[h.1] at f;simp at f;subst f;rfl
 | bool=>intro x cs h v f;rw[h] at f;simp at f;subst f;rfl
 | str=>intro x cs h v f;rw[h.1] at f;simp at f;subst f;rfl
 | slice e s=>intro x cs h v f;rcases h with ⟨⟨_,h⟩,_⟩|⟨_,_,_,h,_⟩<;>rw[h] at f<;>simp at f<;>subst f<;>rfl
 | arr n e s =>
   intro x cs h v f;obtain⟨i,j,A⟩:=h;obtain⟨k,D,l⟩:=Gi f;have C:0<e.size:=by
    rcases Gk e.size with m|m
    .rw[m,Nat.mul_zero] at j;omega
    .exact m
   have hdiv:k / e.size<n:=by rw[Nb C];omega
   have hx:∃y,(show List e.den from x)[k / e.size]?=some y:=⟨_,nP (by rw[i];exact hdiv)⟩;obtain⟨y,E⟩:=hx;refine s (A _ y E) v ?_;have F:=sJ k C;have o:k / e.size*e.size+k % e.size=k:=by rw[Nat.mul_comm];exact Jt k e.size
   have:((cs.drop<|k / e.size*e.size).take e.size)[k % e.size]?=some v:=by
    rw[kK,bH F,pT,o,nP D,l]
   exact od this
 | pair a b g p =>
   intro x cs h v f;obtain⟨G,H,rfl,i,j⟩:=h;rcases lW.1 f with f|f
   .exact g i v f
   .exact p j v f
 | unit=>intro x cs h v f;rw[h] at f;cases f
 | alt u a r g q =>
   intro x cs h v f;rcases x with y|z
   .obtain⟨i,c,rfl,A⟩:=h;simp at f;subst f;rfl
   .exact q (show bg w I r z cs from h) v f
 | rr=>intro x cs h v f;rw[show cs=_ from h] at f;simp at f;subst f;rfl
theorem lf{w:World}{I:Nat->Nat->Prop}:∀{t:Ty} {x:t.den} {cs:List Value},bg w I t x cs->(bX t cs).cells.toList=cs:=by
 intro t;induction t with
 | int k=>intro x cs h;unfold bX;rw[h.1];rfl
 | bool=>intro x cs h;unfold bX;rw[h];rfl
 | str=>intro x cs h;unfold bX;rw[h.1];rfl
 | slice e=>intro x cs h;unfold bX;rcases h with ⟨⟨_,h⟩,_⟩|⟨_,_,_,h,_⟩<;>rw[h]<;>rfl
 | arr n e=>intro x cs h;rfl
 | pair a b=>intro x cs h;rfl
 | unit=>intro x cs h;rfl
 | alt u a r g f =>
   intro x cs h;rcases x with y|z
   .obtain⟨i,c,rfl,j⟩:=h;unfold bX Ty.isAgg;cases r.isAgg<;>rfl
   .exact f (show bg w I r z cs from h)
 | rr=>intro x cs h;unfold bX;rw[show cs=_ from h];rfl
inductive Mode where
 | cells|val|many
def mN(b:Option Addr)(c:Nat):Prop:=c=0\/∃e f,b=some ⟨e,f,none⟩
def b3:List rW->Nat
 | []=>0
 | .AR _ off::p=>off+b3 p
 | .idx i size::p=>i.toNat*size+b3 p
theorem qg(p q:List rW):b3 (p++q)=b3 p+b3 q:=by
 induction p with
 | nil=>simp[b3]
 | cons s p b=>cases s<;>simp[b3,b]<;>omega
section
variable (γ:Gh) (mem:Nat->Option aS) (w:World)
def sW(g:aS)(b:Nat)(h:Int)(c:Option Addr)(e:Nat):Prop:=h=0->g.buf=true->(γ.loc b=none/\c=none/\e=0)\/∃f,γ.loc b=some (f,e)/\c=some ⟨f,0,none⟩
def pd(I:Nat->Nat->Prop)(b c:Nat)(e:List Value):Prop:=∀(j:Nat) v,e[j]?=some v->w.cell? ⟨b,c+j,none⟩=some v/\I b (c+j)
def gC(b c:Nat)(K:aS->Prop):Prop:=∃e,mem b=some e/\c<=e.au/\(e.au=c->K e)
def bw:ax->Mode->List Value->Prop
 | .undef,.val,g=>∃v,g=[v]
 | .undef,.cells,g=>∃v,g=[v]/\v.oneCell'=true
 | .undef,.many,_=>False
 | .data t x,.cells,g=>bg w γ.I t x g
 | .data t x,.val,g=>∃cs,bg w γ.I t x cs/\g=[bX t cs]
 | .data _ _,.many,_=>False
 | .mix a b,.cells,g=>∃m o,g=m++o/\bw a .cells m/\bw b .cells o
 | .mix a b,.val,g=>∃m o,g=[.agg (m++o).toArray]/\bw a .cells m/\bw b .cells o
 | .mix a b,.many,g=>∃v r,g=v::r/\bw a .val [v]/\bw b .many r
 | .nl,.many,g=>g=[]
 | .nl,_,_=>False
 | .pG u,.val,g=>∃j:Array Value,g=[.tuple j]/\bw u .many j.toList
 | .pG _,_,_=>False
 | .cB,.many,_=>False
 | .cB,_,g=>g=[.pointer none]
 | .lA,.many,_=>False
 | .lA,_,g=>g=[.nilIface]
 | .ny _ _,.many,_=>False
 | .ny b au,_,g=>(∃v,g=[v]/\v.oneCell'=true)/\gC mem b au λ_=>∃h cap,γ.loc b=some (h,cap)/\(g=[.pointer none]\/g=[.pointer<|some ⟨h,0,none⟩])
 | .vv,.many,_=>False
 | .vv,_,g=>g=[.map none]
 | .jt,.many,_=>False
 | .jt,_,g=>g=[.slice none 0 0]
 | .cell _ _,.many,_=>False
 | .cell t x,_,g=>∃h off cs,g=[.pointer<|some ⟨h,off,none⟩]/\bg w γ.I t x cs/\pd w γ.I h off cs
 | .ptr _ _ _,.many,_=>False
 | .ptr b au p,_,g=>(∃v,g=[v]/\v.oneCell'=true)/\gC mem b au λ_=>∃h cap,γ.loc b=some (h,cap)/\g=[.pointer<|some ⟨h,b3 p,none⟩]
 | .whole _ _,.many,_=>False
 | .whole b au,_,g=>(∃v,g=[v]/\v.oneCell'=true)/\gC mem b au λbx=>∃e n,bx.buf=true/\bx.row=some (e,n) /\
  ((γ.loc b=none/\g=[.slice none 0 0])\/∃h cap,γ.loc b=some (h,cap)/\g=[.slice (some ⟨h,0,none⟩) n cap])
 | .kM _ _,.many,_=>False
 | .kM b au,_,g=>(∃v,g=[v]/\v.oneCell'=true)/\gC mem b au λbx=>bx.buf=true/\((γ.loc b=none/\g=[.map none])\/∃h cap,γ.loc b=some (h,cap)/\g=[.map<|some h])
 | .ju _,_,_=>False
 | .part _ _ _ _,.many,_=>False
 | .part b au lo n,_,g=>(∃v,g=[v]/\v.oneCell'=true)/\gC mem b au λbx=>∃e k,bx.row=some (e,k)/\0<=lo/\0<=n/\lo+n<=k /\
  ∃base cap,g=[.slice base n.toNat cap]/\n.toNat<=cap/\cap<=maxLen/\(mN base cap/\sW γ bx b lo base cap)/\(n=0\/∃h c,γ.loc b=some (h,c)/\base=some ⟨h,lo.toNat*e.size,none⟩)
 | .win _ _ _ _ _ _ _,.many,_=>False
 | .win b au q e k lo n,_,g=>(∃v,g=[v]/\v.oneCell'=true)/\gC mem b au λ_=>q≠[]/\∃h c,γ.loc b=some (h,c)/\0<=lo/\0<=n/\lo+n<=k /\
  ∃base cap,g=[.slice base n.toNat cap]/\n.toNat<=cap/\(n=0\/base=some ⟨h,b3 q+lo.toNat*e.size,none⟩)
 | .fn _ _,.many,_=>False
 | .fn f l,_,g=>∃j:Array Value,g=[oj f j]/\j.size=l.length /\
  ∀(i:Nat) b au,l[i]?=some (b,au)->gC mem b au λ_=>∃h cap,γ.loc b=some (h,cap)/\j[i]?=some (.pointer<|some ⟨h,0,none⟩)
def iD(c:Array Value)(e:Nat×Nat):Prop:=∀b,b<c.size->¬(e.1<=b/\b<e.2)
def Ty.isInt:Ty->Bool
 | .int _=>true
 | _=>false
structure LP (e:Ty) (cur:Array Value) (fr:Nat×Nat):Prop where
 th:iD cur fr
 um:e.isInt=false->¬(fr.1<=cur.size/\cur.size<fr.2)
def PY(l:List (Int×Int×ah)):DataW ah:=.map (l.map λp=>(.int .i64 p.1,.lit (.int .i64 p.2.1)))
def uY(o:Obj)(l:List (Int×Int×ah)):Prop:=∃(P:Program) (k:TypeId) (es:Array MapEntry) (clock:Nat),P.underlying k=some (.int .i64)/\o=.map es clock /\
 WideElems.Fit (H:=ah) P k (plainElem P k) es clock/\PY l=.map ((es.toList.map<|WideElems.rg P k<|plainElem P k).foldr DataW.insert [])
def OJ(b:Nat)(f:aS):Prop:=∃l,f.val=.ju l/\((γ.loc b=none/\l=[])\/∃c e o,γ.loc b=some (c,e)/\w.heap[c]?=some o/\uY o l)
def JM(b:Nat)(h:aS):Prop:=∃(e:Ty) (l:List e.den),h.val=.data (.slice e) l/\0<e.size /\
 ((γ.loc b=none/\l=[])\/∃g c f tid j,γ.loc b=some (g,c)/\w.heap[g]?=some (.cells f tid j)/\LP e f j/\(h.tid=0\/tid=h.tid)/\l.length<=c/\c<=maxLen /\
  f.size=c*e.size/\∀(i:Nat) (x:e.den),l[i]?=some x->bg w γ.I e x ((f.toList.drop<|i*e.size).take e.size))
def ca(b:Nat)(bx:aS):Prop :=
 match bx.buf with
 | true=>OJ γ w b bx\/JM γ w b bx
 | false=>∃e f c tid g,γ.loc b=some (e,f)/\w.heap[e]?=some (.cells c tid g)/\iD c g/\(bx.tid=0\/tid=bx.tid)/\bw γ mem w bx.val .cells c.toList
end
theorem ca.Hq{e:Gh}{c:Nat->Option aS}{w:World}{b:Nat}{bx:aS}(h:ca e c w b bx)(f:bx.buf=true)(g:∀l,bx.val≠.ju l):JM e w b bx:=by
 unfold ca at h;rw[f] at h;rcases h with ⟨l,h,_⟩|h
 .exact absurd h (g l)
 .exact h
def EB(b:aS):Nat->Prop:=λc=>b.ro=true/\(b.buf=true->∀e n,b.row=some (e,n)->c<n*e.size)
abbrev eg:=Nat->(Obj->Prop)->Prop
def nA:eg:=λ_ _=>False
def mO(G:eg)(w:World):Prop:=∀b Q,G b Q->∃o,w.heap[b]?=some o/\Q o
structure Own where
 lo:Nat
 X:Nat->Prop
 G:eg
def Own.has(B:Own)(k:Nat):Prop:=B.lo<=k\/B.X k
def ga(G:eg)(n:Nat):Own:=⟨n,λ_=>False,G⟩
theorem jx{G:eg}{n k:Nat}:(ga G n).has k↔n<=k:=⟨λh=>h.elim id False.elim,.inl⟩
structure lg (B:Own) (w w':World):Prop where
 os:w'.os=w.os
 tape:w'.tape=w.tape
 output:w'.output=w.output
 size:w.heap.size<=w'.heap.size
 block:∀k,¬B.has k->w'.heap[k]?=w.heap[k]?
theorem lg.refl(B:Own)(w:World):lg B w w:=⟨rfl,rfl,rfl,cU _,λ_ _=>rfl⟩
theorem lg.trans{B:Own}{a b c:World}(h:lg B a b)(k:lg B b c):lg B a c :=
 ⟨k.os.trans h.os,k.tape.trans h.tape,k.output.trans h.output,iA h.size k.size,λi e=>(k.block i e).trans (h.block i e)⟩
theorem lg.of{B:Own}{w b:World}(h:RowKit.Below B.lo w b):lg B w b:=⟨h.os,h.tape,h.output,h.size,λk c=>h.block k (Gl λq=>c (.inl q))⟩
theorem lg.below{G:eg}{n:Nat}{w b:World}(h:lg (ga G n) w b):RowKit.Below n w b:=⟨h.os,h.tape,h.output,h.size,λk c=>h.block k λq=>by have:=jx.1 q;omega⟩
theorem lg.drew{B:Own}{a w:World}(h:lg B a w):lg B a w.drew:=⟨h.os,h.tape,h.output,h.size,h.block⟩
theorem lg.alloc{B:Own}{a w:World}(h:lg B a w)(b:B.lo<=w.heap.size)(o:Obj):lg B a (w.alloc o):=h.trans (.of<|(RowKit.Below.refl _ _).alloc b o)
structure aO (B:Own) (γ:Gh) (mem:Nat->Option aS) (w:World):Prop where
 base:B.lo<=w.heap.size
 boxes:∀b bx,mem b=some bx->ca γ mem w b bx
 inj:∀b c blk k k',mem b≠none->mem c≠none->γ.loc b=some (blk,k)->γ.loc c=some (blk,k')->b=c
 fresh:∀b blk k,mem b≠none->γ.loc b=some (blk,k)->B.has blk/\blk<w.heap.size
 lX:∀blk off,γ.I blk off->blk<w.heap.size
 sep:∀b bx blk k off,mem b=some bx->γ.loc b=some (blk,k)->γ.I blk off->EB bx off
 bD:∀b Q,B.G b Q->¬B.has b/\∃o,w.heap[b]?=some o/\Q o
structure b6 (B:Own) (N:Nat) (γ:Gh) (σ:St) (a:Act) (w:World):Prop where
 slots:∀t,bw γ σ.mem w (σ.slots t) .val [a.tmps.getD t undef]
 size:a.tmps.size=N
 defers:a.defers=[]
 ok:aO B γ σ.mem w
structure Ext (B:Own) (γ:Gh) (mem:Nat->Option aS) (w:World) (bc:Gh) (cm:Nat->Option aS) (w':World):Prop where
 below:lg B w w'
 I:∀b o,γ.I b o->bc.I b o
 mo:∀b o,bc.I b o->γ.I b o\/B.has b
 cells:∀b o,γ.I b o->w'.cell? ⟨b,o,none⟩=w.cell? ⟨b,o,none⟩
 boxes:∀b bx,mem b=some bx->∃j9,cm b=some j9/\bx.au<=j9.au/\(j9.au=bx.au->bc.loc b=γ.loc b/\j9.buf=bx.buf/\j9.row=bx.row)
theorem aO.sX{B:Own}{k j:Gh}{e f:Nat->Option aS}{w l:World}(h:aO B k e w)(x:Ext B k e w j f l):∀b Q,B.G b Q->¬B.has b/\∃o,l.heap[b]?=some o/\Q o:=λb Q g=>by
 obtain⟨i,o,c,q⟩:=h.bD b Q g;exact⟨i,o,(x.below.block b i).trans c,q⟩
theorem aO.A2{B:Own}{e:Gh}{c:Nat->Option aS}{w:World}(h:aO B e c w):mO B.G w:=λb Q g=>(h.bD b Q g).2
theorem Ext.refl(B:Own)(γ:Gh)(mem:Nat->Option aS)(w:World):Ext B γ mem w γ mem w :=
 ⟨lg.refl _ _,λ_ _ h=>h,λ_ _ h=>.inl h,λ_ _ _=>rfl,λb bx h=>⟨bx,h,cU _,λ_=>⟨rfl,rfl,rfl⟩⟩⟩
theorem Ext.trans{B:Own}{n j f:Gh}{l g c:Nat->Option aS}{w p m:World}(h:Ext B n l w j g p)(k:Ext B j g p f c m) :
  Ext B n l w f c m where
 below:=h.below.trans k.below
 I:=λb o x=>k.I _ _ (h.I _ _ x)
 mo:=λb o x=>by
  rcases k.mo b o x with y|y
  .exact h.mo b o y
  .exact .inr y
 cells:=λb o x=>(k.cells _ _<|h.I _ _ x).trans (h.cells _ _ x)
 boxes:=λb bx x=>by
  obtain⟨j9,q,r,s⟩:=h.boxes b bx x;obtain⟨i,t,u,v⟩:=k.boxes b j9 q;refine⟨i,t,iA r u,λe=>?_⟩;have z:j9.au=bx.au:=by omega
  have A:i.au=j9.au:=by omega
  obtain⟨C,D,E⟩:=s z;obtain⟨F,G,H⟩:=v A;exact⟨F.trans C,G.trans D,H.trans E⟩
theorem gC.ext{B:Own}{k j:Gh}{g c:Nat->Option aS}{w o:World}(h:Ext B k g w j c o){b i:Nat}{K l:aS->Prop}(p:gC g b i K)
  (q:∀f j9,g b=some f->c b=some j9->j.loc b=k.loc b->j9.buf=f.buf->j9.row=f.row->K f->l j9):gC c b i l:=by
 obtain⟨f,m,r,s⟩:=p;obtain⟨j9,n,t,u⟩:=h.boxes b f m;refine⟨j9,n,iA r t,λe=>?_⟩;have v:f.au=i:=by omega
 obtain⟨x,y,z⟩:=u (by omega);exact q f j9 m n x y z (s v)
theorem pd.ext{w e:World}{I f:Nat->Nat->Prop}(g:∀b o,I b o->f b o)(i:∀b o,I b o->e.cell? ⟨b,o,none⟩=w.cell? ⟨b,o,none⟩){blk c:Nat}{cs:List Value}
  (h:pd w I blk c cs):pd e f blk c cs :=
 λj v k=>by obtain⟨a,b⟩:=h j v k;exact⟨by rw[i _ _ b];exact a,g _ _ b⟩
theorem bw.ext{B:Own}{Q H:Gh}{J C:Nat->Option aS}{w R:World}(h:Ext B Q J w H C R):∀{v:ax} {m:Mode} {g:List Value},bw Q J w v m g->bw H C R v m g:=by
 intro v;induction v with
 | undef=>intro m g r;cases m<;>exact r
 | data t x =>
   intro m g r;cases m with
   | cells=>exact bg.mono h.I h.cells r
   | val=>obtain⟨cs,j,o⟩:=r;exact⟨cs,bg.mono h.I h.cells j,o⟩
   | many=>exact r
 | jt=>intro m g r;cases m<;>exact r
 | vv=>intro m g r;cases m<;>exact r
 | cB=>intro m g r;cases m<;>exact r
 | lA=>intro m g r;cases m<;>exact r
 | ny b au =>
   intro m g r;cases m with
   | many=>exact r
   | cells=>exact⟨r.1,r.2.ext h λs j9 _ _ c _ _ k=>by rw[c];exact k⟩
   | val=>exact⟨r.1,r.2.ext h λs j9 _ _ c _ _ k=>by rw[c];exact k⟩
 | cell t x =>
   intro m g r;cases m with
   | many=>exact r
   | cells=>obtain⟨blk,D,cs,j,o,E⟩:=r;exact⟨blk,D,cs,j,bg.mono h.I h.cells o,E.ext h.I h.cells⟩
   | val=>obtain⟨blk,D,cs,j,o,E⟩:=r;exact⟨blk,D,cs,j,bg.mono h.I h.cells o,E.ext h.I h.cells⟩
 | ptr b au p =>
   intro m g r;cases m with
   | many=>exact r
   | cells=>exact⟨r.1,r.2.ext h λs j9 _ _ c _ _ k=>by rw[c];exact k⟩
   | val=>exact⟨r.1,r.2.ext h λs j9 _ _ c _ _ k=>by rw[c];exact k⟩
 | whole b au =>
   intro m g r;cases m with
   | many=>exact r
   | cells=>exact⟨r.1,r.2.ext h λs j9 _ _ c y A k=>by rw[c,y,A];exact k⟩
   | val=>exact⟨r.1,r.2.ext h λs j9 _ _ c y A k=>by rw[c,y,A];exact k⟩
 | kM b au =>
   intro m g r;cases m with
   | many=>exact r
   | cells=>exact⟨r.1,r.2.ext h λs j9 _ _ c y A k=>by rw[c,y];exact k⟩
   | val=>exact⟨r.1,r.2.ext h λs j9 _ _ c y A k=>by rw[c,y];exact k⟩
 | ju l=>intro m g r;cases m<;>exact r
 | part b au lo n =>
   intro m g r;cases m with
   | many=>exact r
   | cells=>exact⟨r.1,r.2.ext h λs j9 _ _ c y A k=>by unfold sW at k⊢;rw[c,y,A];exact k⟩
   | val=>exact⟨r.1,r.2.ext h λs j9 _ _ c y A k=>by unfold sW at k⊢;rw[c,y,A];exact k⟩
 | win b au q e k lo n =>
   intro m g r;cases m with
   | many=>exact r
   | cells=>exact⟨r.1,r.2.ext h λs j9 _ _ c _ _ k=>by rw[c];exact k⟩
   | val=>exact⟨r.1,r.2.ext h λs j9 _ _ c _ _ k=>by rw[c];exact k⟩
 | fn f S =>
   intro m g r;cases m with
   | many=>exact r
   | cells=>obtain⟨z,j,o,E⟩:=r;exact⟨z,j,o,λi b au O=>(E i b au O).ext h λs j9 _ _ c _ _ k=>by rw[c];exact k⟩
   | val=>obtain⟨z,j,o,E⟩:=r;exact⟨z,j,o,λi b au O=>(E i b au O).ext h λs j9 _ _ c _ _ k=>by rw[c];exact k⟩
 | mix a b F G =>
   intro m g r;cases m with
   | cells=>obtain⟨K,L,M,j,o⟩:=r;exact⟨K,L,M,F j,G o⟩
   | val=>obtain⟨K,L,M,j,o⟩:=r;exact⟨K,L,M,F j,G o⟩
   | many=>obtain⟨K,L,M,j,o⟩:=r;exact⟨K,L,M,F j,G o⟩
 | pG u T =>
   intro m g r;cases m with
   | val=>obtain⟨z,j,o⟩:=r;exact⟨z,j,T o⟩
   | cells=>exact r
   | many=>exact r
 | nl=>intro m g r;cases m<;>exact r
def cS:Ty->List Value
 | .int k=>[.int k 0]
 | .bool=>[.bool false]
 | .str=>[.string ⟨#[]⟩]
 | .slice _=>[.slice none 0 0]
 | .arr n e=>(List.replicate n<|cS e).flatten
 | .pair a b=>cS a++cS b
 | .unit=>[]
 | .alt _ _ r=>cS r
 | .rr=>[.nilIface]
theorem dk(t:Ty):(cS t).length=t.size:=by
 induction t with
 | arr n e h=>simp[cS,Ty.size,h]
 | pair a b c f=>simp[cS,Ty.size,c,f]
 | alt u a r c g=>exact g
 | _=>rfl
theorem de{b:Type}(l:List b):∀(n i:Nat),i<n->((List.replicate n l).flatten.drop<|i*l.length).take l.length=l
 | 0,i,h=>absurd h (by omega)
 | n+1,0,_=>by simp[List.replicate_succ]
 | n+1,i+1,h=>by
   rw[List.replicate_succ,List.flatten_cons,p6,Gr,<-oZ,rV];exact de l n i (by omega)
theorem ia(w:World)(I:Nat->Nat->Prop):∀t:Ty,bg w I t t.zero (cS t):=by
 intro t;induction t with
 | int k=>exact⟨rfl,by cases k<;>decide,by cases k<;>decide⟩
 | bool=>rfl
 | str=>exact⟨rfl,jO _⟩
 | slice e j=>exact .inl ⟨⟨none,rfl⟩,rfl⟩
 | arr n e j =>
   refine⟨List.length_replicate,by rw[dk];rfl,λi x l=>?_⟩;have c:(List.replicate n e.zero)[i]?=some x:=l;rw[Gf] at c;split at c
   .rename_i m;obtain rfl:e.zero=x:=by simpa using c
    have:=de (cS e) n i m;rw[dk] at this;show bg w I e e.zero (((List.replicate n<|cS e).flatten.drop<|i*e.size).take e.size)
    rw[this];exact j
   .cases c
 | pair a b f g=>exact⟨_,_,rfl,f,g⟩
 | unit=>rfl
 | alt u a r f h=>exact h
 | rr=>rfl
def A3:Value->Value->Bool
 | .int k n,.int c m=>Nat.beq (pF k) (pF c)&&decide (n=m)
 | .bool a,.bool b=>a==b
 | .string a,.string b=>decide (a.data.toList=b.data.toList)
 | .slice none 0 0,.slice none 0 0=>true
 | .pointer none,.pointer none=>true
 | .map none,.map none=>true
 | .nilIface,.nilIface=>true
 | _,_=>false
theorem EC{a b:Value}(h:A3 a b=true):a=b:=by
 unfold A3 at h;split at h
 .simp only[cA,yV] at h;rw[oh h.1,h.2]
 .simpa using h
 .rename_i a b;obtain⟨⟨a⟩⟩:=a;obtain⟨⟨b⟩⟩:=b;have c:a=b:=by simpa using h
  rw[c]
 .rfl
 .rfl
 .rfl
 .rfl
 .cases h
def sY:List Value->List Value->Bool
 | [],[]=>true
 | a::r,b::s=>A3 a b&&sY r s
 | _,_=>false
theorem uZ:∀{a b:List Value},sY a b=true->a=b
 | [],[],_=>rfl
 | a::r,b::s,h=>by simp only[sY,cA] at h;rw[EC h.1,uZ h.2]
 | [],_::_,h=>by cases h
 | _::_,[],h=>by cases h
def rF(P:Program)(c:TypeId)(b:Nat)(e:List Value):Bool :=
 match P.info? c with
 | some i=>Nat.beq i.size b&&(match i.zero with|some z=>sY z.cells.toList e|none=>false)
 | none=>false
theorem fR{P:Program}{c:TypeId}{b:Nat}{e:List Value}(h:rF P c b e=true) :
  ∃i z,P.info? c=some i/\i.size=b/\i.zero=some z/\z.cells.toList=e:=by
 unfold rF at h;split at h
 .rename_i i f;simp only[cA] at h;split at h
  .rename_i z g;exact⟨i,z,f,cG h.1,g,uZ h.2⟩
  .cases h.2
 .cases h
def w8(P:Program)(b:TypeId):Bool :=
 match P.info? b with
 | some i=>Nat.ble i.bytes 32768
 | none=>false
def Ty.JN:Ty->Bool
 | .alt _ _ r=>r.JN
 | .rr=>true
 | _=>false
def ed(P:Program):Ty->Bool->TypeId->Nat->List Field->Bool
 | .int k,false,tid,_,_=>(match P.underlying tid with|some (.int g)=>Nat.beq (pF k) (pF g)|_=>false)&&rF P tid 1 [.int k 0]
 | .bool,false,tid,_,_=>(match P.underlying tid with|some .bool=>true|_=>false)&&rF P tid 1 [.bool false]
 | .str,false,tid,_,_=>(match P.underlying tid with|some .string=>true|_=>false)&&rF P tid 1 [.string ⟨#[]⟩]
 | .slice e,false,tid,_,_=>(match P.underlying tid with|some (.slice c)=>ed P e false c 0 []&&w8 P c&&Nat.blt 0 e.size|_=>false)&&rF P tid 1 [.slice none 0 0]
 | .arr n e,false,tid,_,_=>(match P.underlying tid with|some (.array m c)=>Nat.beq n m&&ed P e false c 0 []&&Nat.blt 0 e.size|_=>false)&&rF P tid (n*e.size) (cS<|.arr n e)&&!P.eqGuardType P.depth tid
 | .pair a b,false,tid,_,_=>(match P.underlying tid with
  | some (.struct h)=>(match h.toList with
    | f::r=>Nat.beq f.offset 0&&decide (f.name ≠ "_")&&ed P a false f.type 0 []&&Nat.blt 0 a.size&&ed P b true 0 a.size r
    | []=>false)
  | _=>false)&&rF P tid (a.size+b.size) (cS<|.pair a b)&&!P.eqGuardType P.depth tid&&!P.stoodInHeld tid
 | .unit,false,tid,_,_=>false
 | .alt u _ r,false,tid,_,_=>ed P r false tid 0 []&&P.concrete u&&r.JN
 | .rr,false,tid,_,_=>(match P.underlying tid with|some (.interface _)=>true|_=>false)&&rF P tid 1 [.nilIface]
 | .pair a b,true,_,off,f::r=>Nat.beq f.offset off&&decide (f.name ≠ "_")&&ed P a false f.type 0 []&&Nat.blt 0 a.size&&ed P b true 0 (off+a.size) r
 | .unit,true,_,_,[]=>true
 | _,_,_,_,_=>false
def Den(P:Program)(t:Ty)(b:TypeId):Prop:=ed P t false b 0 []=true
def ka(P:Program)(t:Ty)(off:Nat)(b:List Field):Prop:=ed P t true 0 off b=true
section
variable {P:Program} {tid:TypeId}
theorem Den.int{k:IntKind}(h:Den P (.int k) tid):P.underlying tid=some (.int k):=by
 simp only[Den,ed,cA] at h;have b:=h.1;split at b
 .rename_i e c;rw[c,oh b]
 .cases b
theorem Den.bool(h:Den P .bool tid):P.underlying tid=some .bool:=by
 simp only[Den,ed,cA] at h;have b:=h.1;split at b
 .rename_i c;rw[c]
 .cases b
theorem Den.str(h:Den P .str tid):P.underlying tid=some .string:=by
 simp only[Den,ed,cA] at h;have b:=h.1;split at b
 .rename_i c;rw[c]
 .cases b
theorem Den.slice{e:Ty}(h:Den P (.slice e) tid):∃b,P.underlying tid=some (.slice b)/\Den P e b/\w8 P b=true/\0<e.size:=by
 simp only[Den,ed,cA] at h;have c:=h.1;split at c
 .rename_i b f;simp only[cA] at c;exact⟨b,f,c.1.1,c.1.2,by simpa using c.2⟩
 .cases c
theorem Den.arr{n:Nat}{e:Ty}(h:Den P (.arr n e) tid):∃b,P.underlying tid=some (.array n b)/\Den P e b/\0<e.size:=by
 simp only[Den,ed,cA] at h;have c:=h.1.1;split at c
 .rename_i m b f;simp only[cA] at c;rw[cG c.1.1];exact⟨b,f,c.1.2,by simpa using c.2⟩
 .cases c
theorem Den.OK{n:Nat}{e:Ty}(h:Den P (.arr n e) tid):P.eqGuardType P.depth tid=false:=by
 simp only[Den,ed,cA,fO] at h;exact h.2
theorem Den.pair{a b:Ty}(h:Den P (.pair a b) tid):∃e,P.underlying tid=some (.struct e)/\ka P (.pair a b) 0 e.toList/\P.eqGuardType P.depth tid=false/\P.stoodInHeld tid=false:=by
 simp only[Den,ed,cA] at h;obtain⟨⟨⟨c,l⟩,g⟩,i⟩:=h;split at c
 .rename_i e j;refine⟨e,j,?_,by simpa using g,by simpa using i⟩;split at c
  .rename_i f r k;simp only[ka,k,ed,kL];exact c
  .cases c
 .cases c
theorem Den.info{t:Ty}(h:Den P t tid):∃i z,P.info? tid=some i/\i.size=t.size/\i.zero=some z/\z.cells.toList=cS t:=by
 induction t with
 | int k=>simp only[Den,ed,cA] at h;exact fR h.2
 | bool=>simp only[Den,ed,cA] at h;exact fR h.2
 | str=>simp only[Den,ed,cA] at h;exact fR h.2
 | slice e=>simp only[Den,ed,cA] at h;exact fR h.2
 | arr n e=>simp only[Den,ed,cA] at h;exact fR h.1.2
 | pair a b=>simp only[Den,ed,cA] at h;exact fR h.1.1.2
 | unit=>simp[Den,ed] at h
 | alt u a r f c=>simp only[Den,ed,cA] at h;exact c h.1.1
 | rr=>simp only[Den,ed,cA] at h;exact fR h.2
theorem Den.rr(h:Den P .rr tid):∃c,P.underlying tid=some (.interface c):=by
 simp only[Den,ed,cA] at h;have b:=h.1;split at b
 .exact⟨_,by assumption⟩
 .cases b
theorem Den.rest{u:Nat}{a r:Ty}(h:Den P (.alt u a r) tid):Den P r tid/\P.concrete u=true:=by
 simp only[Den,ed,cA] at h;exact h.1
theorem Ty.w9:∀{t:Ty},t.JN=true->t.size=1/\t.isAgg=false:=by
 intro t;induction t with
 | alt u a r c b=>intro h;exact b h
 | rr=>intro h;exact⟨rfl,rfl⟩
 | _=>intro h;cases h
theorem Den.JO{u:Nat}{a r:Ty}(_:Den P r tid)(h:Den P (.alt u a r) tid):r.size=1:=by
 simp only[Den,ed,cA] at h;exact(Ty.w9 h.2).1
theorem Den.agg{t:Ty}(h:Den P t tid)(w:World):(isAgg tid).run P w=.ok t.isAgg w:=by
 induction t with
 | alt u a r f g=>exact g h.rest.1
 | rr=>obtain⟨_,c⟩:=h.rr;unfold Go.isAgg;simp[run_underlying c,Ty.isAgg]
 | int k=>unfold Go.isAgg;simp[run_underlying h.int,Ty.isAgg]
 | bool=>unfold Go.isAgg;simp[run_underlying h.bool,Ty.isAgg]
 | str=>unfold Go.isAgg;simp[run_underlying h.str,Ty.isAgg]
 | slice e i=>unfold Go.isAgg;obtain⟨_,c,_⟩:=h.slice;simp[run_underlying c,Ty.isAgg]
 | arr n e i=>unfold Go.isAgg;obtain⟨_,c,_⟩:=h.arr;simp[run_underlying c,Ty.isAgg]
 | pair a b f j=>unfold Go.isAgg;obtain⟨_,c,_⟩:=h.pair;simp[run_underlying c,Ty.isAgg]
 | unit=>simp[Den,ed] at h
theorem Den.sizeOf{t:Ty}(h:Den P t tid)(w:World):(Go.sizeOf tid).run P w=.ok t.size w:=by
 obtain⟨i,z,b,c,_⟩:=h.info;simp[Go.sizeOf,typeInfo,b,c]
theorem Den.zero{t:Ty}(h:Den P t tid)(w:World):∃z,(zeroValue tid).run P w=.ok z w/\z.cells.toList=cS t:=by
 obtain⟨i,z,b,f,c,e⟩:=h.info;exact⟨z,by simp[zeroValue,typeInfo,b,c],e⟩
theorem Den.cells{t:Ty}(h:Den P t tid):P.cellsOf tid=t.size:=by
 obtain⟨i,z,b,c,_⟩:=h.info;simp[Program.cellsOf,b,c]
theorem ka.cons{a b:Ty}{off:Nat}{c:List Field}(h:ka P (.pair a b) off c) :
  ∃f r,c=f::r/\f.offset=off/\f.name ≠ "_"/\Den P a f.type/\0<a.size/\ka P b (off+a.size) r:=by
 cases c with
 | nil=>simp[ka,ed] at h
 | cons f r =>
   simp only[ka,ed,cA] at h;obtain⟨⟨⟨⟨e,g⟩,i⟩,j⟩,k⟩:=h;exact⟨f,r,rfl,cG e,by simpa using g,i,by simpa using j,k⟩
theorem ka.at{t:Ty}:∀{off:Nat} {g:List Field} {k:Nat} {u:Ty} {o:Nat},ka P t off g->lB t k=some u->fP t k=some o ->
  ∃f,g[k]?=some f/\f.offset=off+o/\Den P u f.type/\0<u.size:=by
 induction t with
 | pair a b l i =>
   intro off g k u o h e c;obtain⟨f,r,rfl,y,z,m,n,p⟩:=h.cons;cases k with
   | zero =>
     simp only[lB,fP,j7] at e c;subst e c;exact⟨f,rfl,by omega,m,n⟩
   | succ k =>
     simp only[lB,fP] at e c;cases j:fP b k with
     | none=>rw[j] at c;cases c
     | some A =>
       rw[j] at c;simp only[sI,j7] at c;obtain⟨q,s,C,v,x⟩:=i p e j;exact⟨q,by simpa using s,by omega,v,x⟩
 | _=>intro off g k u o h e c;cases k<;>simp[lB] at e
end
def jl.cells:jl->List Value
 | .bW t=>cS t
 | .buf _ _=>[.slice none 0 0]
 | .map=>[.map none]
 | _=>[.pointer none]
def xa:List jl->List Value
 | []=>[]
 | f::r=>f.cells++xa r
def Nk:List jl->Nat
 | []=>0
 | f::r=>f.size+Nk r
def z7(P:Program):Nat->List jl->List Field->Bool
 | _,[],[]=>true
 | off,f::r,g::s=>Nat.beq g.offset off&&Nat.blt 0 f.size&&(match P.info? g.type with|some i=>Nat.beq i.size f.size|none=>false)&&z7 P (off+f.size) r s
 | _,_,_=>false
def y4(P:Program)(b:TypeId)(c:List jl):Bool :=
 (match P.underlying b with|some (.struct gs)=>z7 P 0 c gs.toList|_=>false)&&rF P b (Nk c) (xa c)
theorem Hr{P:Program}{b:TypeId}{c:List jl}(h:y4 P b c=true)(w:World):∃z,(zeroValue b).run P w=.ok z w/\z.cells.toList=xa c:=by
 simp only[y4,cA] at h;obtain⟨i,z,e,j,f,g⟩:=fR h.2;exact⟨z,by simp[zeroValue,typeInfo,e,f],g⟩
theorem JP{P:Program}:∀{c:List jl} {gs:List Field} {off k o:Nat},z7 P off c gs=true->o9 c k=some o->∃f i,gs[k]?=some f/\f.offset=off+o/\P.info? f.type=some i/\0<i.size:=by
 intro c;induction c with
 | nil=>intro gs off k o h b;cases b
 | cons f r l =>
   intro gs off k o h b;cases gs with
   | nil=>cases h
   | cons g s =>
     simp only[z7,cA] at h;obtain⟨⟨⟨m,n⟩,e⟩,p⟩:=h;cases k with
     | zero =>
       obtain rfl:=aq b;split at e
       .rename_i i q;have t:=cG e;have u:0<f.size:=by simpa using n
        exact⟨g,i,rfl,by rw[cG m];rfl,q,by omega⟩
       .cases e
     | succ k =>
       simp only[o9] at b;split at b
       .rename_i A j;obtain rfl:=aq b;obtain⟨v,i,x,C,y,z⟩:=l p j;exact⟨v,i,x,by omega,y,z⟩
       .cases b
theorem LZ{P:Program}{b:TypeId}{e:List jl}{k o:Nat}(h:y4 P b e=true)(g:o9 e k=some o):∃(gs:Array Field) (f:Field) (i:TypeInfo),P.underlying b=some (.struct gs)/\gs.toList[k]?=some f/\f.offset=o/\P.info? f.type=some i/\0<i.size:=by
 simp only[y4,cA] at h;obtain⟨c,_⟩:=h;split at c
 .rename_i gs j;obtain⟨f,i,l,p,m,n⟩:=JP c g;exact⟨gs,f,i,j,l,by omega,m,n⟩
 .cases c
theorem sZ{P:Program}:∀{b:List jl} {gs:List Field} {off:Nat},z7 P off b gs=true->∃e:List (Nat×Nat),gs.mapM (λf=>(P.info? f.type).map λi=>(f.offset,i.size))=some e /\
  ∀k o f,o9 b k=some o->b[k]?=some f->e[k]?=some (off+o,f.size):=by
 intro b;induction b with
 | nil =>
   intro gs off h;cases gs with
   | nil=>exact⟨[],rfl,λk o f _ n=>by cases n⟩
   | cons g s=>cases h
 | cons f r p =>
   intro gs off h;cases gs with
   | nil=>cases h
   | cons g s =>
     simp only[z7,cA] at h;obtain⟨⟨⟨t,A⟩,j⟩,u⟩:=h;obtain⟨e,v,x⟩:=p u;split at j
     .rename_i i y;refine⟨(g.offset,i.size)::e,by simp[y,v],λk o q c m=>?_⟩;cases k with
      | zero =>
        obtain rfl:=aq c;obtain rfl:=aq m;rw[Jb,cG t,cG j];rfl
      | succ k =>
        simp only[o9] at c;split at c
        .rename_i z l;obtain rfl:=aq c;have:=x k z q l (by simpa using m);rw[Jc,this,ud]
        .cases c
     .cases j
structure df (P:Program) (cx:Ctx):Prop where
 T:∀tid t,find cx.T tid=some t->Den P t tid
 ml:∀tid,bJ cx.ml tid=true->(∀w,(isAgg tid).run P w=.ok false w)/\(∀w,(Go.sizeOf tid).run P w=.ok 1 w)/\∃z,(∀w,(zeroValue tid).run P w=.ok z w)/\z.oneCell'=true
 iy:∀tid,bJ cx.iy tid=true->∃e,P.underlying tid=some (.pointer e)
 fns:∀f fn,find cx.fns f=some fn->P.funcs[f]?=some fn
 nk:∀tid fs,find cx.nk tid=some fs->y4 P tid fs=true
 JB:∀tid e,find cx.JB tid=some e->P.underlying tid=some (.slice e)
theorem fq{o:Option Ty}{t:Ty}(h:ui o t=true):o=some t:=by
 unfold ui at h;split at h
 .rw[Ty.eq_of_beq h]
 .cases h
theorem addr_add(b o n:Nat):Addr.add ⟨b,o,none⟩ n=⟨b,o+n,none⟩:=by
 unfold Addr.add;split<;>simp_all
def aZ(l:List Value)(b:Nat)(c:List Value):List Value:=l.take b++c++l.drop (b+c.length)
theorem cf{l c:List Value}{b:Nat}(h:b+c.length<=l.length):(aZ l b c).length=l.length:=by
 simp[aZ];omega
theorem iD.same{c b:Array Value}{e:Nat×Nat}(h:iD c e)(f:b.size=c.size):iD b e:=λo g=>h o (by omega)
section
variable {P:Program}
theorem LP.same{e:Ty}{c b:Array Value}{f:Nat×Nat}(h:LP e c f)(g:b.size=c.size):LP e b f:=⟨h.th.same g,λi=>by rw[g];exact h.um i⟩
theorem cQ(g o:Nat)(t:TypeId)(f:Nat×Nat):∀(l:List Value) (i:Nat) (cur:Array Value) (w:World),w.heap[g]?=some (.cells cur t f)->iD cur f ->
  o+i+l.length<=cur.size->(∀v∈l,v.oneCell'=true)->(storeCells ⟨g,o,none⟩ l i).run P w=.ok () (w.setRow g (aZ cur.toList (o+i) l).toArray)
 | [],i,cur,w,h,_,_,_=>by
   simp only[storeCells,aZ,ua,ni,rq,vt,Array.toArray_toList];rw[setRow_self w g cur t f h];rfl
 | v::rest,i,cur,w,h,j,m,p=>by
   have q:o+i<cur.size:=by simp at m;omega
   have c:w.cell? ⟨g,o+i,none⟩=some cur[o+i]:=by simp[World.cell?,h,q]
   have k:w.frozen? ⟨g,o+i,none⟩=false:=by
    have:=j (o+i) q;simp only[World.frozen?,h];obtain⟨a,b⟩:=f;simp only[Nc,Jd];simp only at this;omega
   have n:(store ((⟨g,o,none⟩:Addr).add i) v).run P w=.ok () (w.setRow g<|cur.setIfInBounds (o+i) v):=by
    rw[addr_add,run_store P w _ v _ (p v<|by simp),c];simp[k,setCell_eq_setRow w g (o+i) cur t f v h]
   have r:=cQ g o t f rest (i+1) (cur.setIfInBounds (o+i) v) (w.setRow g<|cur.setIfInBounds (o+i) v) (setRow_heap w g cur _ t _ h) (j.same<|by simp) (by simp at m⊢;omega) (λx s=>p x (by simp[s]));simp only[storeCells,Sem.run_bind,n,Result.andThen_ok,r,setRow_setRow]
   congr 3
   have e:=list_seg_step cur.toList (o+i) v rest (by simp at m⊢;omega);simpa [aZ,M4,ud] using e
theorem cell_of_heap{w:World}{g:Nat}{b:Array Value}{t:TypeId}{c:Nat×Nat}(e:w.heap[g]?=some (.cells b t c))(j:Nat):w.cell? ⟨g,j,none⟩=b[j]?:=by
 simp[World.cell?,e]
theorem rv{w:World}{g b n:Nat}{c:Array Value}{t:TypeId}{f:Nat×Nat}(i:w.heap[g]?=some (.cells c t f))(h:b+n<=c.size) :
  (loadCells ⟨g,b,none⟩ n).run P w=.ok ((c.toList.drop b).take n).toArray w:=by
 have k:((c.toList.drop b).take n).length=n:=by simp;omega
 have:=run_loadCells_list (P:=P) w ⟨g,b,none⟩ ((c.toList.drop b).take n) (λj v e=>by
  rw[addr_add,cell_of_heap i];rw[kK] at e;split at e
  .rw[pT] at e;simpa using e
  .cases e)
 rwa [k] at this
theorem uu{w:World}{I:Nat->Nat->Prop}{g b:Nat}{c:List Value}(h:pd w I g b c):(loadCells ⟨g,b,none⟩ c.length).run P w=.ok c.toArray w :=
 run_loadCells_list (P:=P) w ⟨g,b,none⟩ c (λj v e=>by rw[addr_add];exact(h j v e).1)
end
theorem fm{a b:Nat}(h:a≠b):Nat.beq a b=false:=by
 cases c:Nat.beq a b
 .rfl
 .exact absurd (cG c) h
theorem JQ(a:Act)(d t:Nat)(v:Value)(b:d<a.tmps.size):(a.put (some d) v).tmps.getD t undef=if t=d then v else a.tmps.getD t undef:=by
 simp only[Act.put,Eo,I9];by_cases h:d=t
 .subst h;simp[b]
 .rw[bp h,bp λe=>h e.symm]
theorem CR(a:Act)(d:Option Nat)(v:Value):(a.put d v).tmps.size=a.tmps.size:=by cases d<;>simp[Act.put]
theorem put_defers(a:Act)(d:Option Nat)(v:Value):(a.put d v).defers=a.defers:=by cases d<;>rfl
section
variable {B:Own} {N:Nat} {γ bc:Gh} {σ:St} {a:Act} {w w':World} {cm:Nat->Option aS}
theorem b6.step(h:b6 B N γ σ a w)(b:Ext B γ σ.mem w bc cm w')(c:aO B bc cm w'){d:Nat}(f:d<N){v:ax}{val:Value}(g:bw bc cm w' v .val [val]) :
  b6 B N bc ({ slots:=σ.slots,mem:=cm:St }.put d v) (a.put (some d) val) w' where
 slots:=λt=>by
  rw[JQ a d t val<|by rw[h.size];exact f];simp only[St.put];by_cases e:t=d
  .subst e;simpa using g
  .rw[bp e,fm e];exact(h.slots t).ext b
 size:=by rw[CR];exact h.size
 defers:=by rw[put_defers];exact h.defers
 ok:=c
theorem b6.go(h:b6 B N γ σ a w)(b:Ext B γ σ.mem w bc cm w')(c:aO B bc cm w'):b6 B N bc { slots:=σ.slots,mem:=cm } a w' where
 slots:=λt=>(h.slots t).ext b
 size:=h.size
 defers:=h.defers
 ok:=c
theorem b6.aA(h:b6 B N γ σ a w)(b:Ext B γ σ.mem w bc cm w')(c:aO B bc cm w'){d:Option Nat}(e:∀k,d=some k->k<N){v:ax}{val:Value}(f:bw bc cm w' v .val [val]) :
  b6 B N bc ({ slots:=σ.slots,mem:=cm:St }.aA d v) (a.put d val) w':=by
 cases d with
 | none=>exact h.go b c
 | some d=>exact h.step b c (e d rfl) f
theorem b6.mP(h:b6 B N γ σ a w){d:Option Nat}(b:∀k,d=some k->k<N){v:ax}{val:Value}(c:bw γ σ.mem w v .val [val]) :
 b6 B N γ (σ.aA d v) (a.put d val) w:=h.aA (Ext.refl _ _ _ _) h.ok b c
end
theorem cH{γ:Gh}{b:Nat->Option aS}{w:World}{t:Ty}{x:t.den}{v:Value}:bw γ b w (.data t x) .val [v]↔∃cs,bg w γ.I t x cs/\v=bX t cs:=by
 simp only[bw,yY,and_true]
theorem Hs(f:Gh)(e:Nat->Option aS)(w:World)(v:Value):bw f e w (wN v) .val [v]:=by
 unfold wN;split
 .rename_i k n;cases c:(decide (k.min<=n)&&decide (n<=k.max))
  .exact⟨_,rfl⟩
  .simp only[cA,yV] at c;exact⟨[.int k n],⟨rfl,c.1,c.2⟩,rfl⟩
 .rename_i b;exact⟨[.bool b],rfl,rfl⟩
 .rename_i s;cases c:Nat.ble s.data.toList.length 4294967296
  .exact⟨_,rfl⟩
  .refine⟨[.string s],⟨?_,?_⟩,rfl⟩
   .obtain⟨⟨l⟩⟩:=s;rfl
   .have:=rT c;simp only[maxLen];omega
 .rfl
 .rfl
 .rfl
 .exact⟨_,rfl⟩
theorem b6.bG{B:Own}{N:Nat}{e:Gh}{c:St}{a:Act}{w:World}(h:b6 B N e c a w)(x:Operand):bw e c.mem w (bG c x) .val [a.eval x]:=by
 cases x with
 | tmp t=>exact h.slots t
 | const v=>exact Hs _ _ _ v
 | global g=>exact⟨_,rfl⟩
 | func f =>
   show bw e c.mem w (bif Nat.blt f 10000000 then .fn f [] else .undef) .val _
   cases j:Nat.blt f 10000000 with
   | false=>exact⟨_,rfl⟩
   | true=>exact⟨#[],by unfold oj;rw[j];rfl,rfl,λi b au k=>by simp at k⟩
theorem u3(f:Nat)(b:Array Value):(oj f b).cells.toList=[oj f b]:=by
 simp only[oj];cases Nat.blt f 10000000<;>rfl
theorem bw.fu{L:Gh}{G:Nat->Option aS}{w:World}{v:ax}{x:Value}(h:bw L G w v .val [x])(Q:∀u,v≠.pG u)(M:v=.undef->x.oneCell'=true):bw L G w v .cells x.cells.toList:=by
 cases v with
 | undef=>exact⟨x,by cases x<;>first|rfl|(have:=M rfl;simp[Value.oneCell'] at this),M rfl⟩
 | data t y=>obtain⟨cs,g,i⟩:=cH.1 h;subst i;show bg _ _ _ _ _;rw[lf g];exact g
 | jt=>obtain rfl:x=_:=by simpa [bw] using h
       rfl
 | vv=>obtain rfl:x=_:=by simpa [bw] using h
       rfl
 | cB=>obtain rfl:x=_:=by simpa [bw] using h
       rfl
 | lA=>obtain rfl:x=_:=by simpa [bw] using h
       rfl
 | ny b au=>obtain⟨⟨v,g,i⟩,r⟩:=h;simp at g;subst g;refine⟨⟨x,?_,i⟩,?_⟩
            .cases x<;>first|rfl|(simp[Value.oneCell'] at i)
            .obtain⟨bx,A,C,D⟩:=r;exact⟨bx,A,C,λe=>by
              obtain⟨m,j,E,o⟩:=D e;refine⟨m,j,E,?_⟩;rcases o with o|o
              .simp at o;subst o;exact .inl rfl
              .simp at o;subst o;exact .inr rfl⟩
 | cell t y=>obtain⟨m,J,cs,g,i,r⟩:=h;simp at g;subst g;exact⟨m,J,cs,rfl,i,r⟩
 | ptr b au p=>obtain⟨⟨v,g,i⟩,r⟩:=h;simp at g;subst g;refine⟨⟨x,?_,i⟩,?_⟩
               .cases x<;>first|rfl|(simp[Value.oneCell'] at i)
               .obtain⟨bx,A,C,D⟩:=r;exact⟨bx,A,C,λe=>by obtain⟨m,j,E,o⟩:=D e;simp at o;subst o;exact⟨m,j,E,rfl⟩⟩
 | whole b au=>obtain⟨⟨v,g,i⟩,r⟩:=h;simp at g;subst g;refine⟨⟨x,?_,i⟩,?_⟩
               .cases x<;>first|rfl|(simp[Value.oneCell'] at i)
               .obtain⟨bx,A,C,D⟩:=r;exact⟨bx,A,C,λe=>by
                 obtain⟨u,n,E,o,s⟩:=D e;refine⟨u,n,E,o,?_⟩;rcases s with ⟨s,z⟩|⟨m,j,s,z⟩
                 .simp at z;subst z;exact .inl ⟨s,rfl⟩
                 .simp at z;subst z;exact .inr ⟨m,j,s,rfl⟩⟩
 | kM b au=>obtain⟨⟨v,g,i⟩,r⟩:=h;simp at g;subst g;refine⟨⟨x,?_,i⟩,?_⟩
            .cases x<;>first|rfl|(simp[Value.oneCell'] at i)
            .obtain⟨bx,A,C,D⟩:=r;exact⟨bx,A,C,λe=>by
              obtain⟨E,s⟩:=D e;refine⟨E,?_⟩;rcases s with ⟨s,z⟩|⟨m,j,s,z⟩
              .simp at z;subst z;exact .inl ⟨s,rfl⟩
              .simp at z;subst z;exact .inr ⟨m,j,s,rfl⟩⟩
 | ju l=>exact h.elim
 | part b au lo n=>obtain⟨⟨v,g,i⟩,r⟩:=h;simp at g;subst g;refine⟨⟨x,?_,i⟩,?_⟩
                   .cases x<;>first|rfl|(simp[Value.oneCell'] at i)
                   .obtain⟨bx,A,C,D⟩:=r;exact⟨bx,A,C,λe=>by
                     obtain⟨u,k,E,o,s,z,F,j,H,K⟩:=D e;simp at H;subst H;exact⟨u,k,E,o,s,z,F,j,rfl,K⟩⟩
 | win b au q e k lo n=>obtain⟨⟨v,g,i⟩,r⟩:=h;simp at g;subst g;refine⟨⟨x,?_,i⟩,?_⟩
                        .cases x<;>first|rfl|(simp[Value.oneCell'] at i)
                        .obtain⟨bx,A,C,D⟩:=r;exact⟨bx,A,C,λe=>by
                          obtain⟨R,u,c,E,o,s,z,F,j,H,K⟩:=D e;simp at H;subst H;exact⟨R,u,c,E,o,s,z,F,j,rfl,K⟩⟩
 | fn f O=>obtain⟨I,g,i⟩:=h;simp at g;subst g;exact⟨I,u3 f I,i⟩
 | mix p q=>obtain⟨S,T,g,i,r⟩:=h;simp at g;subst g;exact⟨S,T,by simp[Value.cells],i,r⟩
 | pG u=>exact absurd rfl (Q u)
 | nl=>exact h.elim
theorem bw.length{γ:Gh}{mem:Nat->Option aS}{w:World}:∀{v:ax} {cs:List Value},bw γ mem w v .cells cs->cs.length=b4 v:=by
 intro v;induction v with
 | data t x=>intro cs h;exact bg.length h
 | mix a b c g=>intro cs h;obtain⟨o,r,rfl,j,m⟩:=h;rw[l9,c j,g m];rfl
 | undef=>intro cs h;obtain⟨v,rfl,_⟩:=h;rfl
 | jt=>intro cs h;rw[show cs=_ from h];rfl
 | cB=>intro cs h;rw[show cs=_ from h];rfl
 | vv=>intro cs h;rw[show cs=_ from h];rfl
 | lA=>intro cs h;rw[show cs=_ from h];rfl
 | ny b au=>intro cs h;obtain⟨⟨_,rfl,_⟩,_⟩:=h;rfl
 | cell t x=>intro cs h;obtain⟨_,_,_,rfl,_⟩:=h;rfl
 | ptr b au p=>intro cs h;obtain⟨⟨_,rfl,_⟩,_⟩:=h;rfl
 | whole b au=>intro cs h;obtain⟨⟨_,rfl,_⟩,_⟩:=h;rfl
 | kM b au=>intro cs h;obtain⟨⟨_,rfl,_⟩,_⟩:=h;rfl
 | ju l=>intro cs h;exact h.elim
 | part b au lo n=>intro cs h;obtain⟨⟨_,rfl,_⟩,_⟩:=h;rfl
 | win b au q e k lo n=>intro cs h;obtain⟨⟨_,rfl,_⟩,_⟩:=h;rfl
 | fn f i=>intro cs h;obtain⟨_,rfl,_⟩:=h;simp only[oj];cases Nat.blt f 10000000<;>rfl
 | pG u s=>intro cs h;exact h.elim
 | nl=>intro cs h;exact h.elim
theorem bw.one{s:Gh}{j:Nat->Option aS}{w:World}:∀{v:ax} {cs:List Value},bw s j w v .cells cs->∀c∈cs,c.oneCell'=true:=by
 intro v;induction v with
 | data t x=>intro cs h;exact bg.one h
 | mix a b m o =>
   intro cs h c g;obtain⟨z,A,rfl,i,y⟩:=h;rcases lW.1 g with g|g
   .exact m i c g
   .exact o y c g
 | undef=>intro cs h c g;obtain⟨v,rfl,i⟩:=h;simp at g;subst g;exact i
 | jt=>intro cs h c g;rw[show cs=_ from h] at g;simp at g;subst g;rfl
 | cB=>intro cs h c g;rw[show cs=_ from h] at g;simp at g;subst g;rfl
 | vv=>intro cs h c g;rw[show cs=_ from h] at g;simp at g;subst g;rfl
 | lA=>intro cs h c g;rw[show cs=_ from h] at g;simp at g;subst g;rfl
 | ny b au=>intro cs h c g;obtain⟨⟨_,rfl,i⟩,_⟩:=h;simp at g;subst g;exact i
 | cell t x=>intro cs h c g;obtain⟨_,_,_,rfl,_⟩:=h;simp at g;subst g;rfl
 | ptr b au p=>intro cs h c g;obtain⟨⟨_,rfl,i⟩,_⟩:=h;simp at g;subst g;exact i
 | whole b au=>intro cs h c g;obtain⟨⟨_,rfl,i⟩,_⟩:=h;simp at g;subst g;exact i
 | kM b au=>intro cs h c g;obtain⟨⟨_,rfl,i⟩,_⟩:=h;simp at g;subst g;exact i
 | ju l=>intro cs h;exact h.elim
 | part b au lo n=>intro cs h c g;obtain⟨⟨_,rfl,i⟩,_⟩:=h;simp at g;subst g;exact i
 | win b au q e k lo n=>intro cs h c g;obtain⟨⟨_,rfl,i⟩,_⟩:=h;simp at g;subst g;exact i
 | fn f r=>intro cs h c g;obtain⟨_,rfl,_⟩:=h;simp at g;subst g;simp only[oj];cases Nat.blt f 10000000<;>rfl
 | pG u C=>intro cs h;exact h.elim
 | nl=>intro cs h;exact h.elim
theorem lD{α:Type}{l:List α}{i:Int}{x:α}(h:idx l i=some x):0<=i/\l[i.toNat]?=some x:=by
 unfold idx at h;split at h
 .rename_i b;exact⟨b,h⟩
 .cases h
theorem r5{w:World}{I:Nat->Nat->Prop}:∀{t:Ty} {x:t.den} {cs:List Value} {k o:Nat} {u:ax},bg w I t x cs->jP t x k=some (o,u) ->
  ∃(e:Ty) (y:e.den),u=.data e y/\lB t k=some e/\fP t k=some o/\o+e.size<=cs.length/\bg w I e y ((cs.drop o).take e.size):=by
 intro t;induction t with
 | pair a b j g =>
   intro x cs k o u h c;obtain⟨s,v,rfl,f,l⟩:=h;cases k with
   | zero =>
     simp only[jP,j7,Cx] at c;obtain⟨rfl,rfl⟩:=c;refine⟨a,x.1,rfl,rfl,rfl,by rw[l9,f.length];omega,?_⟩;rw[zU,<-f.length,zV];exact f
   | succ k =>
     simp only[jP] at c;cases i:jP b x.2 k with
     | none=>rw[i] at c;cases c
     | some r =>
       rw[i] at c;simp only[j7,Cx] at c;obtain⟨rfl,rfl⟩:=c;obtain⟨e,y,m,n,p,z,q⟩:=g l (show jP b x.2 k=some (r.1,r.2) from i);refine⟨e,y,m,n,by simp[fP,p],by rw[l9,f.length];omega,?_⟩;rw[<-f.length,<-oZ,rV];exact q
 | _=>intro x cs k o u h c;cases k<;>simp[jP] at c
theorem qX{l:Gh}{f:Nat->Option aS}{w:World}:∀{v:ax} {cs:List Value} {k o:Nat} {u:ax},bw l f w v .cells cs->iB v k=some (o,u) ->
  o+b4 u<=cs.length/\bw l f w u .cells ((cs.drop o).take<|b4 u):=by
 intro v;induction v with
 | data t x =>
   intro cs k o u h c;obtain⟨p,y,rfl,_,_,e,g⟩:=r5 (w:=w) h c;exact⟨e,g⟩
 | mix a b m i =>
   intro cs k o u h c;obtain⟨q,s,rfl,e,g⟩:=h;cases k with
   | zero =>
     simp only[iB,j7,Cx] at c;obtain⟨rfl,rfl⟩:=c;refine⟨by rw[l9,e.length];omega,?_⟩;rw[zU,<-e.length,zV];exact e
   | succ k =>
     simp only[iB] at c;cases j:iB b k with
     | none=>rw[j] at c;cases c
     | some r =>
       rw[j] at c;simp only[j7,Cx] at c;obtain⟨rfl,rfl⟩:=c;obtain⟨z,n⟩:=i g (show iB b k=some (r.1,r.2) from j);refine⟨by rw[l9,e.length];omega,?_⟩;rw[<-e.length,<-oZ,rV];exact n
 | _=>intro cs k o u h c;cases k<;>simp[iB] at c
theorem wk{c:Gh}{b:Nat->Option aS}{w:World}{t:Ty}{v:ax}{z:t.den}{f:List Value}(h:toS t v=some z)(g:bw c b w v .cells f):bg w c.I t z f:=by
 cases v with
 | data u y =>
   obtain⟨e,i⟩:=Ty.fZ (show Ty.to u t y=some z from h);subst e;subst i;exact g
 | _=>cases h
theorem bind_some{α b:Type}{t:Tree α}{f:α->Tree b}{y:b}(h:(t.bind f).run=some y):∃x,t.run=some x/\(f x).run=some y:=by
 rw[Tree.run_bind] at h;exact pZ.1 h
theorem bo{T α:Type}{o:Option T}{k:T->Tree α}{y:α}(h:(Tree.look o k).run=some y):∃x,o=some x/\(k x).run=some y:=by
 cases o with
 | none=>cases h
 | some x=>exact⟨x,rfl,h⟩
theorem bM{α:Type}{c:Bool}{t:Tree α}{y:α}(h:(Tree.need c t).run=some y):c=true/\t.run=some y:=by
 cases c with
 | false=>cases h
 | true=>exact⟨rfl,h⟩
theorem ak{α:Type}{c:Bool}{t:Tree α}{y:α}(h:(bif c then t else .fail).run=some y):c=true/\t.run=some y:=by
 cases c with
 | false=>cases h
 | true=>exact⟨rfl,h⟩
theorem eh{b:Type}{c:Bool}{t e:Tree b}{y:b}(h:(Tree.node c t e).run=some y):(bif c then t else e).run=some y:=by
 cases c<;>exact h
section
variable {γ:Gh} {mem:Nat->Option aS} {w:World}
theorem CS:∀{t:Ty} {x:t.den} {cs:List Value} {k o:Nat} {u:ax} {y:t.den} {f:ax->Tree ax} {es:List Value},
  bg w γ.I t x cs->jP t x k=some (o,u)->(∀v,(f u).run=some v->bw γ mem w v .cells es)->(vY t x k f).run=some y->es.length=b4 u ->
  bg w γ.I t y (aZ cs o es):=by
 intro t;induction t with
 | pair a b A i =>
   intro x cs k o u y f es h c n e j;obtain⟨p,q,rfl,l,s⟩:=h;cases k with
   | zero =>
     simp only[jP,j7,Cx] at c;obtain⟨rfl,rfl⟩:=c;obtain⟨v,m,e⟩:=bind_some e;have C:=n v m;cases hv:toS a v with
     | none=>rw[hv] at e;cases e
     | some z =>
       rw[hv] at e;obtain rfl:=aq e;simp only[b4] at j;refine⟨es,q,?_,wk hv C,s⟩;simp only[aZ,CD,rU,kL];rw[show es.length=p.length by rw[j,l.length],rV]
   | succ k =>
     simp only[jP] at c;cases g:jP b x.2 k with
     | none=>rw[g] at c;cases c
     | some r =>
       rw[g] at c;simp only[j7,Cx] at c;obtain⟨rfl,rfl⟩:=c;obtain⟨z,D,e⟩:=bind_some e;obtain rfl:=aq e;have:=i s (show jP b x.2 k=some (r.1,r.2) from g) n D j;refine⟨p,aZ q r.1 es,?_,l,this⟩;simp only[aZ,<-l.length,LS,mj]
       congr 1;congr 1;congr 1
       rw[ud,<-oZ,rV]
 | _=>intro x cs k o u y f es h c;cases k<;>simp[jP] at c
theorem r8:∀{j:ax} {cs:List Value} {k o:Nat} {u c:ax} {f:ax->Tree ax} {es:List Value},
  bw γ mem w j .cells cs->iB j k=some (o,u)->(∀v,(f u).run=some v->bw γ mem w v .cells es)->(rY j k f).run=some c->es.length=b4 u ->
  bw γ mem w c .cells (aZ cs o es):=by
 intro j;induction j with
 | data t x =>
   intro cs k o u c f es h e l g m;obtain⟨y,D,g⟩:=bind_some g;obtain rfl:=aq g;exact CS h e l D m
 | mix a b E n =>
   intro cs k o u c f es h e l g m;obtain⟨s,A,rfl,p,C⟩:=h;cases k with
   | zero =>
     simp only[iB,j7,Cx] at e;obtain⟨rfl,rfl⟩:=e;obtain⟨v,q,g⟩:=bind_some g;have F:=l v q;obtain rfl:=aq g;refine⟨es,A,?_,F,C⟩;simp only[aZ,CD,rU,kL];rw[show es.length=s.length by rw[m,p.length],rV]
   | succ k =>
     simp only[iB] at e;cases i:iB b k with
     | none=>rw[i] at e;cases e
     | some r =>
       rw[i] at e;simp only[j7,Cx] at e;obtain⟨rfl,rfl⟩:=e;obtain⟨z,G,g⟩:=bind_some g;obtain rfl:=aq g;have:=n C (show iB b k=some (r.1,r.2) from i) l G m;refine⟨s,aZ A r.1 es,?_,p,this⟩;simp only[aZ,<-p.length,LS,mj]
       congr 1;congr 1;congr 1
       rw[ud,<-oZ,rV]
 | _=>intro cs k o u c f es h e;cases k<;>simp[iB] at e
theorem nB:∀{p:List rW} {v u:ax} {cs:List Value},bw γ mem w v .cells cs->(Hj p v).run=some u->b3 p+b4 u<=cs.length/\bw γ mem w u .cells ((cs.drop<|b3 p).take<|b4 u):=by
 intro p;induction p with
 | nil =>
   intro v u cs h b;obtain rfl:=aq b;have f:=h.length;refine⟨by simp[b3];omega,?_⟩;rw[show b3 []=0 from rfl,zU,<-f,CA];exact h
 | cons s p A =>
   intro v u cs h b;cases s with
   | AR k off =>
     simp only[Hj] at b;cases o:iB v k with
     | none=>rw[o] at b;cases b
     | some r =>
       rw[o] at b;obtain⟨q,c⟩:=ak b;have g:=cG q;obtain⟨I,C⟩:=qX h (show iB v k=some (r.1,r.2) from o);obtain⟨t,j⟩:=A C c;have f:=C.length;simp only[b3,<-g];rw[f] at t;refine⟨by omega,?_⟩;rw[Gn,CE,oZ,ub (by omega)] at j;exact j
   | idx i size =>
     simp only[Hj] at b;split at b
     .rename_i n e l;obtain⟨q,c⟩:=ak b;have y:=cG q;obtain⟨x,E,z⟩:=bo c;obtain⟨J,m⟩:=lD E;obtain⟨K,L,F⟩:=h;have D:=F _ x m;obtain⟨t,j⟩:=A (v:=.data e x) (show bw γ mem w (.data e x) .cells _ from D) z;have f:=D.length;have G:i.toNat<n:=by have:=(sE.1 m).1;omega
      have H:(i.toNat+1)*e.size<=n*e.size:=lz _ G;rw[p6] at H;rw[f] at t;simp only[b3,y];refine⟨by omega,?_⟩;rw[Gn,CE,oZ,ub (by omega)] at j;exact j
     .cases b
theorem lh(cs:List Value)(a b:Nat)(n:Nat)(c:List Value)(h:b+c.length<=n)(i:a+n<=cs.length) :
  aZ cs a (aZ ((cs.drop a).take n) b c)=aZ cs (a+b) c:=by
 have f:((cs.drop a).take n).length=n:=by simp;omega
 have e:(aZ ((cs.drop a).take n) b c).length=n:=by rw[cf<|by omega,f]
 have g:aZ cs a (aZ ((cs.drop a).take n) b c)=cs.take a++aZ ((cs.drop a).take n) b c++cs.drop (a+n):=by
  rw[aZ,e]
 rw[g];simp only[aZ,mj];rw[CE,ub (by omega),<-mj,<-List.take_add]
 congr 1;congr 1
 have:cs.drop (a+n)=(cs.drop a).drop n:=by rw[oZ]
 rw[this,<-I0 (by rw[f];exact h),vt,oZ,ud]
theorem xb{I:Nat->Nat->Prop}{e:Ty}{n:Nat}{l:List e.den}{cs f:List Value}{i:Nat}{y:e.den}(u:l.length=n)(v:n*e.size<=cs.length)
  (h:∀(j:Nat) (x:e.den),l[j]?=some x->bg w I e x ((cs.drop<|j*e.size).take e.size)) (r:i<n) (o:bg w I e y f) :
  ∀(j:Nat) (x:e.den),(l.set i y)[j]?=some x->bg w I e x (((aZ cs (i*e.size) f).drop<|j*e.size).take e.size):=by
 intro j x c;have k:=o.length;have s:(i+1)*e.size<=n*e.size:=lz _ r;rw[p6] at s;have b:(cs.take<|i*e.size).length=i*e.size:=by rw[fj];omega
 rw[AN] at c;split at c
 .rename_i g;subst g;split at c
  .obtain rfl:=aq c;have:((aZ cs (i*e.size) f).drop<|i*e.size).take e.size=f:=by
    rw[aZ,mj]
    conv=>lhs;arg 2;arg 1;rw[<-b]
    rw[b,zT b,<-k,zV]
   rw[this];exact o
  .cases c
 .rename_i g;have t:j<n:=by have:=(sE.1 c).1;omega
  have m:(j+1)*e.size<=n*e.size:=lz _ t;rw[p6] at m;have key:((aZ cs (i*e.size) f).drop<|j*e.size).take e.size=(cs.drop<|j*e.size).take e.size:=by
   apply Cw;intro q;rw[kK,kK];split
   .rename_i z;rw[pT,pT,aZ];rcases ue j i with p|p
    .have:(j+1)*e.size<=i*e.size:=lz _ p;rw[p6] at this;rw[mj,Ct (by omega),kK,bH (by omega)]
    .have:(i+1)*e.size<=j*e.size:=lz _ (by omega);rw[p6] at this;rw[Ep<|by rw[l9];omega,pT,l9,b]
     congr 1;omega
   .rfl
  rw[key];exact h j x c
theorem pe:∀{p:List rW} {v G u c:ax} {cs es:List Value},bw γ mem w v .cells cs->(Hj p v).run=some G->(nQ p v u).run=some c->bw γ mem w u .cells es->es.length=b4 G ->
  bw γ mem w c .cells (aZ cs (b3 p) es):=by
 intro p;induction p with
 | nil =>
   intro v G u c cs es h b q H t;obtain rfl:=aq b;obtain rfl:=aq q;have:=h.length;simp only[b3,aZ,CD,rU,kL];rw[I4<|by omega,ua];exact H
 | cons s p T =>
   intro v G u c cs es h b q H t;cases s with
   | AR k off =>
     simp only[Hj] at b;cases I:iB v k with
     | none=>rw[I] at b;cases b
     | some r =>
       rw[I] at b;obtain⟨J,g⟩:=ak b;have A:=cG J;obtain⟨Z,K⟩:=qX h (show iB v k=some (r.1,r.2) from I);obtain⟨C,h4⟩:=nB K g;have m:=K.length;rw[m] at C;have:=r8 (f:=λw=>nQ p w u) h (show iB v k=some (r.1,r.2) from I) (λz L=>T (u:=u) K g L H t) q (by rw[cf<|by rw[m,t];exact C,m]);rw[lh cs r.1 (b3 p) (b4 r.2) es (by omega) Z,A] at this;exact this
   | idx i size =>
     simp only[Hj] at b;split at b
     .rename_i n e l;obtain⟨J,g⟩:=ak b;have M:=cG J;obtain⟨x,U,D⟩:=bo g;simp only[nQ] at q;obtain⟨x',O,Q⟩:=bo q;obtain rfl:x=x':=aq (U.symm.trans O);obtain⟨z,L,j⟩:=bind_some Q;cases R:toS e z with
      | none=>rw[R] at j;cases j
      | some y =>
        rw[R] at j;obtain rfl:=aq j;obtain⟨h0,E⟩:=lD U;obtain⟨V,k2,W⟩:=h;have X:=W _ x E;have Y:i.toNat<n:=by have:=(sE.1 E).1;omega
        have hm:(i.toNat+1)*e.size<=n*e.size:=lz _ Y;rw[p6] at hm;have F:bw γ mem w (.data e x) .cells ((cs.drop<|i.toNat*e.size).take e.size):=X;obtain⟨C,h4⟩:=nB F D;have o:=X.length;rw[o] at C;have S:=wk R (T F D L H t);have NK:(aZ ((cs.drop<|i.toNat*e.size).take e.size) (b3 p) es).length=e.size:=by rw[cf<|by rw[o,t];exact C,o]
        have e1:=lh cs (i.toNat*e.size) (b3 p) e.size es (by omega) (by omega);simp only[b3,M];rw[<-e1];refine⟨?_,?_,?_⟩
        .exact(@List.length_set _ (l:List e.den) _ _).trans V
        .rw[cf<|by omega];exact k2
        .exact xb V (by omega) W Y S
     .cases b
end
open RowKit
section
variable {B:Own} {γ bc:Gh} {mem cm:Nat->Option aS} {w w':World}
theorem ca.keep{c:Nat}{bx:aS}(h:ca γ mem w c bx)(s:Ext B γ mem w bc cm w')(p:bc.loc c=γ.loc c)
  (t:∀b k,γ.loc c=some (b,k)->w'.heap[b]?=w.heap[b]?):ca bc cm w' c bx:=by
 unfold ca at h⊢;cases m:bx.buf with
 | true =>
   rw[m] at h;rcases h with ⟨l,u,f⟩|⟨e,l,u,z,f⟩
   .refine .inl ⟨l,u,?_⟩;rcases f with ⟨f,j⟩|⟨b,g,o,f,j,q⟩
    .exact .inl ⟨p.trans f,j⟩
    .exact .inr ⟨b,g,o,p.trans f,(t _ _ f).trans j,q⟩
   refine .inr ⟨e,l,u,z,?_⟩;rcases f with ⟨f,j⟩|⟨b,g,n,tid,v,f,j,q,r,y,A,C,D⟩
   .exact .inl ⟨p.trans f,j⟩
   .exact .inr ⟨b,g,n,tid,v,p.trans f,(t _ _ f).trans j,q,r,y,A,C,λi x E=>bg.mono s.I s.cells (D i x E)⟩
 | false =>
   rw[m] at h;obtain⟨b,g,n,tid,v,f,j,q,F,y⟩:=h;exact⟨b,g,n,tid,v,p.trans f,(t _ _ f).trans j,q,F,y.ext s⟩
theorem dU{a:Addr}(h:w'.heap[a.block]?=w.heap[a.block]?):w'.cell? a=w.cell? a:=by simp[World.cell?,h]
def aI(c:Gh)(b:Nat)(L:Option (Nat×Nat)):Gh:={ c with loc:=λi=>if i=b then L else c.loc i }
def bq(c:Nat->Option aS)(b:Nat)(bx:aS):Nat->Option aS:=λi=>bif Nat.beq i b then some bx else c i
theorem aJ(b:Nat)(bx:aS):bq mem b bx b=some bx:=by simp[bq]
theorem az{b c:Nat}(bx:aS)(h:c≠b):bq mem b bx c=mem c:=by simp[bq,fm h]
theorem jG(h:aO B γ mem w){b:Nat}{bx:aS}{L:Option (Nat×Nat)}(f:∀g,mem b=some g->g.au<bx.au)
  (m:lg B w w') (i:∀k,k<w.heap.size->w'.heap[k]?=w.heap[k]?):Ext B γ mem w (aI γ b L) (bq mem b bx) w' where
 below:=m
 I:=λ_ _ x=>x
 mo:=λ_ _ x=>.inl x
 cells:=λj o x=>dU (i j<|h.lX j o x)
 boxes:=λc cx l=>by
  by_cases e:c=b
  .subst e;refine⟨bx,aJ _ _,Jz (f _ l),λe=>absurd e ?_⟩;have:=f _ l;omega
  .exact⟨cx,by rw[az _ e];exact l,cU _,λ_=>⟨by simp[aI,e],rfl,rfl⟩⟩
theorem aO.add(h:aO B γ mem w){b:Nat}{bx:aS}{L:Option (Nat×Nat)}(m:∀p,mem b=some p->p.au<bx.au)
  (q:lg B w w') (j:∀k,k<w.heap.size->w'.heap[k]?=w.heap[k]?) (r:∀f k,L=some (f,k)->w.heap.size<=f/\f<w'.heap.size)
  (u:ca (aI γ b L) (bq mem b bx) w' b bx):aO B (aI γ b L) (bq mem b bx) w' where
 bD:=h.sX (jG (L:=L) h m q j)
 base:=iA h.base q.size
 boxes:=λc cx g=>by
  by_cases e:c=b
  .subst e;rw[aJ] at g;obtain rfl:=aq g;exact u
  .rw[az _ e] at g;refine(h.boxes c cx g).keep (jG h m q j) (by simp[aI,e]) λf k x=>j f (h.fresh c f k (by rw[g];simp) x).2
 inj:=λc d f k v g s i n=>by
  by_cases e:c=b
  .by_cases o:d=b
   .rw[e,o]
   .exfalso;simp only[aI,bH e] at i;simp only[aI,bp o] at n;rw[az _ o] at s;have:=(h.fresh d f v s n).2;have:=(r _ _ i).1;omega
  .by_cases o:d=b
   .exfalso;simp only[aI,bp e] at i;simp only[aI,bH o] at n;rw[az _ e] at g;have:=(h.fresh c f k g i).2;have:=(r _ _ n).1;omega
   .simp only[aI,bp e] at i;simp only[aI,bp o] at n;rw[az _ e] at g;rw[az _ o] at s;exact h.inj c d f k v g s i n
 fresh:=λc f k g i=>by
  by_cases e:c=b
  .simp only[aI,bH e] at i;obtain⟨n,y⟩:=r _ _ i;exact⟨.inl (by have:=h.base;omega),y⟩
  .simp only[aI,bp e] at i;rw[az _ e] at g;have:=h.fresh c f k g i;exact⟨this.1,rp this.2 q.size⟩
 lX:=λf l t=>rp (h.lX f l t) q.size
 sep:=λc cx f k l g i t=>by
  by_cases e:c=b
  .exfalso;simp only[aI,bH e] at i;have:=(r _ _ i).1;have:=h.lX f l t;omega
  .simp only[aI,bp e] at i;rw[az _ e] at g;exact h.sep c cx f k l g i t
theorem cr(w:World)(o:Obj):∀k,k<w.heap.size->(w.alloc o).heap[k]?=w.heap[k]?:=λk b=>Below.heap_alloc w o k b
theorem qh(b:Array Value):iD b (0,0):=λo _ h=>by omega
theorem oz(e:Ty)(b:Array Value):LP e b (0,0):=⟨qh b,λ_ h=>by omega⟩
theorem aO.newVar(h:aO B γ mem w){b:Nat}{v:ax}{tid:TypeId}{au:Nat}(c:∀f,mem b=some f->f.au<au){cs:Array Value}(g:TypeId)(i:tid=0\/g=tid)(l:bw γ mem w v .cells cs.toList) :
  let bx:aS:={ val:=v,tid,buf:=false,ro:=false,lk:=false,au }
  aO B (aI γ b<|some (w.heap.size,0)) (bq mem b bx) (w.alloc<|.cells cs g)/\Ext B γ mem w (aI γ b<|some (w.heap.size,0)) (bq mem b bx) (w.alloc<|.cells cs g):=by
 intro bx;have j:lg B w (w.alloc<|.cells cs g):=(lg.refl _ _).alloc h.base _;have hx:=jG (L:=some (w.heap.size,0)) h (bx:=bx) c j (cr w _);refine⟨h.add c j (cr w _) (λm k e=>by obtain⟨rfl,rfl⟩:=b8 (aq e);exact⟨cU _,by simp⟩) ?_,hx⟩;exact⟨w.heap.size,0,cs,g,(0,0),by simp[aI],heap_alloc_new w _,qh cs,i,l.ext hx⟩
theorem aO.JR(h:aO B γ mem w){b:Nat}{e:Ty}{l:List e.den}{tid:TypeId}{au f g:Nat}(j:∀o,mem b=some o->o.au<au){p:Array Value}{s:TypeId}{t:Nat×Nat}(A:0<e.size)
  (z:lg B w w') (m:∀k,k<w.heap.size->w'.heap[k]?=w.heap[k]?) (u:w.heap.size<=g) (n:w'.heap[g]?=some (.cells p s t)) (v:LP e p t) (r:tid=0\/s=tid)
  (C:l.length<=f) (D:f<=maxLen) (E:p.size=f*e.size) (F:∀(i:Nat) (x:e.den),l[i]?=some x->bg w' γ.I e x ((p.toList.drop<|i*e.size).take e.size)) :
  let bx:aS:={ val:=.data (.slice e) l,tid,buf:=true,ro:=false,lk:=false,au }
  aO B (aI γ b<|some (g,f)) (bq mem b bx) w'/\Ext B γ mem w (aI γ b<|some (g,f)) (bq mem b bx) w':=by
 intro bx;have y:g<w'.heap.size:=(oc.1 n).1;have hx:=jG (L:=some (g,f)) h (bx:=bx) j z m;refine⟨h.add j z m (λc k q=>by obtain⟨rfl,rfl⟩:=b8 (aq q);exact⟨u,y⟩) ?_,hx⟩;exact .inr ⟨e,l,rfl,A,.inr ⟨g,f,p,s,t,by simp[aI],n,v,r,C,D,E,F⟩⟩
theorem aO.xc(h:aO B γ mem w){b:Nat}{e:Ty}{l:List e.den}{tid:TypeId}{au cap:Nat}(f:∀g,mem b=some g->g.au<au){n:Array Value}{r:TypeId}{s:Nat×Nat}(t:0<e.size)
  (u:lg B w w') (c:∀k,k<w.heap.size->w'.heap[k]?=w.heap[k]?) (j:w'.heap[w.heap.size]?=some (.cells n r s)) (p:LP e n s) (m:tid=0\/r=tid)
  (v:l.length<=cap) (y:cap<=maxLen) (z:n.size=cap*e.size) (A:∀(i:Nat) (x:e.den),l[i]?=some x->bg w γ.I e x ((n.toList.drop<|i*e.size).take e.size)) :
  let bx:aS:={ val:=.data (.slice e) l,tid,buf:=true,ro:=false,lk:=false,au }
  aO B (aI γ b<|some (w.heap.size,cap)) (bq mem b bx) w'/\Ext B γ mem w (aI γ b<|some (w.heap.size,cap)) (bq mem b bx) w' :=
 h.JR f t u c (cU _) j p m v y z λi x C =>
  bg.mono (λ_ _ q=>q) (λblk o q=>dU (c blk<|h.lX blk o q)) (A i x C)
theorem aO.r9(h:aO B γ mem w){b:Nat}{e:Ty}{tid:TypeId}{au:Nat}(c:∀f,mem b=some f->f.au<au)(g:0<e.size) :
  let bx:aS:={ val:=.data (.slice e) ([]:List e.den),tid,buf:=true,ro:=false,lk:=false,au }
  aO B (aI γ b none) (bq mem b bx) w/\Ext B γ mem w (aI γ b none) (bq mem b bx) w:=by
 intro bx;have hx:=jG (L:=none) h (bx:=bx) c (lg.refl B w) (λ_ _=>rfl);refine⟨h.add c (lg.refl B w) (λ_ _=>rfl) (λi k e=>by cases e) ?_,hx⟩;exact .inr ⟨e,[],rfl,g,.inl ⟨by simp[aI],rfl⟩⟩
theorem aO.JS(h:aO B γ mem w){b:Nat}{au:Nat}(c:∀f,mem b=some f->f.au<au) :
  let bx:aS:={ val:=.ju [],tid:=0,buf:=true,ro:=false,lk:=false,au }
  aO B (aI γ b none) (bq mem b bx) w/\Ext B γ mem w (aI γ b none) (bq mem b bx) w:=by
 intro bx;have hx:=jG (L:=none) h (bx:=bx) c (lg.refl B w) (λ_ _=>rfl);refine⟨h.add c (lg.refl B w) (λ_ _=>rfl) (λg k e=>by cases e) ?_,hx⟩;exact .inl ⟨[],rfl,.inl ⟨by simp[aI],rfl⟩⟩
theorem aO.Ht(h:aO B γ mem w){b:Nat}{au:Nat}(c:∀g,mem b=some g->g.au<au)(i:lg B w w')(f:∀k,k<w.heap.size->w'.heap[k]?=w.heap[k]?) :
  let bx:aS:={ val:=.ju [],tid:=0,buf:=true,ro:=false,lk:=false,au }
  aO B (aI γ b none) (bq mem b bx) w'/\Ext B γ mem w (aI γ b none) (bq mem b bx) w':=by
 intro bx;have hx:=jG (L:=none) h (bx:=bx) c i f;refine⟨h.add c i f (λj k e=>by cases e) ?_,hx⟩;exact .inl ⟨[],rfl,.inl ⟨by simp[aI],rfl⟩⟩
theorem aO.JT(h:aO B γ mem w){b:Nat}{au e:Nat}{o:Obj}{l:List (Int×Int×ah)}(f:∀j,mem b=some j->j.au<au)(p:lg B w w')(g:∀k,k<w.heap.size->w'.heap[k]?=w.heap[k]?)(m:w.heap.size<=e)
  (i:w'.heap[e]?=some o) (r:uY o l) :
  let bx:aS:={ val:=.ju l,tid:=0,buf:=true,ro:=false,lk:=false,au }
  aO B (aI γ b<|some (e,0)) (bq mem b bx) w'/\Ext B γ mem w (aI γ b<|some (e,0)) (bq mem b bx) w':=by
 intro bx;have n:e<w'.heap.size:=(oc.1 i).1;have hx:=jG (L:=some (e,0)) h (bx:=bx) f p g;refine⟨h.add f p g (λc k q=>by obtain⟨rfl,rfl⟩:=b8 (aq q);exact⟨m,n⟩) ?_,hx⟩;exact .inl ⟨l,rfl,.inr ⟨e,0,o,by simp[aI],i,r⟩⟩
theorem s5{e:aS}{b:Nat}(h:EB e b)(c:e.ro=false):False:=by rw[EB,c] at h;exact absurd h.1 (by simp)
theorem aO.write(h:aO B γ mem w){b:Nat}{m:aS}(p:mem b=some m)(u:m.ro=false){g k:Nat}(y:γ.loc b=some (g,k)){r cur':Array Value}{t:TypeId}{D:Nat×Nat}
  (G:w.heap[g]?=some (.cells r t D)) (Q:cur'.size=r.size) {v:ax} (z:({ m with val:=v }:aS).row=m.row)
  (E:∀w' cm,Ext B γ mem w γ cm w'->w'.heap[g]?=some (.cells cur' t D)->ca γ cm w' b { m with val:=v }) :
  aO B γ (bq mem b { m with val:=v }) (w.setRow g cur')/\Ext B γ mem w γ (bq mem b { m with val:=v }) (w.setRow g cur'):=by
 have H:=h.fresh b g k (by rw[p];simp) y;have A:=setRow_heap w g r cur' t D G;have j:∀i,i≠g->(w.setRow g cur').heap[i]?=w.heap[i]?:=λi q=>setRow_other w g i cur' (λe=>q e);have hx:Ext B γ mem w γ (bq mem b { m with val:=v }) (w.setRow g cur') :=
  { below:=⟨rfl,rfl,rfl,by simp,λi q=>j i λe=>q (by rw[e];exact H.1)⟩
    I:=λ_ _ x=>x
    mo:=λ_ _ x=>.inl x
    cells:=λc o x=>by
     by_cases e:c=g
     .subst e;exact(s5 (h.sep b m c k o p y x) u).elim
     .exact dU (j c e)
    boxes:=λc cx l=>by
     by_cases e:c=b
     .subst e;obtain rfl:cx=m:=aq (l.symm.trans p);exact⟨_,aJ _ _,cU _,λ_=>⟨rfl,rfl,z⟩⟩
     .exact⟨cx,by rw[az _ e];exact l,cU _,λ_=>⟨rfl,rfl,rfl⟩⟩ }
 refine⟨?_,hx⟩;exact
  { bD:=h.sX hx
    base:=by have:=h.base;simpa using this
    boxes:=λc cx l=>by
     by_cases e:c=b
     .subst e;rw[aJ] at l;obtain rfl:=aq l;exact E _ _ hx A
     .rw[az _ e] at l;refine(h.boxes c cx l).keep hx rfl λf C F=>j f λJ=>e ?_;subst J;exact h.inj c b f C k (by rw[l];simp) (by rw[p];simp) F y
    inj:=λc d f K L l M s O=>h.inj c d f K L (by
     by_cases e:c=b
     .subst e;rw[p];simp
     .rwa [az _ e] at l) (by
     by_cases e:d=b
     .subst e;rw[p];simp
     .rwa [az _ e] at M) s O
    fresh:=λc f C l s=>by
     have:=h.fresh c f C (by
      by_cases e:c=b
      .subst e;rw[p];simp
      .rwa [az _ e] at l) s
     exact⟨this.1,by simpa using this.2⟩
    lX:=λf n q=>by have:=h.lX f n q;simpa using this
    sep:=λc cx f C n l s q=>by
     by_cases e:c=b
     .subst e;rw[y] at s;obtain⟨rfl,rfl⟩:=b8 (aq s);exact(s5 (h.sep c m g k n p y q) u).elim
     .rw[az _ e] at l;exact h.sep c cx f C n l s q }
def xd(f:Gh)(b:Nat)(n:Nat):Gh:={ f with I:=λc e=>f.I c e\/((∃k,f.loc b=some (c,k))/\e<n) }
theorem aO.freeze(h:aO B γ mem w){b:Nat}{j:aS}(l:mem b=some j){e:Ty}{n:Nat}(r:j.row=some (e,n)) :
  aO B (xd γ b<|n*e.size) (bq mem b { j with ro:=true }) w/\Ext B γ mem w (xd γ b<|n*e.size) (bq mem b { j with ro:=true }) w:=by
 have hx:Ext B γ mem w (xd γ b<|n*e.size) (bq mem b { j with ro:=true }) w :=
  { below:=lg.refl _ _
    I:=λ_ _ x=>.inl x
    mo:=λy o x=>by
     rcases x with x|⟨⟨k,x⟩,_⟩
     .exact .inl x
     .exact .inr (h.fresh b y k (by rw[l];simp) x).1
    cells:=λ_ _ _=>rfl
    boxes:=λc cx g=>by
     by_cases e:c=b
     .subst e;obtain rfl:cx=j:=aq (g.symm.trans l);exact⟨_,aJ _ _,cU _,λ_=>⟨rfl,rfl,rfl⟩⟩
     .exact⟨cx,by rw[az _ e];exact g,cU _,λ_=>⟨rfl,rfl,rfl⟩⟩ }
 refine⟨?_,hx⟩;exact
  { bD:=h.sX hx
    base:=h.base
    boxes:=λc cx g=>by
     by_cases e:c=b
     .subst e;rw[aJ] at g;obtain rfl:=aq g;have:=(h.boxes c j l).keep hx rfl (λ_ _ _=>rfl);exact this
     .rw[az _ e] at g;exact(h.boxes c cx g).keep hx rfl (λ_ _ _=>rfl)
    inj:=λc d f C D g E q F=>h.inj c d f C D (by
     by_cases e:c=b
     .subst e;rw[l];simp
     .rwa [az _ e] at g) (by
     by_cases e:d=b
     .subst e;rw[l];simp
     .rwa [az _ e] at E) q F
    fresh:=λc f s g q=>h.fresh c f s (by
     by_cases e:c=b
     .subst e;rw[l];simp
     .rwa [az _ e] at g) q
    lX:=λf p i=>by
     rcases i with i|⟨⟨k,v⟩,_⟩
     .exact h.lX f p i
     .exact(h.fresh b f k (by rw[l];simp) v).2
    sep:=λc cx f s p g q i=>by
     by_cases z:c=b
     .subst z;rw[aJ] at g;obtain rfl:=aq g;rcases i with i|⟨⟨k,v⟩,A⟩
      .obtain⟨J,G⟩:=h.sep c j f s p l q i;exact⟨rfl,G⟩
      .refine⟨rfl,λ_ u m H=>?_⟩;have t:j.row=some (u,m):=H;rw[r] at t;obtain⟨rfl,rfl⟩:=b8 (aq t);exact A
     .rw[az _ z] at g;rcases i with i|⟨⟨k,v⟩,A⟩
      .exact h.sep c cx f s p g q i
      .exact absurd (h.inj c b f s k (by rw[g];simp) (by rw[l];simp) q v) z }
end
end Go.Ge
namespace Go.Ge
open RowKit
def iz(P:Program)(B:Own)(N:Nat)(c:Gh)(e:St)(a:Act)(w:World)(d:Option Nat)(s:Sem Value)(b:St):Prop :=
 ∃v w' bc,s.run P w=.ok v w'/\b6 B N bc b (a.put d v) w'/\Ext B c e.mem w bc b.mem w'
section
variable {P:Program} {B:Own} {N:Nat} {γ:Gh} {σ aB:St} {a:Act} {w:World} {d:Option Nat}
theorem bd(h:b6 B N γ σ a w)(b:∀k,d=some k->k<N){s:Sem Value}{v:ax}{x:Value}(c:s.run P w=.ok x w)(e:bw γ σ.mem w v .val [x]) :
  iz P B N γ σ a w d s (σ.aA d v) :=
 ⟨x,w,γ,c,h.mP b e,by cases d<;>exact Ext.refl _ _ _ _⟩
theorem bK{g:Type}{b:Nat}{val:ax}{tid:TypeId}{buf:Bool}{k:Nat->St->Tree g}{y:g}(h:(σ.aw b val tid buf k).run=some y) :
  ∃au,(∀c,σ.mem b=some c->c.au<au)/\(k au<|σ.bI b { val,tid,buf,ro:=false,lk:=false,au }).run=some y:=by
 unfold St.aw at h;split at h
 .rename_i bx f;cases i:bx.lk with
  | true=>rw[i] at h;cases h
  | false =>
    rw[i] at h;exact⟨bx.au+1,(λc e=>by rw[f] at e;obtain rfl:=aq e;omega),h⟩
 .rename_i f;exact⟨0,(λc e=>by rw[f] at e;cases e),h⟩
theorem mQ(c:St)(b:Nat)(e:aS):(c.bI b e).mem=bq c.mem b e:=rfl
theorem bN{c:Nat->Option aS}{b au:Nat}{bx:aS}(h:c b=some bx)(f:bx.au=au){K:aS->Prop}(e:K bx):gC c b au K :=
 ⟨bx,h,by omega,λ_=>e⟩
theorem oA{j:Ctx}(o:df P j){p:Nat}{l:List Nat}{q:TypeId}{x:Operand}(h:b6 B N γ σ a w)(c:∀k,d=some k->k<N)
  (b:(fQ j p l d q (bG σ x) σ).run=some aB):iz P B N γ σ a w d (pure<|a.eval x) aB:=by
 have hv:=h.bG x;unfold fQ at b;split at b
 .rename_i g;rw[g] at hv;obtain⟨_,b⟩:=ak b;obtain rfl:=aq b;exact bd h c rfl hv
 .rename_i g;rw[g] at hv;have hx:a.eval x=.slice none 0 0:=by simpa [bw] using hv
  split at b
  .rename_i k e r;cases m:bJ l k with
   | true =>
     rw[m] at b;simp only[cd] at b;obtain⟨s,f,i⟩:=bK b;obtain rfl:=aq i;obtain⟨t,v,y,z,u⟩:=(o.T _ _ r).slice;obtain⟨m1,n⟩:=h.ok.r9 (tid:=0) f u;refine⟨_,w,_,rfl,h.step n m1 (c k rfl) ?_,n⟩;rw[hx];exact⟨⟨_,rfl,rfl⟩,bN (aJ _ _) rfl ⟨e,0,rfl,rfl,.inl ⟨by simp[aI],rfl⟩⟩⟩
   | false =>
     rw[m] at b;obtain rfl:=aq b;exact bd (d:=some k) h c rfl (by rw[hx];exact⟨_,.inl ⟨⟨none,rfl⟩,rfl⟩,rfl⟩)
  .obtain rfl:=aq b;exact bd h c rfl (by rw[hx];rfl)
 .obtain rfl:=aq b;exact bd h c rfl hv
theorem pf{b:Bool}{v:Value}(h:bw γ σ.mem w (.data .bool b) .val [v]):v=.bool b:=by
 obtain⟨c,e,f⟩:=cH.1 h;rw[f,show c=_ from e];rfl
theorem lZ{k:IntKind}{n:Int}{v:Value}(h:bw γ σ.mem w (.data (.int k) n) .val [v]):v=.int k n/\k.min<=n/\n<=k.max:=by
 obtain⟨e,b,c⟩:=cH.1 h;rw[c,b.1];exact⟨rfl,b.2⟩
theorem nT{s:aE}{v:Value}(h:bw γ σ.mem w (.data .str s) .val [v]):v=.string ⟨s.toArray⟩/\s.length<=maxLen:=by
 obtain⟨cs,b,c⟩:=cH.1 h;rw[c,b.1];exact⟨rfl,b.2⟩
theorem eo(b:Bool):bw γ σ.mem w (.data .bool b) .val [.bool b]:=⟨_,rfl,rfl⟩
theorem mkInt{k:IntKind}{n:Int}(h:k.min<=n/\n<=k.max):bw γ σ.mem w (.data (.int k) n) .val [.int k n]:=⟨_,⟨rfl,h.1,h.2⟩,rfl⟩
theorem mkStr{s:aE}(h:s.length<=maxLen):bw γ σ.mem w (.data .str s) .val [.string ⟨s.toArray⟩]:=⟨_,⟨rfl,h⟩,rfl⟩
theorem xe{c x y:Operand}(h:b6 B N γ σ a w)(j:∀k,d=some k->k<N)(f:(jw d (bG σ c) (bG σ x) (bG σ y) σ).run=some aB) :
  iz P B N γ σ a w d (do pure (if <-asBool (a.eval c) then a.eval x else a.eval y)) aB:=by
 have r:=h.bG c;have hx:=h.bG x;have l:=h.bG y;unfold jw at f;split at f
 .rename_i g m;rw[m] at r;have n:a.eval c=.bool g:=pf r;have b:(do pure (if <-asBool (a.eval c) then a.eval x else a.eval y):Sem Value).run P w=.ok (if(show Bool from g)=true then a.eval x else a.eval y) w:=by
   rw[n];cases g<;>rfl
  split at f
  .rename_i t v u z o p;rw[o] at hx;rw[p] at l;split at f
   .rename_i A q;obtain rfl:=aq f;obtain⟨e,s⟩:=Ty.fZ q;subst e;subst s;refine bd h j b ?_;cases g
    .exact l
    .exact hx
   .cases f
  .have i:=eh f;cases g
   .obtain rfl:=aq i;exact bd h j b l
   .obtain rfl:=aq i;exact bd h j b hx
 .cases f
theorem dD(k:IntKind)(n:Int):k.min<=k.wrap n/\k.wrap n<=k.max:=wrap_within k n
theorem L0{k:IntKind}{x y:Int}(h:k.min<=x/\x<=k.max):k.min<=x.tmod y/\x.tmod y<=k.max:=by
 have b:k.min<=0:=by cases k<;>decide
 have c:0<=k.max:=by cases k<;>decide
 have f:(x.tmod y).natAbs<=x.natAbs:=by
  rw[Int.natAbs_tmod];exact Nat.mod_le _ _
 rcases Int.le_total 0 x with e|e
 .have:=Int.tmod_nonneg y e;omega
 .have:x.tmod y<=0:=by
   have:=Int.tmod_nonneg y (show 0<=-x by omega);rw[Int.neg_tmod] at this;omega
  omega
theorem L1{k:IntKind}{x:Int}(n:Nat)(h:k.min<=x/\x<=k.max):k.min<=x.fdiv (2 ^ n)/\x.fdiv (2 ^ n)<=k.max:=by
 have f:k.min<=0:=by cases k<;>decide
 have g:0<=k.max:=by cases k<;>decide
 have b:(0:Int)<2 ^ n:=Int.pow_pos (by decide);have e:x.fdiv (2 ^ n)=x / 2 ^ n:=Int.fdiv_eq_ediv_of_nonneg _ (by omega);rw[e];rcases Int.le_total 0 x with c|c
 .have i:=Int.ediv_nonneg c (Int.le_of_lt b);have j:=Int.ediv_le_self (2 ^ n:Int) c;omega
 .have j:x / 2 ^ n<1:=Int.ediv_lt_of_lt_mul b (by omega);have l:x<=x / 2 ^ n:=by
   rw[Int.le_ediv_iff_mul_le b];have i:(1:Int)<=2 ^ n:=b;have:=Int.mul_le_mul_of_nonpos_left c i;simpa using this
  omega
theorem A4{b:BinOp}{l:Bool}(h:sN b=some l):(b=.shl/\l=true)\/(b=.shr/\l=false):=by
 cases b<;>simp[sN] at h<;>simp[h]
theorem kV{b:BinOp}{l:Bool}(h:isEq b=some l):(b=.eql/\l=true)\/(b=.neq/\l=false):=by
 cases b<;>simp[isEq] at h<;>simp[h]
def eE(b:BinOp)(c:TypeId)(x y:Operand)(u v:Value):Sem Value:=do eqGuard b c x y u v;binOp b c u v
theorem A5{f:BinOp}{k:IntKind}{n m:Int}{v:ax}{i:TypeId}{x y:Operand}(j:k.min<=n/\n<=k.max)(h:sN f=none)(c:(Ev f k n m).run=some v) :
  ∃r,(eE f i x y (.int k n)<|.int k m).run P w=.ok r w/\bw γ σ.mem w v .val [r]:=by
 unfold eE;cases f<;>simp only[eqGuard_at_int,Sem.run_bind,Sem.run_pure,Result.andThen_ok]<;>simp only[Ev] at c
 case add=>obtain rfl:=aq c;exact⟨.int k<|aK k n m,by simp only[binOp_add,Op.intArith,Sem.run_pure];rfl,mkInt (dD _ _)⟩
 case sub=>obtain rfl:=aq c;exact⟨.int k<|dC k n m,by simp only[binOp_sub,Op.intArith,Sem.run_pure];rfl,mkInt (dD _ _)⟩
 case mul=>obtain rfl:=aq c;exact⟨.int k<|js k n m,by simp only[binOp_mul,Op.intArith,Sem.run_pure];rfl,mkInt (dD _ _)⟩
 case quo =>
  have b:=eh c;cases e:aQ m 0
  .rw[e] at b;obtain rfl:=aq b;have g:m≠0:=by simpa [aQ] using e
   exact⟨.int k<|vu k n m,by simp only[binOp_quo,Op.intDiv,bp g,Sem.run_pure];rfl,mkInt (dD _ _)⟩
  .rw[e] at b;cases b
 case rem =>
  have b:=eh c;cases e:aQ m 0
  .rw[e] at b;obtain rfl:=aq b;have g:m≠0:=by simpa [aQ] using e
   exact⟨.int k<|iX n m,by simp only[binOp_rem,Op.intDiv,bp g,Sem.run_pure];rfl,mkInt (L0 j)⟩
  .rw[e] at b;cases b
 case and=>obtain rfl:=aq c;exact⟨.int k<|iY k n m,by simp only[binOp_and,intBits_and,Sem.run_pure];rfl,mkInt (dD _ _)⟩
 case or=>obtain rfl:=aq c;exact⟨.int k<|oi k n m,by simp only[binOp_or,intBits_or,Sem.run_pure];rfl,mkInt (dD _ _)⟩
 case xor=>obtain rfl:=aq c;exact⟨.int k<|dY k n m,by simp only[binOp_xor,intBits_xor,Sem.run_pure];rfl,mkInt (dD _ _)⟩
 case andNot=>obtain rfl:=aq c;exact⟨.int k<|Nh k n m,by simp only[binOp_andNot,intBits_andNot,Sem.run_pure];rfl,mkInt (dD _ _)⟩
 case shl=>cases h
 case shr=>cases h
 case eql=>obtain rfl:=aq c;exact⟨.bool<|aQ n m,by simp[binOp,Op.intCmp,aQ];rfl,eo _⟩
 case neq=>obtain rfl:=aq c;exact⟨.bool<|nt<|aQ n m,by simp[binOp,Op.intCmp,aQ,nt];rfl,eo _⟩
 case lss=>obtain rfl:=aq c;exact⟨.bool<|cW n m,by simp[binOp,Op.intCmp,cW],eo _⟩
 case leq=>obtain rfl:=aq c;exact⟨.bool<|oW n m,by simp[binOp,Op.intCmp,oW],eo _⟩
 case gtr=>obtain rfl:=aq c;exact⟨.bool<|cW m n,by simp[binOp,Op.intCmp,cW],eo _⟩
 case geq=>obtain rfl:=aq c;exact⟨.bool<|oW m n,by simp[binOp,Op.intCmp,oW],eo _⟩
theorem fv(s:aE):(⟨s.toArray⟩:ByteArray).toList=s:=by rw[ByteArray.toList_eq]
theorem ED(s t:aE):(s==t)=ie s t:=by rw[Bool.eq_iff_iff];simp[ie]
theorem A6{c:BinOp}{s t:aE}{v:ax}{g:TypeId}{x y:Operand}(b:(Ew c s t).run=some v) :
  ∃r,(eE c g x y (.string ⟨s.toArray⟩)<|.string ⟨t.toArray⟩).run P w=.ok r w/\bw γ σ.mem w v .val [r]:=by
 unfold eE;cases c<;>simp only[eqGuard_at_string,Sem.run_bind,Sem.run_pure,Result.andThen_ok]<;>simp only[Ew] at b<;>try (cases b;done)
 case add =>
  obtain⟨h,e⟩:=bM b;obtain rfl:=aq e;have j:s.length+t.length<=4294967296:=by have i:plus (len s) (len t)<=4294967296:=yW h;simp only[plus,len] at i;omega
  refine⟨.string ⟨(s++t).toArray⟩,?_,mkStr (by simp only[app,l9,maxLen];omega)⟩;have f:∀l:aE,(⟨l.toArray⟩:ByteArray).size=l.length:=λl=>rfl;have:¬(((s.length+t.length:Nat):Int) > IntKind.i64.max):=by rw[IntKind.max_i64];omega
  simp only[binOp,Op.stringOp,f,this,ug,Sem.run_pure]
  congr 2
 case eql=>obtain rfl:=aq b;exact⟨.bool<|ie s t,by simp only[binOp,Op.stringOp,fv,ED,Sem.run_pure],eo _⟩
 case neq=>obtain rfl:=aq b;exact⟨.bool<|nt<|ie s t,by simp only[binOp,Op.stringOp,fv,ED,Sem.run_pure];rfl,eo _⟩
 case lss=>obtain rfl:=aq b;exact⟨.bool<|LN s t,by simp only[binOp,Op.stringOp,fv,ED,Sem.run_pure];rfl,eo _⟩
 case leq=>obtain rfl:=aq b;exact⟨.bool<|Py (LN s t)<|ie s t,by simp only[binOp,Op.stringOp,fv,ED,Sem.run_pure];rfl,eo _⟩
 case gtr=>obtain rfl:=aq b;exact⟨.bool<|nt<|Py (LN s t)<|ie s t,by simp only[binOp,Op.stringOp,fv,ED,Sem.run_pure];rfl,eo _⟩
 case geq=>obtain rfl:=aq b;exact⟨.bool<|nt<|LN s t,by simp only[binOp,Op.stringOp,fv,ED,Sem.run_pure];rfl,eo _⟩
theorem CT{b:BinOp}{left:Bool}{k e:IntKind}{n m:Int}{f:TypeId}{x y:Operand}(g:k.min<=n/\n<=k.max)(h:sN b=some left)(i:cW m 0=false) :
  ∃r,(eE b f x y (.int k n)<|.int e m).run P w=.ok r w/\bw γ σ.mem w (.data (.int k)<|bif left then ix k n m else nj k n m) .val [r]:=by
 have c:¬m<0:=by simpa [cW] using i
 unfold eE;rcases A4 h with ⟨rfl,rfl⟩|⟨rfl,rfl⟩
 .exact⟨.int k<|ix k n m,by simp only[eqGuard_shl,binOp_shl,Op.shift,bp c,Sem.run_bind,Sem.run_pure,Result.andThen_ok];rfl,mkInt (dD _ _)⟩
 .exact⟨.int k<|nj k n m,by simp only[eqGuard_shr,binOp_shr,Op.shift,bp c,Sem.run_bind,Sem.run_pure,Result.andThen_ok];rfl,mkInt (L1 _ g)⟩
theorem qY{t:Ty}{c:TypeId}(g:Den P t c){cs:Array Value}{off:Nat}(h:off+t.size<=cs.size)(j:t.isAgg=false->t.size=1) :
  (part c cs off).run P w=.ok (bX t<|(cs.toList.drop off).take t.size) w:=by
 unfold part;rw[Sem.run_bind,g.agg w,Result.andThen_ok];cases b:t.isAgg with
 | true =>
   simp only[jr,Sem.run_bind,g.sizeOf w,Result.andThen_ok,Sem.run_pure,bX,b,cd]
   congr 2
   apply CJ;simp
 | false =>
   have hs:=j b;simp only[bp<|show ¬(false=true) by simp,bX,b,fk,hs];have f:off<cs.size:=by omega
   have e:(cs.toList.drop off).take 1=[cs[off]]:=by
    apply Cw;intro i;rw[kK];cases i with
    | zero=>simp[f]
    | succ i=>simp
   rw[e];simp[f]
theorem lE:∀{t:Ty},t.isAgg=false->t.size=1:=by
 intro t h;induction t with
 | alt u a r c b=>exact b h
 | arr|pair|unit=>cases h
 | _=>rfl
theorem CU(t:Ty):1<=t.sM:=by cases t<;>simp[Ty.sM]
theorem rG{γ:Gh}{w:World}:∀(t:Ty),(∀(d:Nat) (tid:TypeId) (x y:t.den) (cx cy:List Value) (c:Bool),Den P t tid->bg w γ.I t x cx->bg w γ.I t y cy->Ty.eqv t x y=some c->t.sM<d ->
   (Op.equalIn d tid (bX t cx)<|bX t cy).run P w=.ok c w) /\
  (∀(d off:Nat) (v:List Field) (x y:t.den) (cx cy:List Value) (o s:Array Value) (c:Bool),ka P t off v->bg w γ.I t x cx->bg w γ.I t y cy->Ty.eqv t x y=some c->t.sM<d ->
   o.toList.drop off=cx->s.toList.drop off=cy->off<=o.size->off<=s.size->(Op.eqFields d o s v).run P w=.ok c w):=by
 intro t;induction t with
 | int k =>
   refine⟨λd tid x y cx cy c g A C m J=>?_,λd off v x y cx cy o s c g=>by simp[ka,ed] at g⟩;obtain⟨d,rfl⟩:∃e,d=e+1:=⟨d-1,by omega⟩;rw[A.1,C.1];obtain rfl:=aq m;show(Op.equalIn (d+1) tid (.int k x)<|.int k y).run P w=_
   rw[run_equalIn_int w d tid k k x y g.int]
   congr 1
 | bool =>
   refine⟨λd tid x y cx cy c g A C m J=>?_,λd off v x y cx cy o s c g=>by simp[ka,ed] at g⟩;obtain⟨d,rfl⟩:∃e,d=e+1:=⟨d-1,by omega⟩;rw[show cx=_ from A,show cy=_ from C];obtain rfl:=aq m;exact run_equalIn_bool' w d tid x y g.bool
 | str =>
   refine⟨λd tid x y cx cy c g A C m J=>?_,λd off v x y cx cy o s c g=>by simp[ka,ed] at g⟩;obtain⟨d,rfl⟩:∃e,d=e+1:=⟨d-1,by omega⟩;rw[A.1,C.1];obtain rfl:=aq m;have K:=run_equalIn_string (P:=P) w d tid ⟨List.toArray (α:=UInt8) x⟩ ⟨List.toArray (α:=UInt8) y⟩ g.str;rw[fv<|show aE from x,fv (show aE from y),ED] at K;exact K
 | slice e ih=>exact⟨(λd tid x y cx cy c g A C m=>by cases m),(λd off v x y cx cy o s c g=>by simp[ka,ed] at g)⟩
 | alt u a r Y RT=>exact⟨(λd tid x y cx cy c g A C m=>by cases m),(λd off v x y cx cy o s c g=>by simp[ka,ed] at g)⟩
 | rr=>exact⟨(λd tid x y cx cy c g A C m=>by cases m),(λd off v x y cx cy o s c g=>by simp[ka,ed] at g)⟩
 | arr n e ih =>
   refine⟨λd tid x y cx cy c g A C m J=>?_,(λd off v x y cx cy o s c g=>by simp[ka,ed] at g)⟩;cases e with
   | int k =>
     obtain⟨d,rfl⟩:∃e,d=e+1:=⟨d-1,by omega⟩;obtain⟨d,rfl⟩:∃e,d=e+1:=⟨d-1,by have:(Ty.arr n<|.int k).sM=1+1:=rfl;omega⟩;obtain rfl:=aq m;obtain⟨Z,L,F,k3⟩:=g.arr;obtain⟨i,z,i1,i2,_,_⟩:=F.info;have M:=F.cells;show(Op.equalIn (d+1+1) tid (.agg cx.toArray)<|.agg cy.toArray).run P w=_
     rw[run_equalIn_array w (d+1) cx.toArray cy.toArray L i1,M];obtain⟨Q8,O,D⟩:=A;obtain⟨Q9,Q,E⟩:=C;have U:(Ty.int k).size=1:=rfl;rw[U] at O D Q E⊢;rw[wI] at O Q;change List Int at x y;have item:∀V:List Nat,(∀i∈V,i<n)->(Op.eqItems (d+1) Z 1 cx.toArray cy.toArray V).run P w=.ok (V.all λi=>decide (x[i]?=y[i]?)) w:=by
      intro V;induction V with
      | nil=>intro _;rfl
      | cons i V RU =>
        intro hi;have G:=hi i (kQ ..);obtain⟨a,Ra⟩:∃a,x[i]?=some a:=⟨_,nP (by rw[show x.length=n from Q8];exact G)⟩;obtain⟨b,Rb⟩:∃a,y[i]?=some a:=⟨_,nP (by rw[show y.length=n from Q9];exact G)⟩;have W:=qY (w:=w) F (cs:=cx.toArray) (off:=i*1) (by rw[U];simp[O];omega) (λ_=>U);have X:=qY (w:=w) F (cs:=cy.toArray) (off:=i*1) (by rw[U];simp[Q];omega) (λ_=>U);have ex:=(D i _ Ra).1;have ey:=(E i _ Rb).1;rw[U] at W X;rw[show cx.toArray.toList=cx from rfl,ex] at W;rw[show cy.toArray.toList=cy from rfl,ey] at X;simp only[Op.eqItems,Sem.run_bind,W,X,Result.andThen_ok];have R:=run_equalIn_int w d Z k k a b F.int;simp only[bX,Ty.isAgg,fk,List.headD_cons,R,jr,Result.andThen_ok,Ra,Rb,List.all_cons];cases hb:(a==b) with
        | true =>
          have S:a=b:=by simpa using hb
          simp only[Bool.not_true,Et,ug,S,wJ,Bool.true_and];exact RU λj hj=>hi j (kJ _ hj)
        | false =>
          have S:¬a=b:=by simpa using hb
          simp[S]
     rw[item _ λi hi=>CF.1 hi]
     congr 1
     unfold Q7;rw[Bool.eq_iff_iff,tZ];simp only[CF,yV];constructor
     .intro h;apply Cw;intro i;by_cases G:i<n
      .exact h i G
      .rw[Hf<|by rw[show x.length=n from Q8];omega,Hf (by rw[show y.length=n from Q9];omega)]
     .intro h i _;exact congrArg (λl=>l[i]?) h
   | _=>cases m
 | unit =>
   refine⟨(λd tid x y cx cy c g=>by simp[Den,ed] at g),λd off v x y cx cy o s c g A C m J K h2 h3 h4=>?_⟩;cases v with
   | nil=>obtain rfl:=aq m;rfl
   | cons f r=>simp[ka,ed] at g
 | pair a b Y RV =>
   have key:(∀(d off:Nat) (v:List Field) (x y:(Ty.pair a b).den) (cx cy:List Value) (o s:Array Value) (c:Bool),ka P (.pair a b) off v->bg w γ.I (.pair a b) x cx->bg w γ.I (.pair a b) y cy->Ty.eqv (.pair a b) x y=some c->(Ty.pair a b).sM<d+1 ->
    o.toList.drop off=cx->s.toList.drop off=cy->off<=o.size->off<=s.size->(Op.eqFields d o s v).run P w=.ok c w):=by
    intro d off v x y cx cy o s c g A C m J K h2 h3 h4;obtain⟨f,r,rfl,L,F,k3,k4,k5⟩:=g.cons;obtain⟨x1,x2,D,NL,PA⟩:=A;obtain⟨y1,y2,E,Rc,PZ⟩:=C;simp only[Ty.eqv] at m;cases H:Ty.eqv a x.1 y.1 with
    | none=>rw[H] at m;cases m
    | some p =>
      cases T:Ty.eqv b x.2 y.2 with
      | none=>rw[H,T] at m;cases m
      | some q =>
        rw[H,T] at m;obtain rfl:=aq m;have Rd:=NL.length;have Re:=Rc.length;have lx:o.size-off=x1.length+x2.length:=by
         have:=congrArg List.length (K.trans D);simpa using this
        have ly:s.size-off=y1.length+y2.length:=by
         have:=congrArg List.length (h2.trans E);simpa using this
        have W:=qY (w:=w) k3 (cs:=o) (off:=f.offset) (by omega) lE;have X:=qY (w:=w) k3 (cs:=s) (off:=f.offset) (by omega) lE;have ex:(o.toList.drop f.offset).take a.size=x1:=by rw[L,K,D,<-Rd,zV]
        have ey:(s.toList.drop f.offset).take a.size=y1:=by rw[L,h2,E,<-Re,zV]
        rw[ex] at W;rw[ey] at X;have Nl:(Ty.pair a b).sM=a.sM+b.sM+1:=rfl;have TN:=CU a;have TO:=CU b;have R:=Y.1 d f.type x.1 y.1 x1 y1 p k3 NL Rc H (by omega);simp only[Op.eqFields,bH F,Sem.run_bind,W,X,R,Result.andThen_ok];cases p with
        | false=>simp[an]
        | true =>
          simp only[Bool.not_true,Et,ug];rw[RV.2 d (off+a.size) r x.2 y.2 x2 y2 o s q k5 PA PZ T (by omega) (by rw[<-oZ,K,D,<-Rd,rV]) (by rw[<-oZ,h2,E,<-Re,rV]) (by omega)<|by omega];simp[an]
   refine⟨λd tid x y cx cy c g A C m J=>?_,λd off v x y cx cy o s c g A C m J=>key d off v x y cx cy o s c g A C m (by omega)⟩;obtain⟨d,rfl⟩:∃e,d=e+1:=⟨d-1,by omega⟩;obtain⟨v,L,F,k3,k4⟩:=g.pair;have hf:P.fieldsOf tid=v:=by simp[Program.fieldsOf,L]
   show(Op.equalIn (d+1) tid (.agg _)<|.agg _).run P w=_
   rw[run_equalIn_struct w d tid _ _ (by rw[hf];exact L) k4,hf];exact key d 0 v.toList x y cx cy _ _ c F A C m (by omega) (by simp) (by simp) (by simp) (by simp)
end
end Go.Ge
