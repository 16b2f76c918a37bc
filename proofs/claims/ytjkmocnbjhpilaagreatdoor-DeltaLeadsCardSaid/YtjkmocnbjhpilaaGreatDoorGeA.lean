/- A ghost interpreter of the model's code, and that it tells the truth: part 1. It says of a function of plain data what a call of it comes to. -/
import Derived.WalkKit
namespace Go.Ge
set_option linter.unusedVariables false
inductive Ty where
 | int (k:IntKind)|bool|str|slice (e:Ty)|arr (n:Nat) (e:Ty)|pair (a b:Ty)|unit
 | alt (u:Nat) (a r:Ty)|vQ
def Ty.den:Ty→Type
 | .int _=>Int
 | .bool=>Bool
 | .str=>List UInt8
 | .slice e=>List e.den
 | .arr _ e=>List e.den
 | .pair a b=>a.den×b.den
 | .unit=>Unit
 | .alt _ a r=>a.den⊕r.den
 | .vQ=>Unit
def vt:IntKind→Nat
 | .i8=>0|.i16=>1|.i32=>2|.i64=>3|.u8=>4|.u16=>5|.u32=>6|.u64=>7
theorem tO{a b:IntKind}(h:Nat.beq (vt a) (vt b)=true):a=b:=by
 cases a<;>cases b<;>first|rfl|(exact absurd h (by decide))
def Ty.beq:Ty→Ty→Bool
 | .int k,.int k'=>Nat.beq (vt k) (vt k')
 | .bool,.bool=>true
 | .str,.str=>true
 | .slice e,.slice f=>Ty.beq e f
 | .arr n e,.arr m f=>Nat.beq n m&&Ty.beq e f
 | .pair a b,.pair c d=>Ty.beq a c&&Ty.beq b d
 | .unit,.unit=>true
 | .alt u a r,.alt v b s=>Nat.beq u v&&(Ty.beq a b&&Ty.beq r s)
 | .vQ,.vQ=>true
 | _,_=>false
theorem Ty.eq_of_beq:∀{a b:Ty},Ty.beq a b=true→a=b:=by
 intro a
 induction a with
 | int k=>intro b h;cases b<;>first|(exact congrArg _ (tO h))|(cases h)
 | bool=>intro b h;cases b<;>first|rfl|(cases h)
 | str=>intro b h;cases b<;>first|rfl|(cases h)
 | slice e ih=>intro b h;cases b<;>first|(exact congrArg _ (ih h))|(cases h)
 | arr n e ih =>
   intro b h
   cases b<;>first|(cases h;done)|skip
   simp only[Ty.beq,Bool.and_eq_true] at h
   rw[Nat.eq_of_beq_eq_true h.1,ih h.2]
 | pair a b iQ kX =>
   intro c h
   cases c<;>first|(cases h;done)|skip
   simp only[Ty.beq,Bool.and_eq_true] at h
   rw[iQ h.1,kX h.2]
 | unit=>intro b h;cases b<;>first|rfl|(cases h)
 | alt u a r iQ ihr =>
   intro c h
   cases c<;>first|(cases h;done)|skip
   simp only[Ty.beq,Bool.and_eq_true] at h
   rw[Nat.eq_of_beq_eq_true h.1,iQ h.2.1,ihr h.2.2]
 | vQ=>intro b h;cases b<;>first|rfl|(cases h)
def Ty.to(t u:Ty)(x:t.den):Option u.den :=
 if h:Ty.beq t u=true then some ((Ty.eq_of_beq h)▸x) else none
theorem Ty.beq_refl(t:Ty):Ty.beq t t=true:=by
 induction t with
 | int k=>cases k<;>rfl
 | bool=>rfl
 | str=>rfl
 | slice e ih=>exact ih
 | arr n e ih=>simp[Ty.beq,ih]
 | pair a b iQ kX=>simp[Ty.beq,iQ,kX]
 | unit=>rfl
 | alt u a r iQ ihr=>simp[Ty.beq,iQ,ihr]
 | vQ=>rfl
theorem Ty.iY{t u:Ty}{x:t.den}{y:u.den}(h:Ty.to t u x=some y):∃e:t=u,y=e▸x:=by
 unfold Ty.to at h
 split at h
 ·rename_i hb
  exact⟨Ty.eq_of_beq hb,by simpa using h.symm⟩
 ·cases h
def L9(t u:Ty)(l:List t.den):Option (List u.den) :=
 if h:Ty.beq t u=true then some ((Ty.eq_of_beq h)▸l) else none
theorem ji{t u:Ty}{l:List t.den}{m:List u.den}(h:L9 t u l=some m):∃e:t=u,m=e▸l:=by
 unfold L9 at h
 split at h
 ·rename_i hb
  exact⟨Ty.eq_of_beq hb,by simpa using h.symm⟩
 ·cases h
def Ty.size:Ty→Nat
 | .int _|.bool|.str|.slice _=>1
 | .arr n e=>n*e.size
 | .pair a b=>a.size+b.size
 | .unit=>0
 | .alt _ _ r=>r.size
 | .vQ=>1
def Ty.isAgg:Ty→Bool
 | .arr ..|.pair ..|.unit=>true
 | .alt _ _ r=>r.isAgg
 | _=>false
def Ty.zero:(t:Ty)→t.den
 | .int _=>(0:Int)
 | .bool=>false
 | .str=>([]:List UInt8)
 | .slice _=>[]
 | .arr n e=>List.replicate n e.zero
 | .pair a b=>(a.zero,b.zero)
 | .unit=>()
 | .alt _ _ r=>.inr r.zero
 | .vQ=>()
def au{α:Type}(c:Bool)(x y:α):α:=bif c then x else y
def ah{α β:Type}(o:Option α)(f:α→Option β):Option β:=o.bind f
def nt(b:Bool):Bool:=!b
def an(a b:Bool):Bool:=a&&b
def Uw(a b:Bool):Bool:=a||b
def bp(a b:Int):Bool:=decide (a=b)
def tM(a b:Nat):Bool:=Nat.beq a b
def cm(a b:Int):Bool:=decide (a<b)
def gj(a b:Int):Bool:=decide (a≤b)
def bZ(a b:List UInt8):Bool:=decide (a=b)
def vu(a b:List UInt8):Bool:=Op.bytesLess a b
def YE(a b:List Int):Bool:=decide (a=b)
def Ux(a b:Bool):Bool:=a==b
def jj{S:Type}(o:Option (S⊕(Nat×S))):Option (S⊕S):=o.map fun r=>match r with|.inl x=>.inl x|.inr y=>.inr y.2
def bn(k:IntKind)(a b:Int):Int:=k.wrap (a+b)
def cM(k:IntKind)(a b:Int):Int:=k.wrap (a-b)
def Da(k:IntKind)(a b:Int):Int:=k.wrap (a*b)
def VZ(k:IntKind)(a b:Int):Int:=k.wrap (a.tdiv b)
def Ma(a b:Int):Int:=a.tmod b
def vv(k:IntKind)(a:Int):Int:=k.wrap a
def vX(k:IntKind)(x y:Int):Int:=k.wrap (BitVec.ofInt k.bits x &&& BitVec.ofInt k.bits y).toNat
def JQ(k:IntKind)(x y:Int):Int:=k.wrap (BitVec.ofInt k.bits x ||| BitVec.ofInt k.bits y).toNat
def zN(k:IntKind)(x y:Int):Int:=k.wrap (BitVec.ofInt k.bits x ^^^ BitVec.ofInt k.bits y).toNat
def T8(k:IntKind)(x y:Int):Int:=k.wrap (BitVec.ofInt k.bits x &&& ~~~BitVec.ofInt k.bits y).toNat
def Uy(a b:Int):Int:=bif decide (b<a) then b else a
def imax(a b:Int):Int:=bif decide (a<b) then b else a
def Bo(k:IntKind)(a b:Int):Int:=k.wrap (a*2 ^ (min b.toNat k.bits))
def rE(k:IntKind)(a b:Int):Int:=a.fdiv (2 ^ (min b.toNat k.bits))
def plus(a b:Int):Int:=a+b
def minus(a b:Int):Int:=a-b
def len{α:Type}(l:List α):Int:=l.length
def app{α:Type}(l m:List α):List α:=l++m
def one{α:Type}(x:α):List α:=[x]
def idx{α:Type}(l:List α)(i:Int):Option α:=if 0≤i then l[i.toNat]? else none
def rF{α:Type}(l:List α)(i:Int)(x:α):List α:=l.set i.toNat x
def qc{α:Type}(n:Int)(x:α):List α:=List.replicate n.toNat x
def sub{α:Type}(l:List α)(lo n:Int):List α:=(l.drop lo.toNat).take n.toNat
def bP{α:Type}(l:List α)(n:Int):List α:=l.take n.toNat
def over{α:Type}(l:List α)(lo:Int)(c:List α):List α:=l.take lo.toNat++c++l.drop (lo.toNat+c.length)
def pick{α β γ:Type}(f:α→γ)(g:β→γ)(x:α⊕β):γ:=match x with|.inl a=>f a|.inr b=>g b
def u8(b:UInt8):Int:=(b.toNat:Int)
def ai(s:List UInt8):List Int:=s.map fun b=>(b.toNat:Int)
def bV(l:List Int):List UInt8:=l.map fun n=>UInt8.ofNat n.toNat
def fits(n:Int):Bool:=decide (n≤4294967296)
def inside(a b n:Int):Bool:=decide (0≤a)&&decide (a≤b)&&decide (b≤n)
def within(i n:Int):Bool:=decide (0≤i)&&decide (i<n)
inductive Tree (α:Type):Type 1 where
 | ret (a:α)
 | fail
 | node (c:Bool) (t e:Tree α)
 | look {T:Type} (o:Option T) (k:T→Tree α)
namespace Tree
def bind{α β:Type}:Tree α→(α→Tree β)→Tree β
 | .ret a,f=>f a
 | .fail,_=>.fail
 | .node c t e,f=>.node c (t.bind f) (e.bind f)
 | .look o k,f=>.look o fun x=>(k x).bind f
def run{α:Type}:Tree α→Option α
 | .ret a=>some a
 | .fail=>none
 | .node c t e=>au c t.run e.run
 | .look o k=>ah o fun x=>(k x).run
def join{T β:Type}(t:Tree T)(k:T→Tree β):Tree β :=
 match t with
 | .ret x=>k x
 | .node c (.ret x) (.ret y)=>k (au c x y)
 | t=>.look t.run k
def need{α:Type}(c:Bool)(t:Tree α):Tree α:=.node c t .fail
def T9{α:Type}:Option α→Tree α
 | some a=>.ret a
 | none=>.fail
end Tree
inductive Ci where
 | qI (k off:Nat)
 | idx (i:Int) (size:Nat)
inductive aQ where
 | undef
 | data (t:Ty) (x:t.den)
 | lz
 | oA
 | pN
 | sF (b ax:Nat)
 | cell (t:Ty) (x:t.den)
 | ptr (b ax:Nat) (p:List Ci)
 | whole (b ax:Nat)
 | part (b ax:Nat) (lo n:Int)
 | win (b ax:Nat) (q:List Ci) (e:Ty) (k:Nat) (lo n:Int)
 | fn (f:Nat) (caps:List (Nat×Nat))
 | mix (a b:aQ)
 | yT (vs:aQ)
 | nl
structure bL where
 val:aQ
 tid:TypeId
 buf:Bool
 ro:Bool
 lk:Bool
 ax:Nat
structure St where
 slots:Nat→aQ
 mem:Nat→Option bL
structure cZ where
 A:Ty
 R:Ty
 spec:A.den→Option R.den
structure s7 where
 ps:List Bool
 A:Ty
 U:Ty
 R:Ty
 spec:A.den×U.den→Option (R.den×U.den)
inductive kK where
 | dat (t:Ty)
 | buf (e:Ty) (eB:Nat)
 | one
 | self
inductive OM where
 | Qr (T:Nat)
 | str (T E:Nat)
 | clone (e:Ty)
 | own (e A:Ty) (res:Bool) (spec:List e.den→A.den→Option (List e.den))
structure Ctx where
 T:List (Nat×Ty)
 mU:List Nat
 tP:List Nat
 fns:List (Nat×Func)
 cF:List (Nat×cZ)
 bg:List (Nat×s7)
 nV:List (Nat×List kK)
 JR:List (Nat×OM)
 els:List (Nat×Nat)
 inv:List (String×cZ)
def JT{α:Type}:List (String×α)→String→Option α
 | [],_=>none
 | (i,a)::r,k=>bif decide (i=k) then some a else JT r k
def find{α:Type}:List (Nat×α)→Nat→Option α
 | [],_=>none
 | (i,a)::r,k=>bif Nat.beq i k then some a else find r k
def St.put(σ:St)(d:Nat)(v:aQ):St:={ σ with slots:=fun t=>bif Nat.beq t d then v else σ.slots t }
def St.aR(σ:St)(d:Option Nat)(v:aQ):St:=match d with|some d=>σ.put d v|none=>σ
def St.bX(σ:St)(b:Nat)(x:bL):St:={ σ with mem:=fun i=>bif Nat.beq i b then some x else σ.mem i }
def St.aL{β:Type}(σ:St)(b:Nat)(val:aQ)(tid:TypeId)(buf:Bool)(k:Nat→St→Tree β):Tree β :=
 match σ.mem b with
 | some bx=>bif bx.lk then .fail else k (bx.ax+1) (σ.bX b { val,tid,buf,ro:=false,lk:=false,ax:=bx.ax+1 })
 | none=>k 0 (σ.bX b { val,tid,buf,ro:=false,lk:=false,ax:=0 })
def cT:List Nat→Nat→Bool
 | [],_=>false
 | i::r,t=>Nat.beq t i||cT r t
def D2:Value→aQ
 | .int k n=>bif decide (k.min≤n)&&decide (n≤k.max) then .data (.int k) n else .undef
 | .bool b=>.data .bool b
 | .string s=>bif Nat.ble s.data.toList.length 4294967296 then .data .str s.data.toList else .undef
 | .pointer none=>.oA
 | .nilIface=>.pN
 | .slice none 0 0=>.lz
 | _=>.undef
def cq(σ:St):Operand→aQ
 | .tmp t=>σ.slots t
 | .const v=>D2 v
 | .func f=>.fn f []
 | .global _=>.undef
def gR:Ty→Nat→Option Nat
 | .pair _ _,0=>some 0
 | .pair a b,k+1=>(gR b k).map (a.size+·)
 | _,_=>none
def dY:aQ→Nat
 | .data t _=>t.size
 | .mix a b=>dY a+dY b
 | .nl=>0
 | _=>1
def l8:(t:Ty)→t.den→Nat→Option (Nat×aQ)
 | .pair a _,x,0=>some (0,.data a x.1)
 | .pair a b,x,k+1=>match l8 b x.2 k with|some r=>some (a.size+r.1,r.2)|none=>none
 | _,_,_=>none
def jV:aQ→Nat→Option (Nat×aQ)
 | .data t x,k=>l8 t x k
 | .mix a _,0=>some (0,a)
 | .mix a b,k+1=>match jV b k with|some r=>some (dY a+r.1,r.2)|none=>none
 | _,_=>none
def ON(t:Ty):aQ→Option t.den
 | .data u x=>Ty.to u t x
 | .lz=>match t with|.slice _=>some []|_=>none
 | _=>none
def Qb(t:Ty):aQ→Option t.den
 | .data u x=>Ty.to u t x
 | _=>none
def DG:(t:Ty)→t.den→Nat→(aQ→Tree aQ)→Tree t.den
 | .pair a b,x,0,f=>(f (.data a x.1)).bind fun v=>match Qb a v with
   | some y=>.ret (y,x.2)
   | none=>.fail
 | .pair a b,x,k+1,f=>(DG b x.2 k f).bind fun y=>.ret (x.1,y)
 | _,_,_,_=>.fail
def Bp:aQ→Nat→(aQ→Tree aQ)→Tree aQ
 | .data t x,k,f=>(DG t x k f).bind fun y=>.ret (.data t y)
 | .mix a b,0,f=>(f a).bind fun v=>.ret (.mix v b)
 | .mix a b,k+1,f=>(Bp b k f).bind fun v=>.ret (.mix a v)
 | _,_,_=>.fail
def Qc:List Ci→aQ→Tree aQ
 | [],v=>.ret v
 | .qI k off::p,v=>match jV v k with
   | some (o,u)=>bif Nat.beq o off then Qc p u else .fail
   | none=>.fail
 | .idx i size::p,v=>match v with
   | .data (.arr _ e) l=>bif Nat.beq size e.size then .look (idx (α:=e.den) l i) fun x=>Qc p (.data e x) else .fail
   | _=>.fail
def OO(buf:Bool)(p:List Ci)(v:aQ):Tree aQ :=
 match buf with
 | false=>Qc p v
 | true=>match p,v with
   | .idx i size::p,.data (.slice e) l=>bif Nat.beq size e.size then .look (idx (α:=e.den) l i) fun x=>Qc p (.data e x) else .fail
   | _,_=>.fail
def uG:List Ci→aQ→aQ→Tree aQ
 | [],_,u=>.ret u
 | .qI k off::p,v,u=>Bp v k fun w=>uG p w u
 | .idx i size::p,v,u=>match v with
   | .data (.arr n e) l=>.look (idx (α:=e.den) l i) fun x=>(uG p (.data e x) u).bind fun w=>match Qb e w with
     | some y=>.ret (.data (.arr n e) (rF (α:=e.den) l i y))
     | none=>.fail
   | _=>.fail
def DH(buf:Bool)(p:List Ci)(v u:aQ):Tree aQ :=
 match buf with
 | false=>uG p v u
 | true=>match p,v with
   | .idx i size::p,.data (.slice e) l=>.look (idx (α:=e.den) l i) fun x=>(uG p (.data e x) u).bind fun w=>match Qb e w with
     | some y=>.ret (.data (.slice e) (rF (α:=e.den) l i y))
     | none=>.fail
   | _,_=>.fail
namespace Tree
theorem run_bind{α β:Type}(t:Tree α)(f:α→Tree β):(t.bind f).run=t.run.bind fun a=>(f a).run:=by
 induction t with
 | ret a=>rfl
 | fail=>rfl
 | node c t e D3 Zr=>cases c<;>simp[bind,run,D3,Zr,au]
 | look o k ih=>cases o<;>simp[bind,run,ih,ah]
theorem vY{T β:Type}(t:Tree T)(k:T→Tree β):(t.join k).run=t.run.bind fun a=>(k a).run:=by
 unfold join
 split
 ·rfl
 ·rename_i c x y;cases c<;>rfl
 ·rfl
end Tree
end Go.Ge
namespace Go.Ge
set_option linter.unusedVariables false
def rG:Ty→Nat→Option Ty
 | .pair a _,0=>some a
 | .pair _ b,k+1=>rG b k
 | _,_=>none
def Ty.flat:Ty→Bool
 | .slice _=>false
 | .arr _ e=>e.flat
 | .pair a b=>a.flat&&b.flat
 | .alt _ a r=>a.flat&&r.flat
 | _=>true
def bL.row(bx:bL):Option (Ty×Nat) :=
 match bx.buf,bx.val with
 | true,.data (.slice e) l=>some (e,List.length (α:=e.den) l)
 | false,.data (.arr n e) _=>some (e,n)
 | _,_=>none
def eX(e:Ty)(σ:St):aQ→Option (List e.den)
 | .data (.slice u) l=>L9 u e l
 | .lz=>some []
 | .whole b ax=>match σ.mem b with
   | some bx=>bif Nat.beq bx.ax ax&&bx.buf then(match bx.val with|.data (.slice u) l=>L9 u e l|_=>none) else none
   | none=>none
 | .part b ax lo n=>match σ.mem b with
   | some bx=>bif Nat.beq bx.ax ax then(match bx.buf,bx.val with
     | true,.data (.slice u) l=>L9 u e (sub (α:=u.den) l lo n)
     | false,.data (.arr _ u) l=>L9 u e (sub (α:=u.den) l lo n)
     | _,_=>none) else none
   | none=>none
 | _=>none
def live(σ:St)(b ax:Nat):Bool:=match σ.mem b with|some bx=>Nat.beq bx.ax ax|none=>false
def nW(σ:St):(t:Ty)→aQ→Option t.den
 | .slice e,v=>(eX e σ v:Option (List e.den))
 | .pair a b,v=>match v with
   | .data u x=>Ty.to u (.pair a b) x
   | .mix p q=>(match nW σ a p,nW σ b q with
     | some x,some y=>some (x,y)
     | _,_=>none)
   | _=>none
 | .alt n a r,v=>match v with
   | .data u x=>Ty.to u (.alt n a r) x
   | .pN=>match nW σ r .pN with
     | some x=>some (.inr x)
     | none=>none
   | _=>none
 | .vQ,v=>match v with
   | .data u x=>Ty.to u .vQ x
   | .pN=>some ()
   | _=>none
 | t,v=>match v with
   | .data u x=>Ty.to u t x
   | _=>none
def freeze(σ:St)(b:Nat):Option St :=
 match σ.mem b with
 | some bx=>bif bx.ro then some σ else bif bx.lk then none else some (σ.bX b { bx with ro:=true })
 | none=>none
def fu(σ:St):aQ→Option St
 | .whole b _=>freeze σ b
 | .part b _ _ _=>freeze σ b
 | .mix v w=>match fu σ v with
   | some σ=>fu σ w
   | none=>none
 | _=>some σ
def vZ(σ:St)(t:Ty)(v:aQ):Option (t.den×St) :=
 match v with
 | .data u x=>match Ty.to u t x with|some y=>some (y,σ)|none=>none
 | v=>match nW σ t v,fu σ v with
   | some x,some σ=>some (x,σ)
   | _,_=>none
def fX(σ:St):(A:Ty)→List aQ→Option A.den
 | .unit,[]=>some ()
 | .pair t r,v::vs=>match nW σ t v,fX σ r vs with
   | some x,some y=>some (x,y)
   | _,_=>none
 | _,_=>none
def iZ(σ:St):(A:Ty)→List aQ→Option (A.den×St)
 | .unit,[]=>some ((),σ)
 | .pair t r,v::vs=>match vZ σ t v with
   | some (x,σ)=>match iZ σ r vs with
     | some (y,σ)=>some ((x,y),σ)
     | none=>none
   | none=>none
 | _,_=>none
def v7:(R:Ty)→R.den→aQ
 | .pair t r,x=>.mix (.data t x.1) (v7 r x.2)
 | _,_=>.nl
def rH(R:Ty)(x:R.den):aQ :=
 match R,x with
 | .pair t .unit,x=>.data t x.1
 | R,x=>.yT (v7 R x)
def nth:aQ→Nat→Option aQ
 | .mix a _,0=>some a
 | .mix _ b,k+1=>nth b k
 | _,_=>none
def bitsOf(op:BinOp)(k:IntKind)(x y:Int):Option Int :=
 match op with
 | .and=>some (vX k x y)
 | .or=>some (JQ k x y)
 | .xor=>some (zN k x y)
 | .andNot=>some (T8 k x y)
 | _=>none
def Ty.eqv:(t:Ty)→t.den→t.den→Option Bool
 | .int _,x,y=>some (bp x y)
 | .bool,x,y=>some (Ux x y)
 | .str,x,y=>some (bZ x y)
 | .pair a b,x,y=>match Ty.eqv a x.1 y.1,Ty.eqv b x.2 y.2 with
   | some p,some q=>some (an p q)
   | _,_=>none
 | .unit,_,_=>some true
 | .arr _ e,x,y=>match e,x,y with
   | .int _,x,y=>some (YE x y)
   | _,_,_=>none
 | _,_,_=>none
def Ty.zO:Ty→Nat
 | .pair a b=>a.zO+b.zO+1
 | .arr _ e=>e.zO+1
 | _=>1
def Mb(op:BinOp)(k:IntKind)(a b:Int):Tree aQ :=
 match op with
 | .add=>.ret (.data (.int k) (bn k a b))
 | .sub=>.ret (.data (.int k) (cM k a b))
 | .mul=>.ret (.data (.int k) (Da k a b))
 | .quo=>.node (bp b 0) .fail (.ret (.data (.int k) (VZ k a b)))
 | .rem=>.node (bp b 0) .fail (.ret (.data (.int k) (Ma a b)))
 | .eql=>.ret (.data .bool (bp a b))
 | .neq=>.ret (.data .bool (nt (bp a b)))
 | .lss=>.ret (.data .bool (cm a b))
 | .leq=>.ret (.data .bool (gj a b))
 | .gtr=>.ret (.data .bool (cm b a))
 | .geq=>.ret (.data .bool (gj b a))
 | op=>match bitsOf op k a b with
   | some c=>.ret (.data (.int k) c)
   | none=>.fail
def Mc(op:BinOp)(x y:List UInt8):Tree aQ :=
 match op with
 | .add=>.need (fits (plus (len x) (len y))) (.ret (.data .str (app x y)))
 | .eql=>.ret (.data .bool (bZ x y))
 | .neq=>.ret (.data .bool (nt (bZ x y)))
 | .lss=>.ret (.data .bool (vu x y))
 | .leq=>.ret (.data .bool (Uw (vu x y) (bZ x y)))
 | .gtr=>.ret (.data .bool (nt (Uw (vu x y) (bZ x y))))
 | .geq=>.ret (.data .bool (nt (vu x y)))
 | _=>.fail
def isEq:BinOp→Option Bool
 | .eql=>some true
 | .neq=>some false
 | _=>none
def zP:BinOp→Option Bool
 | .shl=>some true
 | .shr=>some false
 | _=>none
def Bq(o:Option Ty)(t:Ty):Bool:=match o with|some u=>Ty.beq u t|none=>false
def bin(tt:Option Ty)(pt:Bool)(op:BinOp)(x y:aQ):Tree aQ :=
 match x,y with
 | .data (.int k) a,.data (.int k') b =>
   match zP op with
   | some left=>.node (cm b 0) .fail (.ret (.data (.int k) (bif left then Bo k a b else rE k a b)))
   | none=>bif Nat.beq (vt k) (vt k') then Mb op k a b else .fail
 | .data .str a,.data .str b=>Mc op a b
 | .data .bool a,.data .bool b=>bif Bq tt .bool then(match isEq op with
   | some true=>.ret (.data .bool (Ux a b))
   | some false=>.ret (.data .bool (nt (Ux a b)))
   | none=>.fail) else .fail
 | .data (.pair a b) x,.data t y=>bif Bq tt (.pair a b)&&Nat.ble (Ty.pair a b).zO 9000 then(match Ty.to t (.pair a b) y,isEq op with
   | some y,some e=>match Ty.eqv (.pair a b) x y with
     | some c=>.ret (.data .bool (bif e then c else nt c))
     | none=>.fail
   | _,_=>.fail) else .fail
 | .data (.arr n e) x,.data t y=>bif Bq tt (.arr n e)&&Nat.ble (Ty.arr n e).zO 9000 then(match Ty.to t (.arr n e) y,isEq op with
   | some y,some q=>match Ty.eqv (.arr n e) x y with
     | some c=>.ret (.data .bool (bif q then c else nt c))
     | none=>.fail
   | _,_=>.fail) else .fail
 | .oA,.oA=>match pt,isEq op with|true,some e=>.ret (.data .bool e)|_,_=>.fail
 | _,_=>.fail
def Qs(σ:St)(tt:Option Ty)(pt:Bool)(op:BinOp)(x y:aQ):Tree aQ :=
 match x,y with
 | .ptr b ax _,.oA=>bif live σ b ax&&pt then(match isEq op with|some e=>.ret (.data .bool (!e))|none=>.fail) else .fail
 | .oA,.ptr b ax _=>bif live σ b ax&&pt then(match isEq op with|some e=>.ret (.data .bool (!e))|none=>.fail) else .fail
 | x,y=>bin tt pt op x y
def Ip(least:Bool)(x y:aQ):Tree aQ :=
 match x,y with
 | .data (.int k) a,.data (.int k') b=>bif Nat.beq (vt k) (vt k') then .ret (.data (.int k) (bif least then Uy a b else imax a b)) else .fail
 | _,_=>.fail
def un(op:UnOp)(x:aQ):Tree aQ :=
 match op,x with
 | .not,.data .bool b=>.ret (.data .bool (nt b))
 | .neg,.data (.int k) n=>.ret (.data (.int k) (cM k 0 n))
 | .xor,.data (.int k) n=>.ret (.data (.int k) (zN k (bif k.signed then -1 else k.max) n))
 | _,_=>.fail
def D4:(t:Ty)→t.den→Nat→(u:Ty)→u.den→Option t.den
 | .pair a b,x,0,u,y=>match Ty.to u a y with|some y=>some (y,x.2)|none=>none
 | .pair a b,x,k+1,u,y=>match D4 b x.2 k u y with|some z=>some (x.1,z)|none=>none
 | _,_,_,_,_=>none
def eY(σ:St)(t:Ty)(x:t.den):List (Nat×Operand)→Option (t.den×St)
 | []=>some (x,σ)
 | (k,o)::r=>match rG t k with
   | some u=>match vZ σ u (cq σ o) with
     | some (y,σ)=>match D4 t x k u y with
       | some x=>eY σ t x r
       | none=>none
     | none=>none
   | none=>none
def eT(σ:St)(e:Ty)(l:List e.den):List (Nat×Operand)→Option (List e.den×St)
 | []=>some (l,σ)
 | (k,o)::r=>match vZ σ e (cq σ o) with
   | some (y,σ)=>bif Nat.blt k l.length then eT σ e (l.set k y) r else none
   | none=>none
def lenOf(σ:St):aQ→Option Int
 | .data .str s=>some (len (α:=UInt8) s)
 | .data (.slice e) l=>some (len (α:=e.den) l)
 | .data (.arr n _) _=>bif Nat.ble n 4294967296 then some n else none
 | .lz=>some 0
 | .whole b ax=>match σ.mem b with
   | some bx=>bif Nat.beq bx.ax ax&&bx.buf then(match bx.val with|.data (.slice u) l=>some (len (α:=u.den) l)|_=>none) else none
   | none=>none
 | .part b ax _ n=>bif live σ b ax then some n else none
 | _=>none
def N1(o:Option Ty):aQ→Bool
 | .data .str _=>Bq o .str
 | .data (.slice e) _=>Bq o (.slice e)
 | .data (.arr n e) _=>Bq o (.arr n e)
 | .lz|.whole ..|.part ..=>match o with|some (.slice _)=>true|_=>false
 | _=>false
def bounds(σ:St)(n:Int)(lo hi:Option Operand):Option (Int×Int) :=
 match lo,hi with
 | none,none=>some (0,n)
 | some a,none=>match cq σ a with|.data (.int _) x=>some (x,n)|_=>none
 | none,some b=>match cq σ b with|.data (.int _) y=>some (0,y)|_=>none
 | some a,some b=>match cq σ a,cq σ b with|.data (.int _) x,.data (.int _) y=>some (x,y)|_,_=>none
def isRef:aQ→Bool
 | .ptr ..|.whole ..|.part ..|.fn ..|.oA|.pN|.sF ..|.mix ..|.cell ..|.lz=>true
 | _=>false
section
variable (cx:Ctx) (nb:Nat) (bf:List Nat) (inl:Nat→List aQ→St→Tree (aQ×St))
def gS(d:Option Nat)(ty:TypeId)(v:aQ)(σ:St):Tree St :=
 match v with
 | .undef=>bif cT cx.mU ty then .ret (σ.aR d .undef) else .fail
 | .lz=>match d,find cx.T ty with
   | some d,some (.slice e)=>bif cT bf d then σ.aL (nb+d) (.data (.slice e) []) 0 true fun ax σ=>.ret (σ.put d (.whole (nb+d) ax))
     else .ret (σ.put d (.data (.slice e) []))
   | _,_=>.ret (σ.aR d .lz)
 | v=>.ret (σ.aR d v)
def lA(d:Option Nat)(c a b:aQ)(σ:St):Tree St :=
 match c with
 | .data .bool c=>match a,b with
   | .data t x,.data u y=>match Ty.to u t y with
     | some y=>.ret (σ.aR d (.data t (au c x y)))
     | none=>.fail
   | a,b=>.node c (.ret (σ.aR d a)) (.ret (σ.aR d b))
 | _=>.fail
def Br(ty:TypeId):aQ→Bool
 | .data u _=>Bq (find cx.T ty) u
 | .whole ..=>match find cx.T ty with|some (.slice _)=>true|_=>false
 | .ptr ..|.oA|.fn ..=>cT cx.mU ty
 | _=>false
def jk(d:Option Nat)(ty:TypeId)(a:aQ)(σ:St):Tree St :=
 match a with
 | .cell u x=>bif Bq (find cx.T ty) u then .ret (σ.aR d (.data u x)) else .fail
 | .ptr b ax p=>match σ.mem b with
   | some bx=>bif Nat.beq bx.ax ax then(OO bx.buf p bx.val).bind fun v=>bif Br cx ty v then .ret (σ.aR d v) else .fail else .fail
   | none=>.fail
 | _=>.fail
def storeAt(b ax:Nat)(p:List Ci)(fit:aQ→Bool)(v:aQ)(σ:St):Tree St :=
 match σ.mem b with
 | some bx=>bif Nat.beq bx.ax ax&&!bx.lk&&!bx.ro then
    (OO bx.buf p bx.val).bind fun old=>bif fit old then(DH bx.buf p bx.val v).bind fun c=>.ret (σ.bX b { bx with val:=c }) else .fail
   else .fail
 | none=>.fail
def Uz(u:Ty):aQ→Bool
 | .data t _=>Ty.beq t u
 | _=>false
def N2:aQ→Bool
 | .undef=>true
 | _=>false
def jz(ty:TypeId)(a v:aQ)(σ:St):Tree St :=
 match a with
 | .ptr b ax p=>match σ.mem b with
   | some bx=>bif Nat.beq bx.ax ax then(OO bx.buf p bx.val).bind fun old=>match old with
      | .data u _=>bif Bq (find cx.T ty) u then(match vZ σ u v with
       | some (y,σ)=>storeAt b ax p (Uz u) (.data u y) σ
       | none=>.fail) else .fail
      | _=>bif Br cx ty v&&isRef v then storeAt b ax p (fun old=>(Br cx ty old&&isRef old)||N2 old) v σ else .fail
     else .fail
   | none=>.fail
 | _=>.fail
def jA(d:Option Nat)(ty:TypeId)(x:aQ)(lo hi:Option Operand)(σ:St):Tree St :=
 match find cx.T ty,x with
 | some .str,.data .str s=>match bounds σ (len (α:=UInt8) s) lo hi with
   | some (a,b)=>.need (inside a b (len (α:=UInt8) s)) (.ret (σ.aR d (.data .str (sub (α:=UInt8) s a (minus b a)))))
   | none=>.fail
 | some (.slice u),.data (.slice e) l=>bif Ty.beq u e then(match bounds σ (len (α:=e.den) l) lo hi with
   | some (a,b)=>.need (inside a b (len (α:=e.den) l)) (.ret (σ.aR d (.data (.slice e) (sub (α:=e.den) l a (minus b a)))))
   | none=>.fail) else .fail
 | some (.slice u),.part c ax l n=>match σ.mem c with
   | some bx=>bif Nat.beq bx.ax ax&&(match bx.row with|some (e,_)=>Ty.beq u e|none=>false) then(match bounds σ n lo hi with
     | some (a,b)=>.need (inside a b n) (.ret (σ.aR d (.part c ax (plus l a) (minus b a))))
     | none=>.fail) else .fail
   | none=>.fail
 | some (.slice u),.whole c ax=>match σ.mem c with
   | some bx=>bif Nat.beq bx.ax ax&&bx.buf then(match bx.val with
     | .data (.slice e) l=>bif Ty.beq u e then(match lo,hi with
       | none,none=>.ret (σ.aR d (.whole c ax))
       | lo,hi=>match bounds σ (len (α:=e.den) l) lo hi with
         | some (a,b)=>.need (inside a b (len (α:=e.den) l)) (.ret (σ.aR d (.part c ax a (minus b a))))
         | none=>.fail) else .fail
     | _=>.fail) else .fail
   | none=>.fail
 | some (.arr m u),.ptr c ax (s::q)=>bif live σ c ax&&Nat.ble m 4294967296 then(match bounds σ m lo hi with
   | some (a,b)=>.need (inside a b m) (.ret (σ.aR d (.win c ax (s::q) u m a (minus b a))))
   | none=>.fail) else .fail
 | some (.arr m u),.ptr c ax []=>match σ.mem c with
   | some bx=>bif Nat.beq bx.ax ax&&!bx.buf then(match bx.val with
     | .data (.arr n e) _=>bif Nat.beq m n&&Ty.beq u e&&Nat.ble n 4294967296 then(match bounds σ n lo hi with
       | some (a,b)=>.need (inside a b n) (.ret (σ.aR d (.part c ax a (minus b a))))
       | none=>.fail) else .fail
     | _=>.fail) else .fail
   | none=>.fail
 | _,_=>.fail
def uH(σ:St)(b ax:Nat):Option (Ty×Int):=match σ.mem b with
 | some bx=>bif Nat.beq bx.ax ax then(match bx.buf,bx.val with
   | true,.data (.slice e) l=>some (e,len (α:=e.den) l)
   | false,.data (.arr n e) _=>some (e,n)
   | _,_=>none) else none
 | none=>none
def JU(ty:TypeId):Option Nat :=
 match find cx.T ty with
 | some _=>none
 | none=>match find cx.els ty with
   | some e=>bif cT cx.mU e then some e else none
   | none=>none
def D5(d:Option Nat)(b ax:Nat)(σ:St)(i:Int):Nat→Nat→Tree St
 | 0,_=>.fail
 | m+1,k=>.node (bp i k) (.ret (σ.aR d (.ptr b ax [.qI k k]))) (D5 d b ax σ i m (k+1))
def Iq:List Ci→Bool
 | [.qI _ off]=>Nat.beq off 0
 | _=>false
def dU(d:Option Nat)(ty:TypeId)(x:aQ)(i:Int)(σ:St):Tree St :=
 match find cx.T ty,x with
 | some (.slice u),.data (.slice e) l=>bif Ty.beq u e then .look (idx (l:List e.den) i) fun y=>.ret (σ.aR d (.cell e y)) else .fail
 | some (.arr m u),.cell (.arr n e) l=>bif Ty.beq u e&&Nat.beq m n then .look (idx (l:List e.den) i) fun y=>.ret (σ.aR d (.cell e y)) else .fail
 | some (.slice u),.whole b ax=>match uH σ b ax with
   | some (e,n)=>bif Ty.beq u e then .need (within i n) (.ret (σ.aR d (.ptr b ax [.idx i e.size]))) else .fail
   | none=>.fail
 | some (.slice u),.part b ax lo n=>match uH σ b ax with
   | some (e,_)=>bif Ty.beq u e then .need (within i n) (.ret (σ.aR d (.ptr b ax [.idx (plus lo i) e.size]))) else .fail
   | none=>.fail
 | some (.arr m u),.ptr b ax p=>bif live σ b ax then .need (within i m) (.ret (σ.aR d (.ptr b ax (p++[.idx i u.size])))) else .fail
 | none,.win b ax q _ _ lo n=>match JU cx ty with
   | some _=>bif Iq q&&decide (lo=0)&&live σ b ax then D5 d b ax σ i n.toNat 0 else .fail
   | none=>.fail
 | _,_=>.fail
def jB(d:Option Nat)(ty:TypeId)(x:aQ)(i:Int)(σ:St):Tree St :=
 match find cx.T ty,x with
 | some .str,.data .str s=>.look (idx (s:List UInt8) i) fun b=>.ret (σ.aR d (.data (.int .u8) (u8 b)))
 | some (.arr m u),.data (.arr n e) l=>bif Ty.beq u e&&Nat.beq m n then .look (idx (l:List e.den) i) fun y=>.ret (σ.aR d (.data e y)) else .fail
 | _,_=>.fail
def kK.size:kK→Nat
 | .dat t=>t.size
 | _=>1
def uI:List kK→Nat→Option Nat
 | [],_=>none
 | _::_,0=>some 0
 | f::r,k+1=>match uI r k with|some o=>some (f.size+o)|none=>none
def dV(d:Option Nat)(s:TypeId)(x:aQ)(k:Nat)(σ:St):Tree St :=
 match x with
 | .cell u y=>bif Bq (find cx.T s) u then(match jV (.data u y) k with
   | some (_,.data t z)=>.ret (σ.aR d (.cell t z))
   | _=>.fail) else .fail
 | .ptr b ax p=>bif live σ b ax then(match find cx.T s with
   | some t=>match gR t k,rG t k with
     | some off,some _=>.ret (σ.aR d (.ptr b ax (p++[.qI k off])))
     | _,_=>.fail
   | none=>match find cx.nV s with
     | some fs=>match uI fs k with
       | some off=>.ret (σ.aR d (.ptr b ax (p++[.qI k off])))
       | none=>.fail
     | none=>.fail) else .fail
 | _=>.fail
def fI(d:Option Nat)(src dst:TypeId)(x:aQ)(σ:St):Tree St :=
 match find cx.T src,find cx.T dst,x with
 | some (.int _),some (.int k),.data (.int _) n=>.ret (σ.aR d (.data (.int k) (vv k n)))
 | some .str,some .str,.data .str s=>.ret (σ.aR d (.data .str s))
 | some .str,some (.slice (.int .u8)),.data .str s=>match d with
   | some d=>.need (fits (len (α:=UInt8) s)) (σ.aL (nb+d) (.data (.slice (.int .u8)) (ai s)) 0 true fun ax σ=>.ret (σ.put d (.whole (nb+d) ax)))
   | none=>.fail
 | some (.slice (.int .u8)),some .str,x=>match eX (.int .u8) σ x with
   | some l=>.ret (σ.aR d (.data .str (bV l)))
   | none=>.fail
 | _,_,_=>.fail
def rI(e:Ty)(σ:St)(x:aQ):Option (List e.den):=match x with
 | .data .str t=>L9 (.int .u8) e (ai t)
 | x=>eX e σ x
def UA(ty t:Nat):Bool:=Nat.beq t 0||(match find cx.els ty with|some e=>Nat.beq e t|none=>false)
def fP(d:Option Nat)(ty:TypeId)(s x:aQ)(σ:St):Tree St :=
 match d,find cx.T ty with
 | some d,some (.slice e) =>
   match rI e σ x with
   | some m=>match s with
     | .lz=>.need (fits (len (α:=e.den) m)) (σ.aL (nb+d) (.data (.slice e) m) 0 true fun ax σ=>.ret (σ.put d (.whole (nb+d) ax)))
     | .whole b ax=>match σ.mem b,eX e σ (.whole b ax) with
       | some bx,some l=>bif bx.lk||!UA cx ty bx.tid then .fail else
         .need (fits (plus (len (α:=e.den) l) (len (α:=e.den) m))) (.ret ((σ.bX b { bx with val:=.data (.slice e) (app (α:=e.den) l m),ax:=ax+1 }).put d (.whole b (ax+1))))
       | _,_=>.fail
     | _=>.fail
   | none=>.fail
 | _,_=>.fail
def iw(e:Ty)(m:List e.den)(b ax:Nat)(q:List Ci)(Qr:Nat→Ty→Bool)(lo:Int)(σ:St):Tree St :=
 match σ.mem b with
 | some bx=>bif Nat.beq bx.ax ax&&!bx.lk&&!bx.ro then
    (match bx.buf with
    | true=>match q,bx.val with
      | [],.data (.slice u) l=>match L9 e u m with
        | some m=>.ret (σ.bX b { bx with val:=.data (.slice u) (over (α:=u.den) l lo m) })
        | none=>.fail
      | _,_=>.fail
    | false=>(Qc q bx.val).bind fun old=>match old with
      | .data (.arr k u) l=>bif Qr k u then(match L9 e u m with
        | some m=>(uG q bx.val (.data (.arr k u) (over (α:=u.den) l lo m))).bind fun c=>.ret (σ.bX b { bx with val:=c })
        | none=>.fail) else .fail
      | _=>.fail)
   else .fail
 | none=>.fail
def Bs(e:Ty)(m:Int→List e.den)(t:aQ)(σ:St):Tree (Int×St) :=
 match t with
 | .part b ax lo n=>(iw e (m n) b ax [] (fun _ _=>true) lo σ).bind fun σ=>.ret (n,σ)
 | .whole b ax=>match lenOf σ t with|some n=>(iw e (m n) b ax [] (fun _ _=>true) 0 σ).bind fun σ=>.ret (n,σ)|none=>.fail
 | .win b ax q u k lo n=>(iw e (m n) b ax q (fun k' u'=>Nat.beq k k'&&Ty.beq u u') lo σ).bind fun σ=>.ret (n,σ)
 | _=>.fail
def tQ(d:Option Nat)(ty:TypeId)(t x:aQ)(σ:St):Tree St :=
 match find cx.T ty with
 | some (.slice e)=>match rI e σ x with
   | none=>.fail
   | some m=>(Bs e (fun n=>bP (α:=e.den) m n) t σ).bind fun r=>.ret (r.2.aR d (.data (.int .i64) (len (bP (α:=e.den) m r.1))))
 | _=>.fail
def tT(ty:TypeId)(t:aQ)(σ:St):Tree St :=
 match find cx.T ty with
 | some (.slice e)=>(Bs e (fun n=>qc n e.zero) t σ).bind fun r=>.ret r.2
 | _=>.fail
def mV:(U:Ty)→U.den→List Nat→Nat→Option aQ
 | .pair t U,u,ns,c=>match ns with
   | b::ns=>bif Nat.beq c b then some (.data t u.1) else mV U u.2 ns c
   | []=>none
 | _,_,_,_=>none
def qJ(U:Ty)(u:U.den)(ns:List Nat)(σ:St):St :=
 { σ with mem:=fun c=>match mV U u ns c with
  | some v=>(match σ.mem c with|some bx=>some { bx with val:=v }|none=>none)
  | none=>σ.mem c }
def oU(σ:St):List Bool→(A U:Ty)→List aQ→Option (A.den×U.den×List Nat)
 | [],A,U,vs=>match A,U,vs with
   | .unit,.unit,[]=>some ((),(),[])
   | _,_,_=>none
 | false::ps,A,U,vs=>match A,vs with
   | .pair t A,v::vs=>match ON t v,oU σ ps A U vs with
     | some x,some (y,u,ns)=>some ((x,y),u,ns)
     | _,_=>none
   | _,_=>none
 | true::ps,A,U,vs=>match U,vs with
   | .pair t U,.ptr b ax []::vs=>match σ.mem b with
     | some bx=>bif Nat.beq bx.ax ax&&!bx.buf&&!bx.lk&&!bx.ro&&Nat.beq bx.tid 0 then(match Qb t bx.val,oU σ ps A U vs with
       | some x,some (y,u,ns)=>bif cT ns b then none else some (y,(x,u),b::ns)
       | _,_=>none) else none
     | none=>none
   | _,_=>none
def DI:aQ→Bool
 | .whole ..=>true
 | _=>false
def xH(s:OM)(d:Option Nat)(args:List aQ)(σ:St):Tree St :=
 match s,args with
 | .Qr T,[.ptr b ax []]=>match σ.mem b with
   | some bx=>match bx.val with
     | .mix (.sF b' v') (.mix u (.data .unit _))=>bif Nat.beq bx.ax ax&&!bx.buf&&!bx.lk&&!bx.ro&&Nat.beq bx.tid T&&Nat.blt 0 T&&Nat.beq b' b&&Nat.beq v' ax&&DI u then .ret (σ.aR d (.yT .nl)) else .fail
     | _=>.fail
   | none=>.fail
 | .str T E,[.ptr b ax []]=>match σ.mem b with
   | some bx=>match bx.val with
     | .mix (.sF _ _) (.mix (.whole h hv) (.data .unit _))=>bif Nat.beq bx.ax ax&&!bx.buf&&Nat.beq bx.tid T&&Nat.blt 0 T&&!Nat.beq h b then(match σ.mem h with
       | some hx=>bif Nat.beq hx.ax hv&&hx.buf&&!hx.lk&&Nat.beq hx.tid E&&Nat.blt 0 E then(match hx.val with
         | .data (.slice (.int .u8)) l=>.ret ((σ.bX h { hx with val:=.data (.slice (.int .u8)) [],ax:=hx.ax+1 }).aR d (.data .str (bV l)))
         | _=>.fail) else .fail
       | none=>.fail) else .fail
     | _=>.fail
   | none=>.fail
 | _,_=>.fail
def JV(d:Option Nat):Option Nat:=match d with|some d=>bif cT bf d then some d else none|none=>none
def jC(e:Ty)(d:Option Nat)(args:List aQ)(σ:St):Tree St :=
 match d,args with
 | some d,[x]=>match vZ σ (.slice e) x with
   | some (l,σ)=>bif Nat.blt 0 e.size then .need (fits (len (α:=e.den) l)) (σ.aL (nb+d) (.data (.slice e) l) 0 true fun ax σ=>.ret (σ.put d (.whole (nb+d) ax))) else .fail
   | none=>.fail
 | _,_=>.fail
def uJ(e:Ty)(σ:St):aQ→Option (Nat×Nat×bL×List e.den)
 | .whole b ax=>match σ.mem b with
   | some bx=>bif Nat.beq bx.ax ax&&bx.buf&&!bx.lk&&!bx.ro&&Nat.beq bx.tid 0 then(match bx.val with
     | .data (.slice u) l=>(match L9 u e l with|some l=>some (b,ax,bx,l)|none=>none)
     | _=>none) else none
   | none=>none
 | .part b ax lo n=>match σ.mem b with
   | some bx=>bif Nat.beq bx.ax ax&&bx.buf&&!bx.lk&&!bx.ro&&Nat.beq bx.tid 0&&decide (lo=0) then(match bx.val with
     | .data (.slice u) l=>(match L9 u e l with|some l=>some (b,ax,bx,sub (α:=e.den) l lo n)|none=>none)
     | _=>none) else none
   | none=>none
 | _=>none
def oV(e A:Ty)(res:Bool)(spec:List e.den→A.den→Option (List e.den))(d:Option Nat)(args:List aQ)(σ:St):Tree St :=
 match args with
 | v::vs=>match iZ σ A vs with
   | some (x,σ)=>match uJ e σ v with
     | some (b,ax,bx,l)=>.look (spec l x) fun l'=>match res,d with
       | true,some d=>.ret ((σ.bX b { bx with val:=.data (.slice e) l',ax:=ax+1 }).put d (.whole b (ax+1)))
       | false,d=>bif DI v then .ret ((σ.bX b { bx with val:=.data (.slice e) l' }).aR d (.yT .nl)) else .fail
       | _,_=>.fail
     | none=>.fail
   | none=>.fail
 | []=>.fail
def s8(d:Option Nat)(f:Nat):Option OM :=
 match find cx.JR f with
 | some (.clone e)=>match JV bf d with|some _=>some (.clone e)|none=>none
 | some (.own e A r s)=>some (.own e A r s)
 | _=>none
def s9(d:Option Nat)(f:Nat)(args:List aQ)(σ:St):Tree St :=
 match find cx.cF f with
 | some c=>match c.R.flat with
   | true=>match fX σ c.A args with
     | some x=>.look (c.spec x) fun y=>.ret (σ.aR d (rH c.R y))
     | none=>.fail
   | false=>match iZ σ c.A args with
     | some (x,σ)=>.look (c.spec x) fun y=>.ret (σ.aR d (rH c.R y))
     | none=>.fail
 | none=>match find cx.JR f with
  | some s=>xH s d args σ
  | none=>match find cx.bg f with
   | some c=>(match oU σ c.ps c.A c.U args with
     | some (x,u,ns)=>.look (c.spec (x,u)) fun y=>.ret ((qJ c.U y.2 ns σ).aR d (rH c.R y.1))
     | none=>(inl f args σ).bind fun r=>.ret (r.2.aR d r.1))
   | none=>(inl f args σ).bind fun r=>.ret (r.2.aR d r.1)
def qK(d:Option Nat)(f:Nat)(args:List aQ)(σ:St):Tree St :=
 match s8 cx bf d f with
 | some (.clone e)=>jC nb e d args σ
 | some (.own e A r s)=>oV e A r s d args σ
 | _=>s9 cx inl d f args σ
def JW:(t:Ty)→(u:Nat)→Option ((a:Ty)×(a.den→t.den))
 | .alt n a r,u=>bif Nat.beq n u then some ⟨a,.inl⟩ else match JW r u with
   | some ⟨b,f⟩=>some ⟨b,fun x=>.inr (f x)⟩
   | none=>none
 | _,_=>none
def oB(d:Option Nat)(ty u:TypeId)(x:aQ)(σ:St):Tree St :=
 match find cx.T ty with
 | some t=>match JW t u with
   | some ⟨a,f⟩=>match vZ σ a x with
     | some (y,σ)=>.ret (σ.aR d (.data t (f y)))
     | none=>.fail
   | none=>.fail
 | none=>.fail
def oC(d:Option Nat)(name:String)(args:List aQ)(σ:St):Tree St :=
 match JT cx.inv name with
 | some c=>match iZ σ c.A args with
   | some (x,σ)=>.look (c.spec x) fun y=>.ret (σ.aR d (rH c.R y))
   | none=>.fail
 | none=>.fail
def rJ(d:Option Nat)(ty:TypeId)(c:Call)(σ:St):Tree St :=
 match c.callee with
 | .builtin b=>match b,c.args.toList.map (cq σ),c.argTypes.toList with
   | .len,[x],[t]=>bif N1 (find cx.T t) x then(match lenOf σ x with
     | some n=>.ret (σ.aR d (.data (.int .i64) n))
     | none=>.fail) else(match JU cx t,x with
     | some _,.win b ax _ _ _ _ n=>bif live σ b ax&&decide (n≤64) then .ret (σ.aR d (.data (.int .i64) n)) else .fail
     | _,_=>.fail)
   | .append,[s,x],[t,u]=>match find cx.T u with
     | some .str|some (.slice _)=>fP cx nb d t s x σ
     | _=>.fail
   | .copy,[t,x],[tt,tx]=>match find cx.T tx with
     | some .str|some (.slice _)=>tQ cx d tt t x σ
     | _=>.fail
   | .clear,[t],[tt]=>match d with|none=>tT cx tt t σ|some _=>.fail
   | .min,[x,y],_=>Ip true x y |>.bind fun v=>.ret (σ.aR d v)
   | .max,[x,y],_=>Ip false x y |>.bind fun v=>.ret (σ.aR d v)
   | _,_,_=>.fail
 | .value f=>match cq σ f with
   | .fn f caps=>bif caps.all (fun b=>live σ b.1 b.2) then qK cx nb bf inl d f (c.args.toList.map (cq σ)++caps.map fun b=>.ptr b.1 b.2 []) σ else .fail
   | _=>.fail
 | .invoke r name=>oC cx d name (cq σ r::c.args.toList.map (cq σ)) σ
def Bt:List aQ→Option (List (Nat×Nat))
 | []=>some []
 | .ptr b ax []::r=>(Bt r).map ((b,ax)::·)
 | _=>none
def DJ(σ:St)(b:Nat):Nat:=match σ.mem b with|some bx=>bx.ax+1|none=>0
def mkObj(b ax:Nat):List kK→Nat→St→Tree (aQ×St)
 | [],_,σ=>.ret (.data .unit (),σ)
 | .dat t::r,j,σ=>(mkObj b ax r (j+1) σ).bind fun x=>.ret (.mix (.data t t.zero) x.1,x.2)
 | .one::r,j,σ=>(mkObj b ax r (j+1) σ).bind fun x=>.ret (.mix .oA x.1,x.2)
 | .self::r,j,σ=>(mkObj b ax r (j+1) σ).bind fun x=>.ret (.mix (.sF b ax) x.1,x.2)
 | .buf e eB::r,j,σ=>bif Nat.blt 0 e.size then σ.aL (b*1000+999-j) (.data (.slice e) []) eB true fun v σ=>(mkObj b ax r (j+1) σ).bind fun x=>.ret (.mix (.whole (b*1000+999-j) v) x.1,x.2) else .fail
def oW:List kK→Option aQ
 | []=>some (.data .unit ())
 | .dat t::r=>match oW r with|some v=>some (.mix (.data t t.zero) v)|none=>none
 | .buf _ _::r=>match oW r with|some v=>some (.mix .lz v)|none=>none
 | .one::r=>match oW r with|some v=>some (.mix .oA v)|none=>none
 | .self::_=>none
def jW(σ:St)(fs:List kK):aQ→List (Nat×Operand)→Option aQ
 | v,[]=>some v
 | v,(k,x)::r=>match jV v k,uI fs k,fs[k]? with
   | some (o,.data t _),some o',some f=>bif Nat.beq o o'&&Nat.beq t.size f.size then(match Qb t (cq σ x) with
     | some y=>match(Bp v k fun _=>.ret (.data t y)).run with
       | some v=>jW σ fs v r
       | none=>none
     | none=>none) else none
   | _,_,_=>none
def kL(b:Nat):List kK→Nat→aQ→St→Tree (aQ×St)
 | [],_,.data .unit x,σ=>.ret (.data .unit x,σ)
 | .dat _::r,j,.mix (.data u y) v,σ=>(kL b r (j+1) v σ).bind fun x=>.ret (.mix (.data u y) x.1,x.2)
 | .one::r,j,.mix .oA v,σ=>(kL b r (j+1) v σ).bind fun x=>.ret (.mix .oA x.1,x.2)
 | .buf e eB::r,j,.mix .lz v,σ=>bif Nat.blt 0 e.size then σ.aL (b*1000+999-j) (.data (.slice e) []) eB true fun ax σ=>(kL b r (j+1) v σ).bind fun x=>.ret (.mix (.whole (b*1000+999-j) ax) x.1,x.2) else .fail
 | _,_,_,_=>.fail
def v8(σ:St):Nat→List (Nat×Operand)→Option aQ
 | _,[]=>some (.data .unit ())
 | k,(j,x)::r=>bif Nat.beq j k then(match cq σ x,v8 σ (k+1) r with
   | .oA,some v=>some (.mix .oA v)
   | .ptr b ax p,some v=>some (.mix (.ptr b ax p) v)
   | _,_=>none) else none
def xI(d:Option Nat)(t:TypeId)(len:Nat)(parts:List (Nat×Operand))(σ:St):Tree St :=
 match d,JU cx t,v8 σ 0 parts with
 | some d,some _,some v=>bif Nat.beq len parts.length&&Nat.blt 0 len&&Nat.ble len 64 then
  σ.aL (nb+d) v 0 false fun ax σ=>.ret (σ.put d (.win (nb+d) ax [.qI 0 0] .bool len 0 len)) else .fail
 | _,_,_=>.fail
def zQ(d:Option Nat)(elem:TypeId)(x:aQ)(σ:St):Tree St :=
 match d,x with
 | some _,.undef=>.fail
 | some _,.yT _=>.fail
 | some d,v=>match find cx.nV elem with
   | some fs=>(kL (nb+d) fs 0 v σ).bind fun r=>r.2.aL (nb+d) r.1 elem false fun ax σ=>.ret (σ.put d (.ptr (nb+d) ax []))
   | none=>σ.aL (nb+d) v 0 false fun ax σ=>.ret (σ.put d (.ptr (nb+d) ax []))
 | none,_=>.fail
def rq(d:Nat)(t:Ty)(σ:St):Tree St :=
 match JV bf (some d),t with
 | some _,.slice e=>bif Nat.blt 0 e.size then σ.aL ((nb+d)*1000+999) (.data (.slice e) []) 0 true fun v σ =>
  σ.aL (nb+d) (.whole ((nb+d)*1000+999) v) 0 false fun ax σ=>.ret (σ.put d (.ptr (nb+d) ax [])) else .fail
 | _,t=>σ.aL (nb+d) (.data t t.zero) 0 false fun ax σ=>.ret (σ.put d (.ptr (nb+d) ax []))
def mW(o:Oper)(σ:St):Tree St :=
 match o.op with
 | .move x|.assign x=>gS cx nb bf o.dst o.type (cq σ x) σ
 | .pick c a b=>lA o.dst (cq σ c) (cq σ a) (cq σ b) σ
 | .alloc elem=>match o.dst,find cx.T elem with
   | some d,some t=>rq nb bf d t σ
   | some d,none=>match find cx.nV elem with
     | some fs=>(mkObj (nb+d) (DJ σ (nb+d)) fs 0 σ).bind fun r=>r.2.aL (nb+d) r.1 elem false fun ax σ=>.ret (σ.put d (.ptr (nb+d) ax []))
     | none=>bif cT cx.mU elem then σ.aL (nb+d) .undef 0 false fun ax σ=>.ret (σ.put d (.ptr (nb+d) ax [])) else .fail
   | _,_=>.fail
 | .box elem x=>zQ cx nb o.dst elem (cq σ x) σ
 | .build t parts=>match find cx.T t with
   | some (.pair a b)=>match eY σ (.pair a b) (Ty.pair a b).zero parts.toList with
     | some (x,σ)=>.ret (σ.aR o.dst (.data (.pair a b) x))
     | none=>.fail
   | some (.arr n e)=>match eT σ e (List.replicate n e.zero) parts.toList with
     | some (l,σ)=>.ret (σ.aR o.dst (.data (.arr n e) l))
     | none=>.fail
   | none=>match find cx.nV t with
     | some fs=>match oW fs with
       | some z=>match jW σ fs z parts.toList with
         | some (.mix p q)=>.ret (σ.aR o.dst (.mix p q))
         | some (.data .unit _)=>.ret (σ.aR o.dst (.data .unit ()))
         | _=>.fail
       | none=>.fail
     | none=>.fail
   | _=>.fail
 | .buildSlice t len parts=>match find cx.T t with
   | some (.slice e)=>match JV bf o.dst,len,parts.toList with
     | some d,0,[]=>σ.aL (nb+d) (.data (.slice e) []) 0 true fun ax σ=>.ret (σ.put d (.whole (nb+d) ax))
     | _,_,_=>bif Nat.ble (len*e.size) 65536 then(match eT σ e (List.replicate len e.zero) parts.toList with
     | some (l,σ)=>.ret (σ.aR o.dst (.data (.slice e) l))
     | none=>.fail) else .fail
   | none=>xI cx nb o.dst t len parts.toList σ
   | _=>.fail
 | .load t a=>jk cx o.dst t (cq σ a) σ
 | .store t a x=>match o.dst with|none=>jz cx t (cq σ a) (cq σ x) σ|some _=>.fail
 | .nilCheck x=>match cq σ x with
   | .ptr b ax p=>bif live σ b ax then .ret (σ.aR o.dst (.ptr b ax p)) else .fail
   | .cell t x=>.ret (σ.aR o.dst (.cell t x))
   | .fn f c=>.ret (σ.aR o.dst (.fn f c))
   | _=>.fail
 | .binOp op xt x y _=>(Qs σ (find cx.T xt) (cT cx.tP xt) op (cq σ x) (cq σ y)).bind fun v=>.ret (σ.aR o.dst v)
 | .unOp op _ x=>(un op (cq σ x)).bind fun v=>.ret (σ.aR o.dst v)
 | .convert src dst x=>fI cx nb o.dst src dst (cq σ x) σ
 | .makeFunc (.func f) first caps=>match first.toList,Bt (caps.toList.map (cq σ)) with
   | [],some cs=>.ret (σ.aR o.dst (.fn f cs))
   | _,_=>.fail
 | .slice t x lo hi none=>jA cx o.dst t (cq σ x) lo hi σ
 | .fieldAddr s x k=>dV cx o.dst s (cq σ x) k σ
 | .field xt x k=>match cq σ x with
   | .data u y=>bif Bq (find cx.T xt) u then(match jV (.data u y) k with
     | some (_,v)=>.ret (σ.aR o.dst v)
     | none=>.fail) else .fail
   | _=>.fail
 | .indexAddr t x i=>match cq σ i with
   | .data (.int _) i=>dU cx o.dst t (cq σ x) i σ
   | _=>.fail
 | .index t x i=>match cq σ i with
   | .data (.int _) i=>jB cx o.dst t (cq σ x) i σ
   | _=>.fail
 | .makeSlice t l c=>match o.dst,find cx.T t,cq σ l,cq σ c with
   | some d,some (.slice e),.data (.int _) l,.data (.int _) c =>
     .need (inside 0 l c) (.need (fits c)
      (σ.aL (nb+d) (.data (.slice e) (qc l e.zero)) 0 true fun ax σ=>.ret (σ.put d (.whole (nb+d) ax))))
   | _,_,_,_=>.fail
 | .extract t k=>match cq σ t with
   | .yT vs=>match nth vs k with
     | some v=>.ret (σ.aR o.dst v)
     | none=>.fail
   | _=>.fail
 | .call c=>rJ cx nb bf inl o.dst o.type c σ
 | .makeInterface u x=>oB cx o.dst o.type u (cq σ x) σ
 | _=>.fail
def uK(g:Option (Nat×Bool))(j:Nat)(want:Bool):Bool :=
 match g with|some (i,b)=>Nat.beq i j&&(b==want)|none=>false
def under(j:Nat)(want:Bool):(inner:List Nat)→List (Nat×Oper)→List (Nat×Oper)×List (Nat×Oper)
 | _,[]=>([],[])
 | inner,(i,o)::r =>
   bif uK o.guard j want then let x:=under j want (i::inner) r;((i,{ o with guard:=none })::x.1,x.2)
   else bif (match o.guard with|some (k,_)=>inner.any (Nat.beq k)|none=>false) then let x:=under j want (i::inner) r;((i,o)::x.1,x.2)
   else([],(i,o)::r)
def DK(cx:Ctx):List (Nat×Oper)→Bool
 | []=>false
 | (_,o)::r=>(match o.op with
   | .call c=>match c.callee with
     | .value (.func f)=>match find cx.cF f with|some _=>false|none=>true
     | .value _=>true
     | .builtin .append=>true
     | _=>false
   | .store ..=>true
   | _=>false)||DK cx r
def St.fY(σ:St):St:={ σ with mem:=fun i=>match σ.mem i with|some b=>some { b with lk:=true }|none=>none }
def St.undef(σ:St):List (Nat×Oper)→St
 | []=>σ
 | (_,o)::r=>(σ.undef r).aR o.dst .undef
def kM(d:Nat):List (Nat×Oper)→Bool
 | []=>false
 | (_,o)::r=>(match o.dst with|some k=>Nat.beq k d|none=>false)||kM d r
def uL(σ:St)(pk:Oper)(dj:Nat)(want:Bool):Option aQ :=
 match pk.op with
 | .pick (.tmp c) a b=>bif Nat.beq c dj then some (cq σ (bif want then a else b)) else none
 | _=>none
def mX(all:Array Oper):Nat→List (Nat×Oper)→St→Tree St
 | 0,_,_=>.fail
 | n+1,[],σ=>.ret σ
 | n+1,(i,o)::r,σ =>
   match o.guard with
   | none=>(mW cx nb bf inl o σ).bind fun σ=>mX all n r σ
   | some (j,want) =>
     let g:=under j want [] ((i,o)::r)
     match(all[j]?).bind (·.dst) with
     | none=>.fail
     | some dj=>match σ.slots dj,g.2 with
       | .data .bool c,(_,pk)::rest=>bif kM dj g.1 then .fail else match pk.guard with
         | some _=>.fail
         | none =>
           let c':=bif want then c else nt c
           bif DK cx g.1 then
            (Tree.node c' ((mX all n g.1 σ).bind fun σ=>match uL σ pk dj want with
              | some v=>.ret (σ.aR pk.dst v)
              | none=>.fail)
             (match uL (σ.undef g.1) pk dj (!want) with
              | some v=>.ret ((σ.undef g.1).aR pk.dst v)
              | none=>.fail)).bind fun σ=>mX all n rest σ
           else match find cx.T pk.type,pk.dst with
            | some t,some dp=>(Tree.node c' ((mX all n g.1 σ.fY).bind fun τ=>match(uL τ pk dj want).bind (ON t) with
              | some x=>.ret x
              | none=>.fail)
             (match(uL (σ.undef g.1) pk dj (!want)).bind (ON t) with
              | some x=>.ret x
              | none=>.fail)).join fun x=>mX all n rest ((σ.undef g.1).put dp (.data t x))
            | _,_=>.fail
       | _,_=>.fail
def number:Nat→List Oper→List (Nat×Oper)
 | _,[]=>[]
 | k,o::r=>(k,o)::number (k+1) r
def D6(ops:Array Oper)(σ:St):Tree St:=mX cx nb bf inl ops (2*ops.size+1) (number 0 ops.toList) σ
def dZ:Op→List Operand
 | .move x|.assign x|.box _ x|.load _ x|.nilCheck x|.unOp _ _ x|.convert _ _ x|.fieldAddr _ x _|.field _ x _|.extract x _=>[x]
 | .pick c a b=>[c,a,b]
 | .build _ ps|.buildSlice _ _ ps=>ps.toList.map (·.2)
 | .store _ a x=>[a,x]
 | .binOp _ _ x y _=>[x,y]
 | .makeFunc _ f c=>f.toList++c.toList
 | .slice _ x lo hi _=>x::(lo.toList++hi.toList)
 | .indexAddr _ x i|.index _ x i=>[x,i]
 | .makeSlice _ l c=>[l,c]
 | .call c=>(match c.callee with|.value f=>[f]|.invoke r _=>[r]|_=>[])++c.args.toList
 | .makeInterface _ x=>[x]
 | _=>[]
def tmpsOf:List Operand→List Nat
 | []=>[]
 | .tmp t::r=>t::tmpsOf r
 | _::r=>tmpsOf r
def lB(o:Oper)(σ:St):Option Nat:=match o.op with
 | .call c=>match c.callee with
   | .value x=>match cq σ x with
     | .fn f _=>some f
     | _=>none
   | _=>none
 | _=>none
def V0:Option Nat→Option Nat→Bool
 | some a,some b=>Nat.beq a b
 | none,none=>true
 | _,_=>false
def cls(g:Option Nat)(o:Oper):Nat:=match o.op with
 | .assign _|.move _|.makeSlice ..|.convert ..=>1
 | .box e _=>match find cx.nV e with
   | some _=>3
   | none=>1
 | .alloc e=>match find cx.T e with
   | some (.slice _)=>3
   | some _=>1
   | none=>match find cx.nV e with
     | some _=>3
     | none=>1
 | .build ..|.buildSlice ..|.store ..=>2
 | .call c=>match c.callee with
   | .builtin .len|.builtin .min|.builtin .max=>0
   | .builtin .append=>2
   | .builtin _=>3
   | .value _=>match g with
     | some f=>match find cx.JR f with
       | some (.clone _)=>2
       | some (.own _ _ _ _)=>2
       | _=>match find cx.cF f with
         | some c=>bif c.R.flat then 0 else 2
         | none=>3
     | none=>3
   | .invoke ..=>2
 | .makeInterface ..=>2
 | _=>0
structure Fp where
 rd:List Nat
 wr:List Nat
 DL:Bool
 fn:Option Nat
def rK(σ:St):aQ→List Nat
 | .ptr b _ _=>[b]
 | .whole b _=>[b]
 | .part b _ _ _=>[b]
 | .win b _ _ _ _ _ _=>[b]
 | .fn _ caps=>caps.map (·.1)
 | .mix a b=>rK σ a++rK σ b
 | _=>[]
def refsOf(σ:St):List Operand→List Nat
 | []=>[]
 | x::r=>rK σ (cq σ x)++refsOf σ r
def V1(o:Oper)(σ:St):List Nat:=match o.op with
 | .move x|.assign x=>match cq σ x with
   | .ptr _ _ _=>[]
   | v=>rK σ v
 | _=>refsOf σ (dZ o.op)
def own(o:Oper):List Nat:=match o.dst with|some d=>[nb+d]|none=>[]
def tU(o:Oper)(σ:St):Fp :=
 let rd:=own nb o++V1 o σ
 let g:=lB o σ
 match cls cx g o with
 | 0=>⟨rd,[],false,g⟩
 | 1=>⟨rd,own nb o,false,g⟩
 | 2=>⟨rd,rd,false,g⟩
 | _=>⟨[],[],true,g⟩
def St.only(σ:St)(ts rd:List Nat):St:={ slots:=fun t=>bif cT ts t then σ.slots t else .undef,mem:=fun b=>bif cT rd b then σ.mem b else none }
def lay(σ:St)(d:Option Nat)(wr:List Nat)(τ:St):St :=
 { slots:=match d with|some d=>fun t=>bif Nat.beq t d then τ.slots d else σ.slots t|none=>σ.slots
   mem:=fun b=>bif cT wr b then τ.mem b else σ.mem b }
def we(_:Nat)(_:List aQ)(_:St):Tree (aQ×St):=.fail
def Qt(fp:Fp)(o:Oper)(σ:St):Tree St:=bif V0 (lB o σ) fp.fn then mW cx nb bf we o σ else .fail
def fZ(fp:Fp)(o:Oper)(σ:St):Tree St :=
 bif fp.DL then mW cx nb bf inl o σ
 else(Qt cx nb bf fp o (σ.only (tmpsOf (dZ o.op)) fp.rd)).bind fun τ=>.ret (lay σ o.dst fp.wr τ)
abbrev wg:=Nat×Oper×Fp×Nat
def maskAt:List wg→Nat→Nat
 | [],_=>0
 | (i,_,_,m)::r,k=>bif Nat.beq i k then m else maskAt r k
def ru(done:List wg):List Edge→Nat
 | []=>0
 | e::r=>bif Region.binds .any e then(ru done r ||| 2 ^ e.on) ||| maskAt done e.on else ru done r
def mask(done:List wg)(o:Oper):Nat:=ru done o.after.toList
def OP(a b:List Nat):Bool:=a.all fun x=>!cT b x
def apart(x y:Oper)(f g:Fp):Bool :=
 !f.DL&&!g.DL&&OP f.wr g.rd&&OP g.wr f.rd &&
 (match x.dst with|some d=>!cT (tmpsOf (dZ y.op)) d&&(match y.dst with|some e=>!Nat.beq d e|none=>true)|none=>true) &&
 (match y.dst with|some e=>!cT (tmpsOf (dZ x.op)) e|none=>true)
def loose(o:Oper)(f:Fp)(m:Nat):List wg→Bool
 | []=>true
 | (k,ok,fk,_)::r=>(Nat.testBit m k||apart ok o fk f)&&loose o f m r
def D7:List (Nat×Oper)→List wg→St→Tree St
 | [],_,σ=>.ret σ
 | (i,o)::r,done,σ=>match o.guard with
   | some _=>.fail
   | none =>
     let f:=tU cx nb o σ
     let m:=mask done o
     bif loose o f m done&&(o.after.all fun e=>!Region.binds .any e||Nat.blt e.on i) then
      (fZ cx nb bf inl f o σ).bind fun σ=>D7 r ((i,o,f,m)::done) σ
     else .fail
def Hs(all:Array Oper)(o:Oper):List Nat:=match o.guard with
 | some (g,_)=>match(all[g]?).bind (·.dst) with|some d=>[d]|none=>[]
 | none=>[]
def yU(all:Array Oper)(o:Oper):List Nat:=Hs all o++tmpsOf (dZ o.op)
def tV(o:Oper)(k:Nat):Bool:=match o.guard with|some (g,_)=>!Nat.beq g k|none=>true
def wk(all:Array Oper)(i j:Nat)(x y:Oper)(f g:Fp):Bool :=
 !f.DL&&!g.DL&&OP f.wr g.rd&&OP g.wr f.rd&&tV x j&&tV y i &&
 (match x.dst with|some d=>!cT (yU all y) d&&(match y.dst with|some e=>!Nat.beq d e|none=>true)|none=>true) &&
 (match y.dst with|some e=>!cT (yU all x) e|none=>true)
def yV(all:Array Oper)(i:Nat)(o:Oper)(f:Fp)(m:Nat):List wg→Bool
 | []=>true
 | (k,ok,fk,_)::r=>(Nat.testBit m k||wk all k i ok o fk f)&&yV all i o f m r
def fy(i:Nat)(sk:Nat→Bool):Nat→Bool:=fun k=>Nat.beq k i||sk k
def qs(all:Array Oper):List (Nat×Oper)→List wg→St→(Nat→Bool)→Tree St
 | [],_,σ,_=>.ret σ
 | (i,o)::r,done,σ,sk =>
   let f:=tU cx nb o σ
   let m:=mask done o
   bif yV all i o f m done&&(o.after.all fun e=>!Region.binds .any e||Nat.blt e.on i) then
    match o.guard with
    | none=>(fZ cx nb bf inl f o σ).bind fun σ=>qs all r ((i,o,f,m)::done) σ sk
    | some (g,want)=>match(all[g]?).bind (·.dst) with
      | none=>.fail
      | some dg=>bif sk g then qs all r ((i,o,f,m)::done) (σ.aR o.dst .undef) (fy i sk)
        else match σ.slots dg with
         | .data .bool c=>.node c
          (bif want then(fZ cx nb bf inl f o (σ.put dg (.data .bool true))).bind fun σ=>qs all r ((i,o,f,m)::done) σ sk
           else qs all r ((i,o,f,m)::done) ((σ.put dg (.data .bool true)).aR o.dst .undef) (fy i sk))
          (bif want then qs all r ((i,o,f,m)::done) ((σ.put dg (.data .bool false)).aR o.dst .undef) (fy i sk)
           else(fZ cx nb bf inl f o (σ.put dg (.data .bool false))).bind fun σ=>qs all r ((i,o,f,m)::done) σ sk)
         | _=>.fail
   else .fail
def ja:List Oper→Bool
 | []=>true
 | o::r=>(match o.dst with|some d=>!cT (Bu r) d|none=>true)&&ja r
where Bu:List Oper→List Nat
 | []=>[]
 | o::r=>match o.dst with|some d=>d::Bu r|none=>Bu r
def tW(ops:Array Oper)(σ:St):Tree St :=
 bif ops.any fun o=>o.guard.isSome then(bif ja ops.toList then qs cx nb bf inl ops (number 0 ops.toList) [] σ (fun _=>false) else .fail)
 else D7 cx nb bf inl (number 0 ops.toList) [] σ
end
end Go.Ge
namespace Go.Ge
set_option linter.unusedVariables false
def rounds{S R:Type}(f:S→Option (S⊕R)):Nat→S→Option R
 | 0,_=>none
 | n+1,s=>(f s).bind fun x=>match x with|.inl s=>rounds f n s|.inr r=>some r
theorem Cj{S R:Type}{f:S→Option (S⊕R)}:∀{n:Nat} {s:S} {r:R},rounds f n s=some r→∀m,n≤m→rounds f m s=some r:=by
 intro n
 induction n with
 | zero=>intro s r h;cases h
 | succ n ih =>
   intro s r h m hm
   obtain⟨k,rfl⟩:∃k,m=k+1:=⟨m-1,by omega⟩
   simp only[rounds] at h⊢
   cases hf:f s with
   | none=>rw[hf] at h;cases h
   | some x =>
     rw[hf] at h
     cases x with
     | inl s'=>exact ih h k (by omega)
     | inr r'=>exact h
open Classical in
noncomputable def Loop{S R:Type}(f:S→Option (S⊕R))(s:S):Option R :=
 if h:∃n r,rounds f n s=some r then some (Classical.choose (Classical.choose_spec h)) else none
theorem mY{S R:Type}{f:S→Option (S⊕R)}{n:Nat}{s:S}{r:R}(h:rounds f n s=some r):Loop f s=some r:=by
 have hex:∃n r,rounds f n s=some r:=⟨n,r,h⟩
 unfold Loop
 rw[dif_pos hex]
 have h2:=Classical.choose_spec (Classical.choose_spec hex)
 have a:=Cj h (max n (Classical.choose hex)) (by omega)
 have b:=Cj h2 (max n (Classical.choose hex)) (by omega)
 rw[a] at b
 exact b.symm
theorem mZ{S R:Type}{f:S→Option (S⊕R)}{s:S}{r:R}(h:Loop f s=some r):∃n,rounds f n s=some r:=by
 unfold Loop at h
 split at h
 ·rename_i hex
  have h2:=Classical.choose_spec (Classical.choose_spec hex)
  exact⟨_,by rw[h2];exact h⟩
 ·cases h
theorem bH{S R:Type}(f:S→Option (S⊕R))(s:S):Loop f s=(f s).bind fun x=>match x with|.inl s=>Loop f s|.inr r=>some r:=by
 cases hf:f s with
 | none =>
   cases hl:Loop f s with
   | none=>rfl
   | some r =>
     obtain⟨n,hn⟩:=mZ hl
     cases n with
     | zero=>cases hn
     | succ n=>simp[rounds,hf] at hn
 | some x =>
   cases x with
   | inr r=>exact mY (n:=1) (by simp[rounds,hf])
   | inl s' =>
     show Loop f s=Loop f s'
     cases hl:Loop f s' with
     | some r =>
       obtain⟨n,hn⟩:=mZ hl
       exact mY (n:=n+1) (by simp[rounds,hf,hn])
     | none =>
       cases Gg:Loop f s with
       | none=>rfl
       | some r =>
         obtain⟨n,hn⟩:=mZ Gg
         cases n with
         | zero=>cases hn
         | succ n =>
           simp[rounds,hf] at hn
           rw[mY hn] at hl;cases hl
inductive Sh where
 | d (t:Ty)
 | k (v:aQ)
 | m (a b:Sh)
def Sh.ty:Sh→Ty
 | .d t=>t
 | .k _=>.unit
 | .m a b=>.pair a.ty b.ty
def DM:List Ci→List Ci→Bool
 | [],[]=>true
 | .qI k o::p,.qI k' o'::q=>Nat.beq k k'&&Nat.beq o o'&&DM p q
 | _,_=>false
def DN:List (Nat×Nat)→List (Nat×Nat)→Bool
 | [],[]=>true
 | (a,b)::r,(c,d)::s=>Nat.beq a c&&Nat.beq b d&&DN r s
 | _,_=>false
theorem Md:∀{p q:List Ci},DM p q=true→p=q:=by
 intro p
 induction p with
 | nil=>intro q h;cases q<;>first|rfl|cases h
 | cons s p ih =>
   intro q h
   cases s with
   | idx i n=>cases q<;>cases h
   | qI k o =>
     cases q with
     | nil=>cases h
     | cons s' q =>
       cases s' with
       | idx i n=>cases h
       | qI k' o' =>
         simp only[DM,Bool.and_eq_true] at h
         rw[Nat.eq_of_beq_eq_true h.1.1,Nat.eq_of_beq_eq_true h.1.2,ih h.2]
theorem Me:∀{p q:List (Nat×Nat)},DN p q=true→p=q:=by
 intro p
 induction p with
 | nil=>intro q h;cases q<;>first|rfl|cases h
 | cons s p ih =>
   intro q h
   obtain⟨a,b⟩:=s
   cases q with
   | nil=>cases h
   | cons s' q =>
     obtain⟨c,d⟩:=s'
     simp only[DN,Bool.and_eq_true] at h
     rw[Nat.eq_of_beq_eq_true h.1.1,Nat.eq_of_beq_eq_true h.1.2,ih h.2]
def uM(V:Nat→Bool)(iy σ:St):aQ→aQ→Bool
 | .ptr b v p,.ptr b' v' p'=>Nat.beq b b'&&DM p p'&&(bif V b then(match iy.mem b,σ.mem b with|some x,some y=>Nat.beq x.ax v&&Nat.beq y.ax v'|_,_=>false) else Nat.beq v v')
 | .whole b v,.whole b' v'=>Nat.beq b b'&&(match iy.mem b,σ.mem b with|some x,some y=>Nat.beq x.ax v&&Nat.beq y.ax v'&&y.buf|_,_=>false)
 | .fn f c,.fn f' c'=>Nat.beq f f'&&DN c c'
 | .oA,.oA=>true
 | .pN,.pN=>true
 | .sF b v,.sF b' v'=>Nat.beq b b'&&Nat.beq v v'
 | _,_=>false
def SU:aQ→Sh
 | .data t _=>.d t
 | .mix a b=>.m (SU a) (SU b)
 | v=>.k v
def Sh.out(V:Nat→Bool)(iy σ:St):(s:Sh)→aQ→Option s.ty.den
 | .d t,v=>ON t v
 | .k u,v=>bif uM V iy σ u v then some () else none
 | .m a b,.mix v w=>match Sh.out V iy σ a v,Sh.out V iy σ b w with
   | some x,some y=>some (x,y)
   | _,_=>none
 | .m _ _,_=>none
def bump(M V:Nat→Bool):aQ→aQ
 | .whole b v=>bif M b then .whole b (v+1) else .whole b v
 | .ptr b v p=>bif M b&&V b then .ptr b (v+1) p else .ptr b v p
 | v=>v
def Sh.sB(M V:Nat→Bool):(s:Sh)→s.ty.den→aQ
 | .d t,x=>.data t x
 | .k v,_=>bump M V v
 | .m a b,x=>.mix (a.sB M V x.1) (b.sB M V x.2)
structure Mf where
 S:List (Nat×Nat)
 M:List Nat
 fz:Bool
structure vw where
 marks:List (Option Mf)
 V2:List Nat
structure Carry where
 S:List (Nat×Sh)
 M:List (Nat×Sh×bL)
 V:Nat→Bool
def VD:List (Nat×Sh)→Ty
 | []=>.unit
 | (_,s)::r=>.pair s.ty (VD r)
def UB:List (Nat×Sh×bL)→Ty
 | []=>.unit
 | (_,s,_)::r=>.pair s.ty (UB r)
def Carry.ty(c:Carry):Ty:=.pair (VD c.S) (UB c.M)
def SV(V:Nat→Bool)(iy σ:St):(l:List (Nat×Sh))→Option (VD l).den
 | []=>some ()
 | (i,s)::r=>match Sh.out V iy σ s (σ.slots i),SV V iy σ r with
   | some x,some y=>some (x,y)
   | _,_=>none
def Ck(fz mv:Bool)(bx b:bL):Bool:=(fz||(bx.ro==b.ro))&&Nat.beq bx.tid b.tid&&(bx.buf==b.buf)&&(bx.buf||mv||Nat.beq bx.ax b.ax)
def SW(V:Nat→Bool)(fz:Bool)(iy σ:St):(l:List (Nat×Sh×bL))→Option (UB l).den
 | []=>some ()
 | (i,s,b)::r=>match σ.mem i with
   | some bx=>bif Ck fz (V i) bx b then(match Sh.out V iy σ s bx.val,SW V fz iy σ r with
     | some x,some y=>some (x,y)
     | _,_=>none) else none
   | none=>none
def Carry.out(c:Carry)(fz:Bool)(iy σ:St):Option c.ty.den :=
 match SV c.V iy σ c.S,SW c.V fz iy σ c.M with
 | some x,some y=>some (x,y)
 | _,_=>none
def Ir(M V:Nat→Bool):(l:List (Nat×Sh))→(VD l).den→Nat→Option aQ
 | [],_,_=>none
 | (i,s)::r,x,t=>bif Nat.beq t i then some (s.sB M V x.1) else Ir M V r x.2 t
def D8(fz:Bool)(M V:Nat→Bool):(l:List (Nat×Sh×bL))→(UB l).den→Nat→Option bL
 | [],_,_=>none
 | (i,s,b)::r,x,t=>bif Nat.beq t i then some { b with val:=s.sB M V x.1,ro:=b.ro||fz,ax:=bif b.buf||V t then b.ax+1 else b.ax } else D8 fz M V r x.2 t
def tX:List (Nat×Sh×bL)→Nat→Bool
 | [],_=>false
 | (i,_,_)::r,t=>Nat.beq t i||tX r t
def Carry.sB(c:Carry)(fz lock:Bool)(wr:List Nat)(iy:St)(x:c.ty.den):St :=
 { slots:=fun t=>match Ir (tX c.M) c.V c.S x.1 t with
    | some v=>v
    | none=>bif cT wr t then .undef else iy.slots t
   mem:=fun b=>match D8 fz (tX c.M) c.V c.M x.2 b with
    | some bx=>some bx
    | none=>match iy.mem b with
      | some bx=>some { bx with lk:=bx.lk||lock }
      | none=>none }
def settle:List (Nat×Sh)→St→Option St
 | [],σ=>some σ
 | (i,.d t)::r,σ=>match vZ σ t (σ.slots i) with
   | some (x,σ)=>settle r (σ.put i (.data t x))
   | none=>none
 | _::r,σ=>settle r σ
def Carry.D9(c:Carry)(fz:Bool)(iy σ:St):Option c.ty.den :=
 bif fz then(match settle c.S σ with
  | some σ=>c.out true iy σ
  | none=>none)
 else c.out false iy σ
def Carry.lock(c:Carry)(σ:St):St :=
 { σ with mem:=fun b=>match σ.mem b with
  | some bx=>some (bif tX c.M b then bx else { bx with lk:=true })
  | none=>none }
def nc:List Oper→List Nat
 | []=>[]
 | o::r=>match o.dst with|some d=>d::nc r|none=>nc r
def writes:Code→List Nat
 | .region _ ops _=>nc ops.toList
 | .seq a b=>writes a++writes b
 | .cond _ a b=>writes a++writes b
 | .block _ a=>writes a
 | .loop a=>writes a
 | .scope a=>writes a
 | _=>[]
def qt:Code→List Nat
 | .seq a b=>qt a++(qt b).filter fun e=>!cT (qt a) e
 | .cond _ a b=>qt a++(qt b).filter fun e=>!cT (qt a) e
 | .block i a=>(qt a).filter fun e=>!Nat.beq e (i+2)
 | .loop a=>qt a
 | .scope a=>qt a
 | .ret=>[1]
 | .exit i=>[i+2]
 | _=>[]
def marks:Code→Nat
 | .seq a b=>marks a+marks b
 | .cond _ a b=>marks a+marks b+1
 | .block _ a=>marks a
 | .loop a=>marks a+1
 | .scope a=>marks a
 | _=>0
def Db:List Nat→Nat→Option Nat
 | [],_=>none
 | e::r,k=>bif Nat.beq e k then some 0 else(Db r k).map (·+1)
def Mg:List Nat→List Nat→List Nat
 | [],l=>l
 | b::r,l=>bif cT l b then Mg r l else Mg r (l++[b])
section
variable (cx:Ctx)
def W6(σ:St):List (Nat×Nat)→Option (List (Nat×Sh))
 | []=>some []
 | (i,ty)::r=>match W6 σ r with
   | none=>none
   | some l=>bif Nat.beq ty 999999 then(match σ.slots i with
     | .whole b v=>some ((i,.k (.whole b v))::l)
     | _=>some l) else match σ.slots i with
     | .data t _=>some ((i,.d t)::l)
     | .undef|.lz=>match find cx.T ty with
       | some t=>some ((i,.d t)::l)
       | none=>none
     | v=>some ((i,.k v)::l)
def xJ(σ:St):List Nat→List Nat
 | []=>[]
 | b::r=>(match σ.mem b with|some bx=>(match bx.val with|.mix u v=>rK σ (.mix u v)|.whole c _=>[c]|.fn f c=>rK σ (.fn f c)|_=>[])|none=>[])++xJ σ r
def N3(σ:St):List Nat→List Nat
 | []=>[]
 | i::r =>
   let r0:=rK σ (σ.slots i)
   let r1:=xJ σ r0
   let r2:=xJ σ r1
   Mg (r0++(r1++(r2++xJ σ r2))) (N3 σ r)
def W7(σ:St):List Nat→Option (List (Nat×Sh×bL))
 | []=>some []
 | b::r=>match σ.mem b,W7 σ r with
   | some bx,some l=>bif bx.lk then none else some ((b,SU bx.val,bx)::l)
   | _,_=>none
def Cl:List Nat→St→Option St
 | [],σ=>some σ
 | m::r,σ=>bif Nat.ble 2000000 m then(match σ.slots (m-2000000) with
  | .whole b v=>match σ.mem b with
    | some bx=>match bx.val with
      | .data (.slice e) _=>match vZ σ (.slice e) (.whole b v) with
        | some (x,σ)=>Cl r (σ.put (m-2000000) (.data (.slice e) x))
        | none=>none
      | _=>none
    | none=>none
  | _=>Cl r σ) else Cl r σ
def V3(nb:Nat)(bf:List Nat)(σ:St)(b:Nat):Bool:=cT (bf.map (nb+·)) b&&(match σ.mem b with|some x=>!x.buf&&!DI x.val|none=>false)
def DO(nb:Nat)(bf:List Nat)(σ:St)(p:Mf):Option Carry :=
 match W6 cx σ p.S,W7 σ (N3 σ p.M) with
 | some s,some m=>some ⟨s,m,V3 nb bf σ⟩
 | _,_=>none
variable (nb:Nat) (bf:List Nat) (inl:Nat→List aQ→St→Tree (aQ×St))
def zR{α:Type}:List Nat→Nat→(Nat→Tree α)→Tree α
 | [],_,_=>.fail
 | [e],_,f=>f e
 | e::r,i,f=>.node (tM i 0) (f e) (zR r (i-1) f)
def again{S:Type}(f:S→Tree (Nat×S)):Nat→S→Tree (Nat×S)
 | 0,_=>.fail
 | n+1,s=>(f s).bind fun r=>bif Nat.beq r.1 0 then again f n r.2 else .ret r
noncomputable def ia:Code→List (Option Mf)→St→Tree (Nat×St)
 | .skip,_,σ=>.ret (0,σ)
 | .label _,_,σ=>.ret (0,σ)
 | .ret,_,σ=>.ret (1,σ)
 | .exit i,_,σ=>.ret (i+2,σ)
 | .region _ ops dr,_,σ=>(bif dr then tW cx nb bf inl ops σ else D6 cx nb bf inl ops σ).bind fun σ=>.ret (0,σ)
 | .seq a b,pl,σ=>(ia a pl σ).bind fun r=>bif Nat.beq r.1 0 then ia b (pl.drop (marks a)) r.2 else .ret r
 | .block i a,pl,σ=>(ia a pl σ).bind fun r=>.ret (bif Nat.beq r.1 (i+2) then 0 else r.1,r.2)
 | .scope a,pl,σ=>ia a pl σ
 | .cond c a b,pl,σ=>match cq σ c,pl with
   | .data .bool c,none::pl=>.node c (ia a pl σ) (ia b (pl.drop (marks a)) σ)
   | .data .bool c,some p::pl=>match DO cx nb bf σ p with
     | none=>.fail
     | some k =>
       let t:=Tree.node c (ia a pl (k.lock σ)) (ia b (pl.drop (marks a)) (k.lock σ))
       let wr:=writes a++writes b
       match qt a++(qt b).filter (fun e=>!cT (qt a) e) with
       | []=>(t.bind fun r=>bif Nat.beq r.1 0 then Tree.T9 (k.D9 p.fz σ r.2) else .fail).join fun x=>.ret (0,k.sB p.fz false wr σ x)
       | es=>(t.bind fun r=>match Db (0::es) r.1,k.D9 p.fz σ r.2 with
        | some i,some x=>.ret (i,x)
        | _,_=>.fail).join fun x=>zR (0::es) x.1 fun e=>.ret (e,k.sB p.fz false wr σ x.2)
   | _,_=>.fail
 | .loop a,pl,σ=>match pl with
   | some p::pl=>match Cl p.M σ with
    | none=>.fail
    | some σ=>match DO cx nb bf σ p with
     | none=>.fail
     | some k=>match k.out false σ σ with
       | none=>.fail
       | some x0 =>
         let wr:=writes a
         let es:=qt a
         let body (x:k.ty.den):Option (k.ty.den⊕(Nat×k.ty.den)):=((ia a pl (k.sB false true wr σ x)).bind fun r=>bif Nat.beq r.1 0 then(match k.out false σ r.2 with
           | some y=>.ret (.inl y)
           | none=>.fail)
          else match Db es r.1,k.D9 p.fz σ r.2 with
           | some i,some y=>.ret (.inr (i,y))
           | _,_=>.fail).run
         match es with
         | [e]=>.look (Loop (fun x=>jj (body x)) x0) fun x=>.ret (e,k.sB p.fz false wr σ x)
         | es=>.look (Loop body x0) fun x=>zR es x.1 fun e=>.ret (e,k.sB p.fz false wr σ x.2)
   | none::pl=>again (fun σ=>ia a pl σ) 100000 σ
   | _=>.fail
 | _,_,_=>.fail
end
def Cm(mem:Nat→Option bL)(args:List aQ):St:={ slots:=fun t=>(args[t]?).getD .undef,mem }
def Bw(cx:Ctx)(σ:St):ResultVar→Tree aQ
 | .tmp t=>.ret (σ.slots t)
 | .cell a ty=>(jk cx (some 0) ty (σ.slots a) σ).bind fun τ=>.ret (τ.slots 0)
def zS(cx:Ctx)(σ:St):List ResultVar→Tree aQ
 | []=>.ret .nl
 | r::rs=>(Bw cx σ r).bind fun v=>(zS cx σ rs).bind fun l=>.ret (.mix v l)
def results1(cx:Ctx)(σ:St):List ResultVar→Tree aQ
 | [r]=>Bw cx σ r
 | rs=>(zS cx σ rs).bind fun l=>.ret (.yT l)
noncomputable def wm(cx:Ctx):Nat→(nb:Nat)→(eO:Nat→vw)→Nat→List aQ→(Nat→Option bL)→Tree (aQ×(Nat→Option bL))
 | 0,_,_,_,_,_=>.fail
 | n+1,nb,eO,f,args,mem=>match find cx.fns f with
   | some fn=>match fn.body with
     | some c=>(ia cx nb (eO f).V2 (fun g xs σ=>(wm cx n ((nb+g+1)*1000) eO g xs σ.mem).bind fun r=>.ret (r.1,{ σ with mem:=r.2 })) c (eO f).marks (Cm mem args)).bind fun r =>
      bif Nat.beq r.1 0||Nat.beq r.1 1 then(results1 cx r.2 fn.results.toList).bind fun v=>.ret (v,r.2.mem) else .fail
     | none=>.fail
   | none=>.fail
def Bx:(A:Ty)→A.den→List aQ
 | .pair t r,x=>.data t x.1::Bx r x.2
 | _,_=>[]
def zT(mem:Nat→Option bL):St:={ slots:=fun _=>.undef,mem }
def zU:aQ→List aQ
 | .mix a b=>a::zU b
 | _=>[]
def zV:(R:Ty)→aQ→List aQ
 | .pair _ .unit,v=>[v]
 | _,.yT v=>zU v
 | _,v=>[v]
def ga(k:Nat):Nat:=777000000+k
def ym:List Bool→(A U:Ty)→A.den→Nat→List aQ
 | [],_,_,_,_=>[]
 | false::ps,A,U,x,k=>match A,x with
   | .pair t A,x=>.data t x.1::ym ps A U x.2 k
   | _,_=>[]
 | true::ps,A,U,x,k=>match U with
   | .pair _ U=>.ptr (ga k) 0 []::ym ps A U x (k+1)
   | _=>[]
def Dc:(U:Ty)→U.den→Nat→Nat→Option bL
 | .pair t U,u,k,b=>bif Nat.beq b (ga k) then some { val:=.data t u.1,tid:=0,buf:=false,ro:=false,lk:=false,ax:=0 } else Dc U u.2 (k+1) b
 | _,_,_,_=>none
def JX(mem:Nat→Option bL):(U:Ty)→Nat→Option U.den
 | .pair t U,k=>match mem (ga k) with
   | some bx=>bif Nat.beq bx.ax 0&&!bx.buf&&!bx.ro then(match Qb t bx.val,JX mem U (k+1) with
     | some x,some u=>some (x,u)
     | _,_=>none) else none
   | none=>none
 | .unit,_=>some ()
 | _,_=>none
noncomputable def SX(cx:Ctx)(n:Nat)(eO:Nat→vw)(f:Nat)(ps:List Bool)(A U R:Ty)(x:A.den×U.den):Option (R.den×U.den) :=
 ((wm cx n 0 eO f (ym ps A U x.1 0) (Dc U x.2 0)).bind fun r=>match iZ (zT r.2) R (zV R r.1) with
  | some (y,σ)=>(match JX σ.mem U 0 with
    | some u=>.ret (y,u)
    | none=>.fail)
  | none=>.fail).run
noncomputable def sem(cx:Ctx)(n:Nat)(eO:Nat→vw)(f:Nat)(A R:Ty)(x:A.den):Option R.den :=
 ((wm cx n 0 eO f (Bx A x) (fun _=>none)).bind fun r=>match fX (zT r.2) R (zV R r.1) with
  | some y=>.ret y
  | none=>.fail).run
end Go.Ge
namespace Go.Ge
set_option linter.unusedVariables false
structure Gh where
 I:Nat→Nat→Prop
 loc:Nat→Option (Nat×Nat)
def bQ(t:Ty)(cs:List Value):Value:=bif t.isAgg then .agg cs.toArray else cs.headD undef
def bE(w:World)(I:Nat→Nat→Prop):(t:Ty)→t.den→List Value→Prop
 | .int k,n,cs=>cs=[.int k n]∧k.min≤(show Int from n)∧(show Int from n)≤k.max
 | .bool,b,cs=>cs=[.bool b]
 | .str,s,cs=>cs=[.string ⟨List.toArray (α:=UInt8) s⟩]∧List.length (α:=UInt8) s≤maxLen
 | .slice e,l,cs=>((∃base,cs=[.slice base 0 0])∧l=([]:List e.den)) ∨
  ∃blk off cap,cs=[.slice (some ⟨blk,off,none⟩) (List.length (α:=e.den) l) cap]∧List.length (α:=e.den) l≤cap∧cap≤maxLen ∧
   ∀(i:Nat) (x:e.den),(show List e.den from l)[i]?=some x→∃es:List Value,es.length=e.size ∧
    (∀(j:Nat) v,es[j]?=some v→w.cell? ⟨blk,off+i*e.size+j,none⟩=some v∧I blk (off+i*e.size+j))∧bE w I e x es
 | .arr n e,l,cs=>List.length (α:=e.den) l=n∧cs.length=n*e.size ∧
  ∀(i:Nat) (x:e.den),(show List e.den from l)[i]?=some x→bE w I e x ((cs.drop (i*e.size)).take e.size)
 | .pair a b,x,cs=>∃c1 c2,cs=c1++c2∧bE w I a x.1 c1∧bE w I b x.2 c2
 | .unit,_,cs=>cs=[]
 | .alt u a r,x,cs=>match(show a.den⊕r.den from x) with
   | .inl y=>r.size=1∧∃c,cs=[.iface u (bQ a c)]∧bE w I a y c
   | .inr z=>bE w I r z cs
 | .vQ,_,cs=>cs=[.nilIface]
theorem bE.length{w:World}{I:Nat→Nat→Prop}:∀{t:Ty} {x:t.den} {cs:List Value},bE w I t x cs→cs.length=t.size:=by
 intro t
 induction t with
 | int k=>intro x cs h;rw[h.1];rfl
 | bool=>intro x cs h;rw[h];rfl
 | str=>intro x cs h;rw[h.1];rfl
 | slice e ih=>intro x cs h;rcases h with ⟨⟨_,h⟩,_⟩|⟨_,_,_,h,_⟩<;>rw[h]<;>rfl
 | arr n e ih=>intro x cs h;exact h.2.1
 | pair a b iQ kX=>intro x cs h;obtain⟨c1,c2,rfl,h1,h2⟩:=h;rw[List.length_append,iQ h1,kX h2];rfl
 | unit=>intro x cs h;rw[h];rfl
 | alt u a r iQ ihr =>
   intro x cs h
   rcases x with y|z
   ·obtain⟨h1,c,rfl,_⟩:=h
    exact h1.symm
   ·exact ihr (show bE w I r z cs from h)
 | vQ=>intro x cs h;rw[show cs=_ from h];rfl
theorem bE.mono{w w':World}{I I':Nat→Nat→Prop}(hI:∀b o,I b o→I' b o)(hw:∀b o,I b o→w'.cell? ⟨b,o,none⟩=w.cell? ⟨b,o,none⟩) :
  ∀{t:Ty} {x:t.den} {cs:List Value},bE w I t x cs→bE w' I' t x cs:=by
 intro t
 induction t with
 | int k=>intro x cs h;exact h
 | bool=>intro x cs h;exact h
 | str=>intro x cs h;exact h
 | slice e ih =>
   intro x cs h
   rcases h with h|⟨blk,off,cap,h1,h2,h3,h4⟩
   ·exact .inl h
   ·refine .inr ⟨blk,off,cap,h1,h2,h3,fun i y hy=>?_⟩
    obtain⟨es,he,hc,hr⟩:=h4 i y hy
    exact⟨es,he,fun j v hv=>by obtain⟨a,b⟩:=hc j v hv;exact⟨by rw[hw _ _ b];exact a,hI _ _ b⟩,ih hr⟩
 | arr n e ih=>intro x cs h;exact⟨h.1,h.2.1,fun i y hy=>ih (h.2.2 i y hy)⟩
 | pair a b iQ kX=>intro x cs h;obtain⟨c1,c2,h0,h1,h2⟩:=h;exact⟨c1,c2,h0,iQ h1,kX h2⟩
 | unit=>intro x cs h;exact h
 | alt u a r iQ ihr =>
   intro x cs h
   rcases x with y|z
   ·obtain⟨h1,c,h2,h3⟩:=h
    exact⟨h1,c,h2,iQ h3⟩
   ·exact ihr (show bE w I r z cs from h)
 | vQ=>intro x cs h;exact h
theorem bE.one{w:World}{I:Nat→Nat→Prop}:∀{t:Ty} {x:t.den} {cs:List Value},bE w I t x cs→∀v∈cs,v.oneCell'=true:=by
 intro t
 induction t with
 | int k=>intro x cs h v hv;rw[h.1] at hv;simp at hv;subst hv;rfl
 | bool=>intro x cs h v hv;rw[h] at hv;simp at hv;subst hv;rfl
 | str=>intro x cs h v hv;rw[h.1] at hv;simp at hv;subst hv;rfl
 | slice e ih=>intro x cs h v hv;rcases h with ⟨⟨_,h⟩,_⟩|⟨_,_,_,h,_⟩<;>rw[h] at hv<;>simp at hv<;>subst hv<;>rfl
 | arr n e ih =>
   intro x cs h v hv
   obtain⟨h1,h2,h3⟩:=h
   obtain⟨k,hk,hkv⟩:=List.getElem_of_mem hv
   have he:0<e.size:=by
    rcases Nat.eq_zero_or_pos e.size with h0|h0
    ·rw[h0,Nat.mul_zero] at h2;omega
    ·exact h0
   have hdiv:k / e.size<n:=by rw[Nat.div_lt_iff_lt_mul he];omega
   have hx:∃y,(show List e.den from x)[k / e.size]?=some y:=⟨_,List.getElem?_eq_getElem (by rw[h1];exact hdiv)⟩
   obtain⟨y,hy⟩:=hx
   refine ih (h3 _ y hy) v ?_
   have hm:=Nat.mod_lt k he
   have hkk:k / e.size*e.size+k % e.size=k:=by rw[Nat.mul_comm];exact Nat.div_add_mod k e.size
   have:((cs.drop (k / e.size*e.size)).take e.size)[k % e.size]?=some v:=by
    rw[List.getElem?_take,if_pos hm,List.getElem?_drop,hkk,List.getElem?_eq_getElem hk,hkv]
   exact List.mem_of_getElem? this
 | pair a b iQ kX =>
   intro x cs h v hv
   obtain⟨c1,c2,rfl,h1,h2⟩:=h
   rcases List.mem_append.1 hv with hv|hv
   ·exact iQ h1 v hv
   ·exact kX h2 v hv
 | unit=>intro x cs h v hv;rw[h] at hv;cases hv
 | alt u a r iQ ihr =>
   intro x cs h v hv
   rcases x with y|z
   ·obtain⟨h1,c,rfl,h3⟩:=h
    simp at hv;subst hv;rfl
   ·exact ihr (show bE w I r z cs from h) v hv
 | vQ=>intro x cs h v hv;rw[show cs=_ from h] at hv;simp at hv;subst hv;rfl
theorem oX{w:World}{I:Nat→Nat→Prop}:∀{t:Ty} {x:t.den} {cs:List Value},bE w I t x cs→(bQ t cs).cells.toList=cs:=by
 intro t
 induction t with
 | int k=>intro x cs h;unfold bQ;rw[h.1];rfl
 | bool=>intro x cs h;unfold bQ;rw[h];rfl
 | str=>intro x cs h;unfold bQ;rw[h.1];rfl
 | slice e=>intro x cs h;unfold bQ;rcases h with ⟨⟨_,h⟩,_⟩|⟨_,_,_,h,_⟩<;>rw[h]<;>rfl
 | arr n e=>intro x cs h;rfl
 | pair a b=>intro x cs h;rfl
 | unit=>intro x cs h;rfl
 | alt u a r iQ ihr =>
   intro x cs h
   rcases x with y|z
   ·obtain⟨h1,c,rfl,h3⟩:=h
    unfold bQ Ty.isAgg
    cases r.isAgg<;>rfl
   ·exact ihr (show bE w I r z cs from h)
 | vQ=>intro x cs h;unfold bQ;rw[show cs=_ from h];rfl
inductive Mode where
 | cells|val|many
def rL(base:Option Addr)(cap:Nat):Prop:=cap=0∨∃blk off,base=some ⟨blk,off,none⟩
def cz:List Ci→Nat
 | []=>0
 | .qI _ off::p=>off+cz p
 | .idx i size::p=>i.toNat*size+cz p
theorem wo(p q:List Ci):cz (p++q)=cz p+cz q:=by
 induction p with
 | nil=>simp[cz]
 | cons s p ih=>cases s<;>simp[cz,ih]<;>omega
section
variable (γ:Gh) (mem:Nat→Option bL) (w:World)
def zW(bx:bL)(b:Nat)(lo:Int)(base:Option Addr)(cap:Nat):Prop:=lo=0→bx.buf=true→(γ.loc b=none∧base=none∧cap=0)∨∃blk,γ.loc b=some (blk,cap)∧base=some ⟨blk,0,none⟩
def zX(I:Nat→Nat→Prop)(blk off:Nat)(cs:List Value):Prop:=∀(j:Nat) v,cs[j]?=some v→w.cell? ⟨blk,off+j,none⟩=some v∧I blk (off+j)
def jX(b ax:Nat)(K:bL→Prop):Prop:=∃bx,mem b=some bx∧ax≤bx.ax∧(bx.ax=ax→K bx)
def b8:aQ→Mode→List Value→Prop
 | .undef,.val,vs=>∃v,vs=[v]
 | .undef,.cells,vs=>∃v,vs=[v]∧v.oneCell'=true
 | .undef,.many,_=>False
 | .data t x,.cells,vs=>bE w γ.I t x vs
 | .data t x,.val,vs=>∃cs,bE w γ.I t x cs∧vs=[bQ t cs]
 | .data _ _,.many,_=>False
 | .mix a b,.cells,vs=>∃c1 c2,vs=c1++c2∧b8 a .cells c1∧b8 b .cells c2
 | .mix a b,.val,vs=>∃c1 c2,vs=[.agg (c1++c2).toArray]∧b8 a .cells c1∧b8 b .cells c2
 | .mix a b,.many,vs=>∃v r,vs=v::r∧b8 a .val [v]∧b8 b .many r
 | .nl,.many,vs=>vs=[]
 | .nl,_,_=>False
 | .yT u,.val,vs=>∃arr:Array Value,vs=[.tuple arr]∧b8 u .many arr.toList
 | .yT _,_,_=>False
 | .oA,.many,_=>False
 | .oA,_,vs=>vs=[.pointer none]
 | .pN,.many,_=>False
 | .pN,_,vs=>vs=[.nilIface]
 | .sF _ _,.many,_=>False
 | .sF b ax,_,vs=>(∃v,vs=[v]∧v.oneCell'=true)∧jX mem b ax fun _=>∃blk cap,γ.loc b=some (blk,cap)∧(vs=[.pointer none]∨vs=[.pointer (some ⟨blk,0,none⟩)])
 | .lz,.many,_=>False
 | .lz,_,vs=>vs=[.slice none 0 0]
 | .cell _ _,.many,_=>False
 | .cell t x,_,vs=>∃blk off cs,vs=[.pointer (some ⟨blk,off,none⟩)]∧bE w γ.I t x cs∧zX w γ.I blk off cs
 | .ptr _ _ _,.many,_=>False
 | .ptr b ax p,_,vs=>(∃v,vs=[v]∧v.oneCell'=true)∧jX mem b ax fun _=>∃blk cap,γ.loc b=some (blk,cap)∧vs=[.pointer (some ⟨blk,cz p,none⟩)]
 | .whole _ _,.many,_=>False
 | .whole b ax,_,vs=>(∃v,vs=[v]∧v.oneCell'=true)∧jX mem b ax fun bx=>∃e n,bx.buf=true∧bx.row=some (e,n) ∧
  ((γ.loc b=none∧vs=[.slice none 0 0])∨∃blk cap,γ.loc b=some (blk,cap)∧vs=[.slice (some ⟨blk,0,none⟩) n cap])
 | .part _ _ _ _,.many,_=>False
 | .part b ax lo n,_,vs=>(∃v,vs=[v]∧v.oneCell'=true)∧jX mem b ax fun bx=>∃e k,bx.row=some (e,k)∧0≤lo∧0≤n∧lo+n≤k ∧
  ∃base cap,vs=[.slice base n.toNat cap]∧n.toNat≤cap∧cap≤maxLen∧(rL base cap∧zW γ bx b lo base cap)∧(n=0∨∃blk c,γ.loc b=some (blk,c)∧base=some ⟨blk,lo.toNat*e.size,none⟩)
 | .win _ _ _ _ _ _ _,.many,_=>False
 | .win b ax q e k lo n,_,vs=>(∃v,vs=[v]∧v.oneCell'=true)∧jX mem b ax fun _=>q≠[]∧∃blk c,γ.loc b=some (blk,c)∧0≤lo∧0≤n∧lo+n≤k ∧
  ∃base cap,vs=[.slice base n.toNat cap]∧n.toNat≤cap∧(n=0∨base=some ⟨blk,cz q+lo.toNat*e.size,none⟩)
 | .fn _ _,.many,_=>False
 | .fn f caps,_,vs=>∃arr:Array Value,vs=[.func (.func f) #[] arr]∧arr.size=caps.length ∧
  ∀(i:Nat) b ax,caps[i]?=some (b,ax)→jX mem b ax fun _=>∃blk cap,γ.loc b=some (blk,cap)∧arr[i]?=some (.pointer (some ⟨blk,0,none⟩))
def l9(cur:Array Value)(fr:Nat×Nat):Prop:=∀off,off<cur.size→¬(fr.1≤off∧off<fr.2)
def Ty.isInt:Ty→Bool
 | .int _=>true
 | _=>false
structure SY (e:Ty) (cur:Array Value) (fr:Nat×Nat):Prop where
 th:l9 cur fr
 um:e.isInt=false→¬(fr.1≤cur.size∧cur.size<fr.2)
def cw(b:Nat)(bx:bL):Prop :=
 match bx.buf with
 | true=>∃(e:Ty) (l:List e.den),bx.val=.data (.slice e) l∧0<e.size ∧
  ((γ.loc b=none∧l=[])∨∃blk cap cur tid fr,γ.loc b=some (blk,cap)∧w.heap[blk]?=some (.cells cur tid fr)∧SY e cur fr∧(bx.tid=0∨tid=bx.tid)∧l.length≤cap∧cap≤maxLen ∧
   cur.size=cap*e.size∧∀(i:Nat) (x:e.den),l[i]?=some x→bE w γ.I e x ((cur.toList.drop (i*e.size)).take e.size))
 | false=>∃blk cap cur tid fr,γ.loc b=some (blk,cap)∧w.heap[blk]?=some (.cells cur tid fr)∧l9 cur fr∧(bx.tid=0∨tid=bx.tid)∧b8 γ mem w bx.val .cells cur.toList
end
def Mh(bx:bL):Nat→Prop:=fun off=>bx.ro=true∧(bx.buf=true→∀e n,bx.row=some (e,n)→off<n*e.size)
abbrev eJ:=Nat→(Obj→Prop)→Prop
def sG:eJ:=fun _ _=>False
def Bz(G:eJ)(w:World):Prop:=∀b Q,G b Q→∃o,w.heap[b]?=some o∧Q o
structure nY where
 lo:Nat
 X:Nat→Prop
 G:eJ
def nY.has(B:nY)(k:Nat):Prop:=B.lo≤k∨B.X k
def jM(G:eJ)(n:Nat):nY:=⟨n,fun _=>False,G⟩
theorem ng{G:eJ}{n k:Nat}:(jM G n).has k↔n≤k:=⟨fun h=>h.elim id False.elim,.inl⟩
structure rM (B:nY) (w w':World):Prop where
 os:w'.os=w.os
 tape:w'.tape=w.tape
 output:w'.output=w.output
 size:w.heap.size≤w'.heap.size
 block:∀k,¬B.has k→w'.heap[k]?=w.heap[k]?
theorem rM.refl(B:nY)(w:World):rM B w w:=⟨rfl,rfl,rfl,Nat.le_refl _,fun _ _=>rfl⟩
theorem rM.trans{B:nY}{a b c:World}(h:rM B a b)(k:rM B b c):rM B a c :=
 ⟨k.os.trans h.os,k.tape.trans h.tape,k.output.trans h.output,Nat.le_trans h.size k.size,fun i hi=>(k.block i hi).trans (h.block i hi)⟩
theorem rM.of{B:nY}{w w':World}(h:RowKit.Below B.lo w w'):rM B w w':=⟨h.os,h.tape,h.output,h.size,fun k hk=>h.block k (Nat.lt_of_not_le fun q=>hk (.inl q))⟩
theorem rM.below{G:eJ}{n:Nat}{w w':World}(h:rM (jM G n) w w'):RowKit.Below n w w':=⟨h.os,h.tape,h.output,h.size,fun k hk=>h.block k fun q=>by have:=ng.1 q;omega⟩
theorem rM.drew{B:nY}{a w:World}(h:rM B a w):rM B a w.drew:=⟨h.os,h.tape,h.output,h.size,h.block⟩
theorem rM.alloc{B:nY}{a w:World}(h:rM B a w)(hB:B.lo≤w.heap.size)(o:Obj):rM B a (w.alloc o):=h.trans (.of ((RowKit.Below.refl _ _).alloc hB o))
structure bz (B:nY) (γ:Gh) (mem:Nat→Option bL) (w:World):Prop where
 base:B.lo≤w.heap.size
 boxes:∀b bx,mem b=some bx→cw γ mem w b bx
 inj:∀b c blk k k',mem b≠none→mem c≠none→γ.loc b=some (blk,k)→γ.loc c=some (blk,k')→b=c
 fresh:∀b blk k,mem b≠none→γ.loc b=some (blk,k)→B.has blk∧blk<w.heap.size
 qu:∀blk off,γ.I blk off→blk<w.heap.size
 sep:∀b bx blk k off,mem b=some bx→γ.loc b=some (blk,k)→γ.I blk off→Mh bx off
 aU:∀b Q,B.G b Q→¬B.has b∧∃o,w.heap[b]?=some o∧Q o
structure cG (B:nY) (N:Nat) (γ:Gh) (σ:St) (a:Act) (w:World):Prop where
 slots:∀t,b8 γ σ.mem w (σ.slots t) .val [a.tmps.getD t undef]
 size:a.tmps.size=N
 defers:a.defers=[]
 ok:bz B γ σ.mem w
structure Ext (B:nY) (γ:Gh) (mem:Nat→Option bL) (w:World) (γ':Gh) (mem':Nat→Option bL) (w':World):Prop where
 below:rM B w w'
 I:∀b o,γ.I b o→γ'.I b o
 nh:∀b o,γ'.I b o→γ.I b o∨B.has b
 cells:∀b o,γ.I b o→w'.cell? ⟨b,o,none⟩=w.cell? ⟨b,o,none⟩
 boxes:∀b bx,mem b=some bx→∃fJ,mem' b=some fJ∧bx.ax≤fJ.ax∧(fJ.ax=bx.ax→γ'.loc b=γ.loc b∧fJ.buf=bx.buf∧fJ.row=bx.row)
theorem bz.zY{B:nY}{γ γ':Gh}{mem mem':Nat→Option bL}{w w':World}(h:bz B γ mem w)(x:Ext B γ mem w γ' mem' w'):∀b Q,B.G b Q→¬B.has b∧∃o,w'.heap[b]?=some o∧Q o:=fun b Q g=>by
 obtain⟨i,o,c,q⟩:=h.aU b Q g
 exact⟨i,o,(x.below.block b i).trans c,q⟩
theorem bz.Is{B:nY}{γ:Gh}{mem:Nat→Option bL}{w:World}(h:bz B γ mem w):Bz B.G w:=fun b Q g=>(h.aU b Q g).2
theorem Ext.refl(B:nY)(γ:Gh)(mem:Nat→Option bL)(w:World):Ext B γ mem w γ mem w :=
 ⟨rM.refl _ _,fun _ _ h=>h,fun _ _ h=>.inl h,fun _ _ _=>rfl,fun b bx h=>⟨bx,h,Nat.le_refl _,fun _=>⟨rfl,rfl,rfl⟩⟩⟩
theorem Ext.trans{B:nY}{γ γ' SZ:Gh}{mem mem' Ua:Nat→Option bL}{w w' w'':World}(h:Ext B γ mem w γ' mem' w')(k:Ext B γ' mem' w' SZ Ua w'') :
  Ext B γ mem w SZ Ua w'' where
 below:=h.below.trans k.below
 I:=fun b o x=>k.I _ _ (h.I _ _ x)
 nh:=fun b o x=>by
  rcases k.nh b o x with y|y
  ·exact h.nh b o y
  ·exact .inr y
 cells:=fun b o x=>(k.cells _ _ (h.I _ _ x)).trans (h.cells _ _ x)
 boxes:=fun b bx x=>by
  obtain⟨fJ,h1,h2,h3⟩:=h.boxes b bx x
  obtain⟨V4,k1,k2,k3⟩:=k.boxes b fJ h1
  refine⟨V4,k1,Nat.le_trans h2 k2,fun e=>?_⟩
  have e1:fJ.ax=bx.ax:=by omega
  have e2:V4.ax=fJ.ax:=by omega
  obtain⟨a1,a2,a3⟩:=h3 e1
  obtain⟨b1,b2,b3⟩:=k3 e2
  exact⟨b1.trans a1,b2.trans a2,b3.trans a3⟩
theorem jX.ext{B:nY}{γ γ':Gh}{mem mem':Nat→Option bL}{w w':World}(h:Ext B γ mem w γ' mem' w'){b ax:Nat}{K K':bL→Prop}(ho:jX mem b ax K)
  (hk:∀bx fJ,mem b=some bx→mem' b=some fJ→γ'.loc b=γ.loc b→fJ.buf=bx.buf→fJ.row=bx.row→K bx→K' fJ):jX mem' b ax K':=by
 obtain⟨bx,h1,h2,h3⟩:=ho
 obtain⟨fJ,k1,k2,k3⟩:=h.boxes b bx h1
 refine⟨fJ,k1,Nat.le_trans h2 k2,fun e=>?_⟩
 have e1:bx.ax=ax:=by omega
 obtain⟨a1,a2,a3⟩:=k3 (by omega)
 exact hk bx fJ h1 k1 a1 a2 a3 (h3 e1)
theorem zX.ext{w w':World}{I I':Nat→Nat→Prop}(hI:∀b o,I b o→I' b o)(hw:∀b o,I b o→w'.cell? ⟨b,o,none⟩=w.cell? ⟨b,o,none⟩){blk off:Nat}{cs:List Value}
  (h:zX w I blk off cs):zX w' I' blk off cs :=
 fun j v hv=>by obtain⟨a,b⟩:=h j v hv;exact⟨by rw[hw _ _ b];exact a,hI _ _ b⟩
theorem b8.ext{B:nY}{γ γ':Gh}{mem mem':Nat→Option bL}{w w':World}(h:Ext B γ mem w γ' mem' w'):∀{v:aQ} {m:Mode} {vs:List Value},b8 γ mem w v m vs→b8 γ' mem' w' v m vs:=by
 intro v
 induction v with
 | undef=>intro m vs r;cases m<;>exact r
 | data t x =>
   intro m vs r
   cases m with
   | cells=>exact bE.mono h.I h.cells r
   | val=>obtain⟨cs,r1,r2⟩:=r;exact⟨cs,bE.mono h.I h.cells r1,r2⟩
   | many=>exact r
 | lz=>intro m vs r;cases m<;>exact r
 | oA=>intro m vs r;cases m<;>exact r
 | pN=>intro m vs r;cases m<;>exact r
 | sF b ax =>
   intro m vs r
   cases m with
   | many=>exact r
   | cells=>exact⟨r.1,r.2.ext h fun bx fJ _ _ hl _ _ k=>by rw[hl];exact k⟩
   | val=>exact⟨r.1,r.2.ext h fun bx fJ _ _ hl _ _ k=>by rw[hl];exact k⟩
 | cell t x =>
   intro m vs r
   cases m with
   | many=>exact r
   | cells=>obtain⟨blk,off,cs,r1,r2,r3⟩:=r;exact⟨blk,off,cs,r1,bE.mono h.I h.cells r2,r3.ext h.I h.cells⟩
   | val=>obtain⟨blk,off,cs,r1,r2,r3⟩:=r;exact⟨blk,off,cs,r1,bE.mono h.I h.cells r2,r3.ext h.I h.cells⟩
 | ptr b ax p =>
   intro m vs r
   cases m with
   | many=>exact r
   | cells=>exact⟨r.1,r.2.ext h fun bx fJ _ _ hl _ _ k=>by rw[hl];exact k⟩
   | val=>exact⟨r.1,r.2.ext h fun bx fJ _ _ hl _ _ k=>by rw[hl];exact k⟩
 | whole b ax =>
   intro m vs r
   cases m with
   | many=>exact r
   | cells=>exact⟨r.1,r.2.ext h fun bx fJ _ _ hl hb hr k=>by rw[hl,hb,hr];exact k⟩
   | val=>exact⟨r.1,r.2.ext h fun bx fJ _ _ hl hb hr k=>by rw[hl,hb,hr];exact k⟩
 | part b ax lo n =>
   intro m vs r
   cases m with
   | many=>exact r
   | cells=>exact⟨r.1,r.2.ext h fun bx fJ _ _ hl hb hr k=>by unfold zW at k⊢;rw[hl,hb,hr];exact k⟩
   | val=>exact⟨r.1,r.2.ext h fun bx fJ _ _ hl hb hr k=>by unfold zW at k⊢;rw[hl,hb,hr];exact k⟩
 | win b ax q e k lo n =>
   intro m vs r
   cases m with
   | many=>exact r
   | cells=>exact⟨r.1,r.2.ext h fun bx fJ _ _ hl _ _ k=>by rw[hl];exact k⟩
   | val=>exact⟨r.1,r.2.ext h fun bx fJ _ _ hl _ _ k=>by rw[hl];exact k⟩
 | fn f caps =>
   intro m vs r
   cases m with
   | many=>exact r
   | cells=>obtain⟨arr,r1,r2,r3⟩:=r;exact⟨arr,r1,r2,fun i b ax hc=>(r3 i b ax hc).ext h fun bx fJ _ _ hl _ _ k=>by rw[hl];exact k⟩
   | val=>obtain⟨arr,r1,r2,r3⟩:=r;exact⟨arr,r1,r2,fun i b ax hc=>(r3 i b ax hc).ext h fun bx fJ _ _ hl _ _ k=>by rw[hl];exact k⟩
 | mix a b iQ kX =>
   intro m vs r
   cases m with
   | cells=>obtain⟨c1,c2,r0,r1,r2⟩:=r;exact⟨c1,c2,r0,iQ r1,kX r2⟩
   | val=>obtain⟨c1,c2,r0,r1,r2⟩:=r;exact⟨c1,c2,r0,iQ r1,kX r2⟩
   | many=>obtain⟨c1,c2,r0,r1,r2⟩:=r;exact⟨c1,c2,r0,iQ r1,kX r2⟩
 | yT u ih =>
   intro m vs r
   cases m with
   | val=>obtain⟨arr,r1,r2⟩:=r;exact⟨arr,r1,ih r2⟩
   | cells=>exact r
   | many=>exact r
 | nl=>intro m vs r;cases m<;>exact r
end Go.Ge
