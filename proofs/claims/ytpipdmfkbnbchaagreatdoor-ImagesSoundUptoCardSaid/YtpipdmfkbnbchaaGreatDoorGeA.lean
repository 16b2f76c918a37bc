/- A ghost interpreter of the model's code, and that it tells the truth: part 1. It says of a function of plain data what a call of it comes to. -/
import Derived.WalkKit
namespace Go.Ge
set_option linter.unusedVariables false
inductive Ty where
 | int (k:IntKind)|bool|str|slice (e:Ty)|arr (n:Nat) (e:Ty)|pair (a b:Ty)|unit
 | alt (u:Nat) (a r:Ty)|AV
def Ty.den:Ty→Type
 | .int _=>Int
 | .bool=>Bool
 | .str=>List UInt8
 | .slice e=>List e.den
 | .arr _ e=>List e.den
 | .pair a b=>a.den×b.den
 | .unit=>Unit
 | .alt _ a r=>a.den⊕r.den
 | .AV=>Unit
def yA:IntKind→Nat
 | .i8=>0|.i16=>1|.i32=>2|.i64=>3|.u8=>4|.u16=>5|.u32=>6|.u64=>7
theorem wo{a b:IntKind}(h:Nat.beq (yA a) (yA b)=true):a=b:=by
 cases a<;>cases b<;>first|rfl|(exact absurd h (by decide))
def Ty.beq:Ty→Ty→Bool
 | .int k,.int k'=>Nat.beq (yA k) (yA k')
 | .bool,.bool=>true
 | .str,.str=>true
 | .slice e,.slice f=>Ty.beq e f
 | .arr n e,.arr m f=>Nat.beq n m&&Ty.beq e f
 | .pair a b,.pair c d=>Ty.beq a c&&Ty.beq b d
 | .unit,.unit=>true
 | .alt u a r,.alt v b s=>Nat.beq u v&&(Ty.beq a b&&Ty.beq r s)
 | .AV,.AV=>true
 | _,_=>false
theorem Ty.eq_of_beq:∀{a b:Ty},Ty.beq a b=true→a=b:=by
 intro a
 induction a with
 | int k=>intro b h;cases b<;>first|(exact congrArg _ (wo h))|(cases h)
 | bool=>intro b h;cases b<;>first|rfl|(cases h)
 | str=>intro b h;cases b<;>first|rfl|(cases h)
 | slice e ih=>intro b h;cases b<;>first|(exact congrArg _ (ih h))|(cases h)
 | arr n e ih =>
   intro b h
   cases b<;>first|(cases h;done)|skip
   simp only[Ty.beq,Bool.and_eq_true] at h
   rw[Nat.eq_of_beq_eq_true h.1,ih h.2]
 | pair a b jE nr =>
   intro c h
   cases c<;>first|(cases h;done)|skip
   simp only[Ty.beq,Bool.and_eq_true] at h
   rw[jE h.1,nr h.2]
 | unit=>intro b h;cases b<;>first|rfl|(cases h)
 | alt u a r jE ihr =>
   intro c h
   cases c<;>first|(cases h;done)|skip
   simp only[Ty.beq,Bool.and_eq_true] at h
   rw[Nat.eq_of_beq_eq_true h.1,jE h.2.1,ihr h.2.2]
 | AV=>intro b h;cases b<;>first|rfl|(cases h)
def Ty.to(t u:Ty)(x:t.den):Option u.den :=
 if h:Ty.beq t u=true then some ((Ty.eq_of_beq h)▸x) else none
theorem Ty.beq_refl(t:Ty):Ty.beq t t=true:=by
 induction t with
 | int k=>cases k<;>rfl
 | bool=>rfl
 | str=>rfl
 | slice e ih=>exact ih
 | arr n e ih=>simp[Ty.beq,ih]
 | pair a b jE nr=>simp[Ty.beq,jE,nr]
 | unit=>rfl
 | alt u a r jE ihr=>simp[Ty.beq,jE,ihr]
 | AV=>rfl
theorem Ty.jP{t u:Ty}{x:t.den}{y:u.den}(h:Ty.to t u x=some y):∃e:t=u,y=e▸x:=by
 unfold Ty.to at h
 split at h
 ·rename_i hb
  exact⟨Ty.eq_of_beq hb,by simpa using h.symm⟩
 ·cases h
def toL(t u:Ty)(l:List t.den):Option (List u.den) :=
 if h:Ty.beq t u=true then some ((Ty.eq_of_beq h)▸l) else none
theorem ku{t u:Ty}{l:List t.den}{m:List u.den}(h:toL t u l=some m):∃e:t=u,m=e▸l:=by
 unfold toL at h
 split at h
 ·rename_i hb
  exact⟨Ty.eq_of_beq hb,by simpa using h.symm⟩
 ·cases h
def Ty.size:Ty→Nat
 | .int _|.bool|.str|.slice _=>1
 | .arr n e=>n*e.size
 | .pair a b=>a.size+b.size
 | .unit=>0
 | .alt _ _ r=>r.size
 | .AV=>1
def Ty.isAgg:Ty→Bool
 | .arr ..|.pair ..|.unit=>true
 | .alt _ _ r=>r.isAgg
 | _=>false
def Ty.zero:(t:Ty)→t.den
 | .int _=>(0:Int)
 | .bool=>false
 | .str=>([]:List UInt8)
 | .slice _=>[]
 | .arr n e=>List.replicate n e.zero
 | .pair a b=>(a.zero,b.zero)
 | .unit=>()
 | .alt _ _ r=>.inr r.zero
 | .AV=>()
def aj{α:Type}(c:Bool)(x y:α):α:=bif c then x else y
def ah{α β:Type}(o:Option α)(f:α→Option β):Option β:=o.bind f
def nt(b:Bool):Bool:=!b
def an(a b:Bool):Bool:=a&&b
def oor(a b:Bool):Bool:=a||b
def bC(a b:Int):Bool:=decide (a=b)
def fB(a b:Nat):Bool:=Nat.beq a b
def aY(a b:Int):Bool:=decide (a<b)
def cO(a b:Int):Bool:=decide (a≤b)
def cc(a b:List UInt8):Bool:=decide (a=b)
def iD(a b:List UInt8):Bool:=Op.bytesLess a b
def eqL(a b:List Int):Bool:=decide (a=b)
def X1(a b:Bool):Bool:=a==b
def ep{S:Type}(o:Option (S⊕(Nat×S))):Option (S⊕S):=o.map fun r=>match r with|.inl x=>.inl x|.inr y=>.inr y.2
def aI(k:IntKind)(a b:Int):Int:=k.wrap (a+b)
def dO(k:IntKind)(a b:Int):Int:=k.wrap (a-b)
def lJ(k:IntKind)(a b:Int):Int:=k.wrap (a*b)
def GI(k:IntKind)(a b:Int):Int:=k.wrap (a.tdiv b)
def ij(a b:Int):Int:=a.tmod b
def qy(k:IntKind)(a:Int):Int:=k.wrap a
def jF(k:IntKind)(x y:Int):Int:=k.wrap (BitVec.ofInt k.bits x &&& BitVec.ofInt k.bits y).toNat
def CW(k:IntKind)(x y:Int):Int:=k.wrap (BitVec.ofInt k.bits x ||| BitVec.ofInt k.bits y).toNat
def eu(k:IntKind)(x y:Int):Int:=k.wrap (BitVec.ofInt k.bits x ^^^ BitVec.ofInt k.bits y).toNat
def Zz(k:IntKind)(x y:Int):Int:=k.wrap (BitVec.ofInt k.bits x &&& ~~~BitVec.ofInt k.bits y).toNat
def ZU(a b:Int):Int:=bif decide (b<a) then b else a
def imax(a b:Int):Int:=bif decide (a<b) then b else a
def yQ(k:IntKind)(a b:Int):Int:=k.wrap (a*2 ^ (min b.toNat k.bits))
def rN(k:IntKind)(a b:Int):Int:=a.fdiv (2 ^ (min b.toNat k.bits))
def plus(a b:Int):Int:=a+b
def minus(a b:Int):Int:=a-b
def len{α:Type}(l:List α):Int:=l.length
def app{α:Type}(l m:List α):List α:=l++m
def one{α:Type}(x:α):List α:=[x]
def idx{α:Type}(l:List α)(i:Int):Option α:=if 0≤i then l[i.toNat]? else none
def sX{α:Type}(l:List α)(i:Int)(x:α):List α:=l.set i.toNat x
def Ms{α:Type}(n:Int)(x:α):List α:=List.replicate n.toNat x
def sub{α:Type}(l:List α)(lo n:Int):List α:=(l.drop lo.toNat).take n.toNat
def kz{α:Type}(l:List α)(n:Int):List α:=l.take n.toNat
def over{α:Type}(l:List α)(lo:Int)(c:List α):List α:=l.take lo.toNat++c++l.drop (lo.toNat+c.length)
def pick{α β γ:Type}(f:α→γ)(g:β→γ)(x:α⊕β):γ:=match x with|.inl a=>f a|.inr b=>g b
def u8(b:UInt8):Int:=(b.toNat:Int)
def ax(s:List UInt8):List Int:=s.map fun b=>(b.toNat:Int)
def bz(l:List Int):List UInt8:=l.map fun n=>UInt8.ofNat n.toNat
def fits(n:Int):Bool:=decide (n≤4294967296)
def inside(a b n:Int):Bool:=decide (0≤a)&&decide (a≤b)&&decide (b≤n)
def within(i n:Int):Bool:=decide (0≤i)&&decide (i<n)
inductive Tree (α:Type):Type 1 where
 | ret (a:α)
 | fail
 | node (c:Bool) (t e:Tree α)
 | look {T:Type} (o:Option T) (k:T→Tree α)
namespace Tree
def bind{α β:Type}:Tree α→(α→Tree β)→Tree β
 | .ret a,f=>f a
 | .fail,_=>.fail
 | .node c t e,f=>.node c (t.bind f) (e.bind f)
 | .look o k,f=>.look o fun x=>(k x).bind f
def run{α:Type}:Tree α→Option α
 | .ret a=>some a
 | .fail=>none
 | .node c t e=>aj c t.run e.run
 | .look o k=>ah o fun x=>(k x).run
def join{T β:Type}(t:Tree T)(k:T→Tree β):Tree β :=
 match t with
 | .ret x=>k x
 | .node c (.ret x) (.ret y)=>k (aj c x y)
 | t=>.look t.run k
def need{α:Type}(c:Bool)(t:Tree α):Tree α:=.node c t .fail
def ZA{α:Type}:Option α→Tree α
 | some a=>.ret a
 | none=>.fail
end Tree
inductive FK where
 | fJ (k off:Nat)
 | idx (i:Int) (size:Nat)
inductive aS where
 | undef
 | data (t:Ty) (x:t.den)
 | nH
 | qB
 | rO
 | uS (b aC:Nat)
 | cell (t:Ty) (x:t.den)
 | ptr (b aC:Nat) (p:List FK)
 | whole (b aC:Nat)
 | part (b aC:Nat) (lo n:Int)
 | win (b aC:Nat) (q:List FK) (e:Ty) (k:Nat) (lo n:Int)
 | fn (f:Nat) (caps:List (Nat×Nat))
 | mix (a b:aS)
 | Ca (vs:aS)
 | nl
structure bU where
 val:aS
 tid:TypeId
 buf:Bool
 ro:Bool
 lk:Bool
 aC:Nat
structure St where
 slots:Nat→aS
 mem:Nat→Option bU
structure dG where
 A:Ty
 R:Ty
 spec:A.den→Option R.den
structure AW where
 ps:List Bool
 A:Ty
 U:Ty
 R:Ty
 spec:A.den×U.den→Option (R.den×U.den)
inductive nw where
 | dat (t:Ty)
 | buf (e:Ty) (eZ:Nat)
 | one
 | self
inductive Vz where
 | VH (T:Nat)
 | str (T E:Nat)
 | clone (e:Ty)
 | own (e A:Ty) (res:Bool) (spec:List e.den→A.den→Option (List e.den))
structure Ctx where
 T:List (Nat×Ty)
 sE:List Nat
 AX:List Nat
 fns:List (Nat×Func)
 cW:List (Nat×dG)
 bw:List (Nat×AW)
 sY:List (Nat×List nw)
 QX:List (Nat×Vz)
 els:List (Nat×Nat)
 inv:List (String×dG)
def Og{α:Type}:List (String×α)→String→Option α
 | [],_=>none
 | (i,a)::r,k=>bif decide (i=k) then some a else Og r k
def find{α:Type}:List (Nat×α)→Nat→Option α
 | [],_=>none
 | (i,a)::r,k=>bif Nat.beq i k then some a else find r k
def St.put(σ:St)(d:Nat)(v:aS):St:={ σ with slots:=fun t=>bif Nat.beq t d then v else σ.slots t }
def St.aU(σ:St)(d:Option Nat)(v:aS):St:=match d with|some d=>σ.put d v|none=>σ
def St.cr(σ:St)(b:Nat)(x:bU):St:={ σ with mem:=fun i=>bif Nat.beq i b then some x else σ.mem i }
def St.aO{β:Type}(σ:St)(b:Nat)(val:aS)(tid:TypeId)(buf:Bool)(k:Nat→St→Tree β):Tree β :=
 match σ.mem b with
 | some bx=>bif bx.lk then .fail else k (bx.aC+1) (σ.cr b { val,tid,buf,ro:=false,lk:=false,aC:=bx.aC+1 })
 | none=>k 0 (σ.cr b { val,tid,buf,ro:=false,lk:=false,aC:=0 })
def dJ:List Nat→Nat→Bool
 | [],_=>false
 | i::r,t=>Nat.beq t i||dJ r t
def HM:Value→aS
 | .int k n=>bif decide (k.min≤n)&&decide (n≤k.max) then .data (.int k) n else .undef
 | .bool b=>.data .bool b
 | .string s=>bif Nat.ble s.data.toList.length 4294967296 then .data .str s.data.toList else .undef
 | .pointer none=>.qB
 | .nilIface=>.rO
 | .slice none 0 0=>.nH
 | _=>.undef
def cJ(σ:St):Operand→aS
 | .tmp t=>σ.slots t
 | .const v=>HM v
 | .func f=>.fn f []
 | .global _=>.undef
def iQ:Ty→Nat→Option Nat
 | .pair _ _,0=>some 0
 | .pair a b,k+1=>(iQ b k).map (a.size+·)
 | _,_=>none
def eN:aS→Nat
 | .data t _=>t.size
 | .mix a b=>eN a+eN b
 | .nl=>0
 | _=>1
def oI:(t:Ty)→t.den→Nat→Option (Nat×aS)
 | .pair a _,x,0=>some (0,.data a x.1)
 | .pair a b,x,k+1=>match oI b x.2 k with|some r=>some (a.size+r.1,r.2)|none=>none
 | _,_,_=>none
def lN:aS→Nat→Option (Nat×aS)
 | .data t x,k=>oI t x k
 | .mix a _,0=>some (0,a)
 | .mix a b,k+1=>match lN b k with|some r=>some (eN a+r.1,r.2)|none=>none
 | _,_=>none
def T0(t:Ty):aS→Option t.den
 | .data u x=>Ty.to u t x
 | .nH=>match t with|.slice _=>some []|_=>none
 | _=>none
def toS(t:Ty):aS→Option t.den
 | .data u x=>Ty.to u t x
 | _=>none
def Hp:(t:Ty)→t.den→Nat→(aS→Tree aS)→Tree t.den
 | .pair a b,x,0,f=>(f (.data a x.1)).bind fun v=>match toS a v with
   | some y=>.ret (y,x.2)
   | none=>.fail
 | .pair a b,x,k+1,f=>(Hp b x.2 k f).bind fun y=>.ret (x.1,y)
 | _,_,_,_=>.fail
def EJ:aS→Nat→(aS→Tree aS)→Tree aS
 | .data t x,k,f=>(Hp t x k f).bind fun y=>.ret (.data t y)
 | .mix a b,0,f=>(f a).bind fun v=>.ret (.mix v b)
 | .mix a b,k+1,f=>(EJ b k f).bind fun v=>.ret (.mix a v)
 | _,_,_=>.fail
def VA:List FK→aS→Tree aS
 | [],v=>.ret v
 | .fJ k off::p,v=>match lN v k with
   | some (o,u)=>bif Nat.beq o off then VA p u else .fail
   | none=>.fail
 | .idx i size::p,v=>match v with
   | .data (.arr _ e) l=>bif Nat.beq size e.size then .look (idx (α:=e.den) l i) fun x=>VA p (.data e x) else .fail
   | _=>.fail
def T3(buf:Bool)(p:List FK)(v:aS):Tree aS :=
 match buf with
 | false=>VA p v
 | true=>match p,v with
   | .idx i size::p,.data (.slice e) l=>bif Nat.beq size e.size then .look (idx (α:=e.den) l i) fun x=>VA p (.data e x) else .fail
   | _,_=>.fail
def xy:List FK→aS→aS→Tree aS
 | [],_,u=>.ret u
 | .fJ k off::p,v,u=>EJ v k fun w=>xy p w u
 | .idx i size::p,v,u=>match v with
   | .data (.arr n e) l=>.look (idx (α:=e.den) l i) fun x=>(xy p (.data e x) u).bind fun w=>match toS e w with
     | some y=>.ret (.data (.arr n e) (sX (α:=e.den) l i y))
     | none=>.fail
   | _=>.fail
def Hq(buf:Bool)(p:List FK)(v u:aS):Tree aS :=
 match buf with
 | false=>xy p v u
 | true=>match p,v with
   | .idx i size::p,.data (.slice e) l=>.look (idx (α:=e.den) l i) fun x=>(xy p (.data e x) u).bind fun w=>match toS e w with
     | some y=>.ret (.data (.slice e) (sX (α:=e.den) l i y))
     | none=>.fail
   | _,_=>.fail
namespace Tree
theorem run_bind{α β:Type}(t:Tree α)(f:α→Tree β):(t.bind f).run=t.run.bind fun a=>(f a).run:=by
 induction t with
 | ret a=>rfl
 | fail=>rfl
 | node c t e HN ihe=>cases c<;>simp[bind,run,HN,ihe,aj]
 | look o k ih=>cases o<;>simp[bind,run,ih,ah]
theorem yT{T β:Type}(t:Tree T)(k:T→Tree β):(t.join k).run=t.run.bind fun a=>(k a).run:=by
 unfold join
 split
 ·rfl
 ·rename_i c x y;cases c<;>rfl
 ·rfl
end Tree
end Go.Ge
namespace Go.Ge
set_option linter.unusedVariables false
def tT:Ty→Nat→Option Ty
 | .pair a _,0=>some a
 | .pair _ b,k+1=>tT b k
 | _,_=>none
def Ty.flat:Ty→Bool
 | .slice _=>false
 | .arr _ e=>e.flat
 | .pair a b=>a.flat&&b.flat
 | .alt _ a r=>a.flat&&r.flat
 | _=>true
def bU.row(bx:bU):Option (Ty×Nat) :=
 match bx.buf,bx.val with
 | true,.data (.slice e) l=>some (e,List.length (α:=e.den) l)
 | false,.data (.arr n e) _=>some (e,n)
 | _,_=>none
def fV(e:Ty)(σ:St):aS→Option (List e.den)
 | .data (.slice u) l=>toL u e l
 | .nH=>some []
 | .whole b aC=>match σ.mem b with
   | some bx=>bif Nat.beq bx.aC aC&&bx.buf then(match bx.val with|.data (.slice u) l=>toL u e l|_=>none) else none
   | none=>none
 | .part b aC lo n=>match σ.mem b with
   | some bx=>bif Nat.beq bx.aC aC then(match bx.buf,bx.val with
     | true,.data (.slice u) l=>toL u e (sub (α:=u.den) l lo n)
     | false,.data (.arr _ u) l=>toL u e (sub (α:=u.den) l lo n)
     | _,_=>none) else none
   | none=>none
 | _=>none
def live(σ:St)(b aC:Nat):Bool:=match σ.mem b with|some bx=>Nat.beq bx.aC aC|none=>false
def qx(σ:St):(t:Ty)→aS→Option t.den
 | .slice e,v=>(fV e σ v:Option (List e.den))
 | .pair a b,v=>match v with
   | .data u x=>Ty.to u (.pair a b) x
   | .mix p q=>(match qx σ a p,qx σ b q with
     | some x,some y=>some (x,y)
     | _,_=>none)
   | _=>none
 | .alt n a r,v=>match v with
   | .data u x=>Ty.to u (.alt n a r) x
   | .rO=>match qx σ r .rO with
     | some x=>some (.inr x)
     | none=>none
   | _=>none
 | .AV,v=>match v with
   | .data u x=>Ty.to u .AV x
   | .rO=>some ()
   | _=>none
 | t,v=>match v with
   | .data u x=>Ty.to u t x
   | _=>none
def freeze(σ:St)(b:Nat):Option St :=
 match σ.mem b with
 | some bx=>bif bx.ro then some σ else bif bx.lk then none else some (σ.cr b { bx with ro:=true })
 | none=>none
def gb(σ:St):aS→Option St
 | .whole b _=>freeze σ b
 | .part b _ _ _=>freeze σ b
 | .mix v w=>match gb σ v with
   | some σ=>gb σ w
   | none=>none
 | _=>some σ
def yU(σ:St)(t:Ty)(v:aS):Option (t.den×St) :=
 match v with
 | .data u x=>match Ty.to u t x with|some y=>some (y,σ)|none=>none
 | v=>match qx σ t v,gb σ v with
   | some x,some σ=>some (x,σ)
   | _,_=>none
def gV(σ:St):(A:Ty)→List aS→Option A.den
 | .unit,[]=>some ()
 | .pair t r,v::vs=>match qx σ t v,gV σ r vs with
   | some x,some y=>some (x,y)
   | _,_=>none
 | _,_=>none
def jQ(σ:St):(A:Ty)→List aS→Option (A.den×St)
 | .unit,[]=>some ((),σ)
 | .pair t r,v::vs=>match yU σ t v with
   | some (x,σ)=>match jQ σ r vs with
     | some (y,σ)=>some ((x,y),σ)
     | none=>none
   | none=>none
 | _,_=>none
def yV:(R:Ty)→R.den→aS
 | .pair t r,x=>.mix (.data t x.1) (yV r x.2)
 | _,_=>.nl
def tU(R:Ty)(x:R.den):aS :=
 match R,x with
 | .pair t .unit,x=>.data t x.1
 | R,x=>.Ca (yV R x)
def nth:aS→Nat→Option aS
 | .mix a _,0=>some a
 | .mix _ b,k+1=>nth b k
 | _,_=>none
def bitsOf(op:BinOp)(k:IntKind)(x y:Int):Option Int :=
 match op with
 | .and=>some (jF k x y)
 | .or=>some (CW k x y)
 | .xor=>some (eu k x y)
 | .andNot=>some (Zz k x y)
 | _=>none
def Ty.eqv:(t:Ty)→t.den→t.den→Option Bool
 | .int _,x,y=>some (bC x y)
 | .bool,x,y=>some (X1 x y)
 | .str,x,y=>some (cc x y)
 | .pair a b,x,y=>match Ty.eqv a x.1 y.1,Ty.eqv b x.2 y.2 with
   | some p,some q=>some (an p q)
   | _,_=>none
 | .unit,_,_=>some true
 | .arr _ e,x,y=>match e,x,y with
   | .int _,x,y=>some (eqL x y)
   | _,_,_=>none
 | _,_,_=>none
def Ty.CX:Ty→Nat
 | .pair a b=>a.CX+b.CX+1
 | .arr _ e=>e.CX+1
 | _=>1
def QY(op:BinOp)(k:IntKind)(a b:Int):Tree aS :=
 match op with
 | .add=>.ret (.data (.int k) (aI k a b))
 | .sub=>.ret (.data (.int k) (dO k a b))
 | .mul=>.ret (.data (.int k) (lJ k a b))
 | .quo=>.node (bC b 0) .fail (.ret (.data (.int k) (GI k a b)))
 | .rem=>.node (bC b 0) .fail (.ret (.data (.int k) (ij a b)))
 | .eql=>.ret (.data .bool (bC a b))
 | .neq=>.ret (.data .bool (nt (bC a b)))
 | .lss=>.ret (.data .bool (aY a b))
 | .leq=>.ret (.data .bool (cO a b))
 | .gtr=>.ret (.data .bool (aY b a))
 | .geq=>.ret (.data .bool (cO b a))
 | op=>match bitsOf op k a b with
   | some c=>.ret (.data (.int k) c)
   | none=>.fail
def QZ(op:BinOp)(x y:List UInt8):Tree aS :=
 match op with
 | .add=>.need (fits (plus (len x) (len y))) (.ret (.data .str (app x y)))
 | .eql=>.ret (.data .bool (cc x y))
 | .neq=>.ret (.data .bool (nt (cc x y)))
 | .lss=>.ret (.data .bool (iD x y))
 | .leq=>.ret (.data .bool (oor (iD x y) (cc x y)))
 | .gtr=>.ret (.data .bool (nt (oor (iD x y) (cc x y))))
 | .geq=>.ret (.data .bool (nt (iD x y)))
 | _=>.fail
def isEq:BinOp→Option Bool
 | .eql=>some true
 | .neq=>some false
 | _=>none
def CY:BinOp→Option Bool
 | .shl=>some true
 | .shr=>some false
 | _=>none
def EK(o:Option Ty)(t:Ty):Bool:=match o with|some u=>Ty.beq u t|none=>false
def bin(tt:Option Ty)(pt:Bool)(op:BinOp)(x y:aS):Tree aS :=
 match x,y with
 | .data (.int k) a,.data (.int k') b =>
   match CY op with
   | some left=>.node (aY b 0) .fail (.ret (.data (.int k) (bif left then yQ k a b else rN k a b)))
   | none=>bif Nat.beq (yA k) (yA k') then QY op k a b else .fail
 | .data .str a,.data .str b=>QZ op a b
 | .data .bool a,.data .bool b=>bif EK tt .bool then(match isEq op with
   | some true=>.ret (.data .bool (X1 a b))
   | some false=>.ret (.data .bool (nt (X1 a b)))
   | none=>.fail) else .fail
 | .data (.pair a b) x,.data t y=>bif EK tt (.pair a b)&&Nat.ble (Ty.pair a b).CX 9000 then(match Ty.to t (.pair a b) y,isEq op with
   | some y,some e=>match Ty.eqv (.pair a b) x y with
     | some c=>.ret (.data .bool (bif e then c else nt c))
     | none=>.fail
   | _,_=>.fail) else .fail
 | .data (.arr n e) x,.data t y=>bif EK tt (.arr n e)&&Nat.ble (Ty.arr n e).CX 9000 then(match Ty.to t (.arr n e) y,isEq op with
   | some y,some q=>match Ty.eqv (.arr n e) x y with
     | some c=>.ret (.data .bool (bif q then c else nt c))
     | none=>.fail
   | _,_=>.fail) else .fail
 | .qB,.qB=>match pt,isEq op with|true,some e=>.ret (.data .bool e)|_,_=>.fail
 | _,_=>.fail
def VI(σ:St)(tt:Option Ty)(pt:Bool)(op:BinOp)(x y:aS):Tree aS :=
 match x,y with
 | .ptr b aC _,.qB=>bif live σ b aC&&pt then(match isEq op with|some e=>.ret (.data .bool (!e))|none=>.fail) else .fail
 | .qB,.ptr b aC _=>bif live σ b aC&&pt then(match isEq op with|some e=>.ret (.data .bool (!e))|none=>.fail) else .fail
 | x,y=>bin tt pt op x y
def Mt(least:Bool)(x y:aS):Tree aS :=
 match x,y with
 | .data (.int k) a,.data (.int k') b=>bif Nat.beq (yA k) (yA k') then .ret (.data (.int k) (bif least then ZU a b else imax a b)) else .fail
 | _,_=>.fail
def un(op:UnOp)(x:aS):Tree aS :=
 match op,x with
 | .not,.data .bool b=>.ret (.data .bool (nt b))
 | .neg,.data (.int k) n=>.ret (.data (.int k) (dO k 0 n))
 | .xor,.data (.int k) n=>.ret (.data (.int k) (eu k (bif k.signed then -1 else k.max) n))
 | _,_=>.fail
def HO:(t:Ty)→t.den→Nat→(u:Ty)→u.den→Option t.den
 | .pair a b,x,0,u,y=>match Ty.to u a y with|some y=>some (y,x.2)|none=>none
 | .pair a b,x,k+1,u,y=>match HO b x.2 k u y with|some z=>some (x.1,z)|none=>none
 | _,_,_,_,_=>none
def fW(σ:St)(t:Ty)(x:t.den):List (Nat×Operand)→Option (t.den×St)
 | []=>some (x,σ)
 | (k,o)::r=>match tT t k with
   | some u=>match yU σ u (cJ σ o) with
     | some (y,σ)=>match HO t x k u y with
       | some x=>fW σ t x r
       | none=>none
     | none=>none
   | none=>none
def fK(σ:St)(e:Ty)(l:List e.den):List (Nat×Operand)→Option (List e.den×St)
 | []=>some (l,σ)
 | (k,o)::r=>match yU σ e (cJ σ o) with
   | some (y,σ)=>bif Nat.blt k l.length then fK σ e (l.set k y) r else none
   | none=>none
def lenOf(σ:St):aS→Option Int
 | .data .str s=>some (len (α:=UInt8) s)
 | .data (.slice e) l=>some (len (α:=e.den) l)
 | .data (.arr n _) _=>bif Nat.ble n 4294967296 then some n else none
 | .nH=>some 0
 | .whole b aC=>match σ.mem b with
   | some bx=>bif Nat.beq bx.aC aC&&bx.buf then(match bx.val with|.data (.slice u) l=>some (len (α:=u.den) l)|_=>none) else none
   | none=>none
 | .part b aC _ n=>bif live σ b aC then some n else none
 | _=>none
def Th(o:Option Ty):aS→Bool
 | .data .str _=>EK o .str
 | .data (.slice e) _=>EK o (.slice e)
 | .data (.arr n e) _=>EK o (.arr n e)
 | .nH|.whole ..|.part ..=>match o with|some (.slice _)=>true|_=>false
 | _=>false
def bounds(σ:St)(n:Int)(lo hi:Option Operand):Option (Int×Int) :=
 match lo,hi with
 | none,none=>some (0,n)
 | some a,none=>match cJ σ a with|.data (.int _) x=>some (x,n)|_=>none
 | none,some b=>match cJ σ b with|.data (.int _) y=>some (0,y)|_=>none
 | some a,some b=>match cJ σ a,cJ σ b with|.data (.int _) x,.data (.int _) y=>some (x,y)|_,_=>none
def isRef:aS→Bool
 | .ptr ..|.whole ..|.part ..|.fn ..|.qB|.rO|.uS ..|.mix ..|.cell ..|.nH=>true
 | _=>false
section
variable (cx:Ctx) (nb:Nat) (bf:List Nat) (inl:Nat→List aS→St→Tree (aS×St))
def iR(d:Option Nat)(ty:TypeId)(v:aS)(σ:St):Tree St :=
 match v with
 | .undef=>bif dJ cx.sE ty then .ret (σ.aU d .undef) else .fail
 | .nH=>match d,find cx.T ty with
   | some d,some (.slice e)=>bif dJ bf d then σ.aO (nb+d) (.data (.slice e) []) 0 true fun aC σ=>.ret (σ.put d (.whole (nb+d) aC))
     else .ret (σ.put d (.data (.slice e) []))
   | _,_=>.ret (σ.aU d .nH)
 | v=>.ret (σ.aU d v)
def nI(d:Option Nat)(c a b:aS)(σ:St):Tree St :=
 match c with
 | .data .bool c=>match a,b with
   | .data t x,.data u y=>match Ty.to u t y with
     | some y=>.ret (σ.aU d (.data t (aj c x y)))
     | none=>.fail
   | a,b=>.node c (.ret (σ.aU d a)) (.ret (σ.aU d b))
 | _=>.fail
def EL(ty:TypeId):aS→Bool
 | .data u _=>EK (find cx.T ty) u
 | .whole ..=>match find cx.T ty with|some (.slice _)=>true|_=>false
 | .ptr ..|.qB|.fn ..=>dJ cx.sE ty
 | _=>false
def kC(d:Option Nat)(ty:TypeId)(a:aS)(σ:St):Tree St :=
 match a with
 | .cell u x=>bif EK (find cx.T ty) u then .ret (σ.aU d (.data u x)) else .fail
 | .ptr b aC p=>match σ.mem b with
   | some bx=>bif Nat.beq bx.aC aC then(T3 bx.buf p bx.val).bind fun v=>bif EL cx ty v then .ret (σ.aU d v) else .fail else .fail
   | none=>.fail
 | _=>.fail
def storeAt(b aC:Nat)(p:List FK)(fit:aS→Bool)(v:aS)(σ:St):Tree St :=
 match σ.mem b with
 | some bx=>bif Nat.beq bx.aC aC&&!bx.lk&&!bx.ro then
    (T3 bx.buf p bx.val).bind fun old=>bif fit old then(Hq bx.buf p bx.val v).bind fun c=>.ret (σ.cr b { bx with val:=c }) else .fail
   else .fail
 | none=>.fail
def ZV(u:Ty):aS→Bool
 | .data t _=>Ty.beq t u
 | _=>false
def Ti:aS→Bool
 | .undef=>true
 | _=>false
def kO(ty:TypeId)(a v:aS)(σ:St):Tree St :=
 match a with
 | .ptr b aC p=>match σ.mem b with
   | some bx=>bif Nat.beq bx.aC aC then(T3 bx.buf p bx.val).bind fun old=>match old with
      | .data u _=>bif EK (find cx.T ty) u then(match yU σ u v with
       | some (y,σ)=>storeAt b aC p (ZV u) (.data u y) σ
       | none=>.fail) else .fail
      | _=>bif EL cx ty v&&isRef v then storeAt b aC p (fun old=>(EL cx ty old&&isRef old)||Ti old) v σ else .fail
     else .fail
   | none=>.fail
 | _=>.fail
def kP(d:Option Nat)(ty:TypeId)(x:aS)(lo hi:Option Operand)(σ:St):Tree St :=
 match find cx.T ty,x with
 | some .str,.data .str s=>match bounds σ (len (α:=UInt8) s) lo hi with
   | some (a,b)=>.need (inside a b (len (α:=UInt8) s)) (.ret (σ.aU d (.data .str (sub (α:=UInt8) s a (minus b a)))))
   | none=>.fail
 | some (.slice u),.data (.slice e) l=>bif Ty.beq u e then(match bounds σ (len (α:=e.den) l) lo hi with
   | some (a,b)=>.need (inside a b (len (α:=e.den) l)) (.ret (σ.aU d (.data (.slice e) (sub (α:=e.den) l a (minus b a)))))
   | none=>.fail) else .fail
 | some (.slice u),.part c aC l n=>match σ.mem c with
   | some bx=>bif Nat.beq bx.aC aC&&(match bx.row with|some (e,_)=>Ty.beq u e|none=>false) then(match bounds σ n lo hi with
     | some (a,b)=>.need (inside a b n) (.ret (σ.aU d (.part c aC (plus l a) (minus b a))))
     | none=>.fail) else .fail
   | none=>.fail
 | some (.slice u),.whole c aC=>match σ.mem c with
   | some bx=>bif Nat.beq bx.aC aC&&bx.buf then(match bx.val with
     | .data (.slice e) l=>bif Ty.beq u e then(match lo,hi with
       | none,none=>.ret (σ.aU d (.whole c aC))
       | lo,hi=>match bounds σ (len (α:=e.den) l) lo hi with
         | some (a,b)=>.need (inside a b (len (α:=e.den) l)) (.ret (σ.aU d (.part c aC a (minus b a))))
         | none=>.fail) else .fail
     | _=>.fail) else .fail
   | none=>.fail
 | some (.arr m u),.ptr c aC (s::q)=>bif live σ c aC&&Nat.ble m 4294967296 then(match bounds σ m lo hi with
   | some (a,b)=>.need (inside a b m) (.ret (σ.aU d (.win c aC (s::q) u m a (minus b a))))
   | none=>.fail) else .fail
 | some (.arr m u),.ptr c aC []=>match σ.mem c with
   | some bx=>bif Nat.beq bx.aC aC&&!bx.buf then(match bx.val with
     | .data (.arr n e) _=>bif Nat.beq m n&&Ty.beq u e&&Nat.ble n 4294967296 then(match bounds σ n lo hi with
       | some (a,b)=>.need (inside a b n) (.ret (σ.aU d (.part c aC a (minus b a))))
       | none=>.fail) else .fail
     | _=>.fail) else .fail
   | none=>.fail
 | _,_=>.fail
def xz(σ:St)(b aC:Nat):Option (Ty×Int):=match σ.mem b with
 | some bx=>bif Nat.beq bx.aC aC then(match bx.buf,bx.val with
   | true,.data (.slice e) l=>some (e,len (α:=e.den) l)
   | false,.data (.arr n e) _=>some (e,n)
   | _,_=>none) else none
 | none=>none
def Oh(ty:TypeId):Option Nat :=
 match find cx.T ty with
 | some _=>none
 | none=>match find cx.els ty with
   | some e=>bif dJ cx.sE e then some e else none
   | none=>none
def HP(d:Option Nat)(b aC:Nat)(σ:St)(i:Int):Nat→Nat→Tree St
 | 0,_=>.fail
 | m+1,k=>.node (bC i k) (.ret (σ.aU d (.ptr b aC [.fJ k k]))) (HP d b aC σ i m (k+1))
def Mu:List FK→Bool
 | [.fJ _ off]=>Nat.beq off 0
 | _=>false
def eL(d:Option Nat)(ty:TypeId)(x:aS)(i:Int)(σ:St):Tree St :=
 match find cx.T ty,x with
 | some (.slice u),.data (.slice e) l=>bif Ty.beq u e then .look (idx (l:List e.den) i) fun y=>.ret (σ.aU d (.cell e y)) else .fail
 | some (.arr m u),.cell (.arr n e) l=>bif Ty.beq u e&&Nat.beq m n then .look (idx (l:List e.den) i) fun y=>.ret (σ.aU d (.cell e y)) else .fail
 | some (.slice u),.whole b aC=>match xz σ b aC with
   | some (e,n)=>bif Ty.beq u e then .need (within i n) (.ret (σ.aU d (.ptr b aC [.idx i e.size]))) else .fail
   | none=>.fail
 | some (.slice u),.part b aC lo n=>match xz σ b aC with
   | some (e,_)=>bif Ty.beq u e then .need (within i n) (.ret (σ.aU d (.ptr b aC [.idx (plus lo i) e.size]))) else .fail
   | none=>.fail
 | some (.arr m u),.ptr b aC p=>bif live σ b aC then .need (within i m) (.ret (σ.aU d (.ptr b aC (p++[.idx i u.size])))) else .fail
 | none,.win b aC q _ _ lo n=>match Oh cx ty with
   | some _=>bif Mu q&&decide (lo=0)&&live σ b aC then HP d b aC σ i n.toNat 0 else .fail
   | none=>.fail
 | _,_=>.fail
def kQ(d:Option Nat)(ty:TypeId)(x:aS)(i:Int)(σ:St):Tree St :=
 match find cx.T ty,x with
 | some .str,.data .str s=>.look (idx (s:List UInt8) i) fun b=>.ret (σ.aU d (.data (.int .u8) (u8 b)))
 | some (.arr m u),.data (.arr n e) l=>bif Ty.beq u e&&Nat.beq m n then .look (idx (l:List e.den) i) fun y=>.ret (σ.aU d (.data e y)) else .fail
 | _,_=>.fail
def nw.size:nw→Nat
 | .dat t=>t.size
 | _=>1
def xA:List nw→Nat→Option Nat
 | [],_=>none
 | _::_,0=>some 0
 | f::r,k+1=>match xA r k with|some o=>some (f.size+o)|none=>none
def eM(d:Option Nat)(s:TypeId)(x:aS)(k:Nat)(σ:St):Tree St :=
 match x with
 | .cell u y=>bif EK (find cx.T s) u then(match lN (.data u y) k with
   | some (_,.data t z)=>.ret (σ.aU d (.cell t z))
   | _=>.fail) else .fail
 | .ptr b aC p=>bif live σ b aC then(match find cx.T s with
   | some t=>match iQ t k,tT t k with
     | some off,some _=>.ret (σ.aU d (.ptr b aC (p++[.fJ k off])))
     | _,_=>.fail
   | none=>match find cx.sY s with
     | some fs=>match xA fs k with
       | some off=>.ret (σ.aU d (.ptr b aC (p++[.fJ k off])))
       | none=>.fail
     | none=>.fail) else .fail
 | _=>.fail
def gq(d:Option Nat)(src dst:TypeId)(x:aS)(σ:St):Tree St :=
 match find cx.T src,find cx.T dst,x with
 | some (.int _),some (.int k),.data (.int _) n=>.ret (σ.aU d (.data (.int k) (qy k n)))
 | some .str,some .str,.data .str s=>.ret (σ.aU d (.data .str s))
 | some .str,some (.slice (.int .u8)),.data .str s=>match d with
   | some d=>.need (fits (len (α:=UInt8) s)) (σ.aO (nb+d) (.data (.slice (.int .u8)) (ax s)) 0 true fun aC σ=>.ret (σ.put d (.whole (nb+d) aC)))
   | none=>.fail
 | some (.slice (.int .u8)),some .str,x=>match fV (.int .u8) σ x with
   | some l=>.ret (σ.aU d (.data .str (bz l)))
   | none=>.fail
 | _,_,_=>.fail
def tV(e:Ty)(σ:St)(x:aS):Option (List e.den):=match x with
 | .data .str t=>toL (.int .u8) e (ax t)
 | x=>fV e σ x
def ZW(ty t:Nat):Bool:=Nat.beq t 0||(match find cx.els ty with|some e=>Nat.beq e t|none=>false)
def gJ(d:Option Nat)(ty:TypeId)(s x:aS)(σ:St):Tree St :=
 match d,find cx.T ty with
 | some d,some (.slice e) =>
   match tV e σ x with
   | some m=>match s with
     | .nH=>.need (fits (len (α:=e.den) m)) (σ.aO (nb+d) (.data (.slice e) m) 0 true fun aC σ=>.ret (σ.put d (.whole (nb+d) aC)))
     | .whole b aC=>match σ.mem b,fV e σ (.whole b aC) with
       | some bx,some l=>bif bx.lk||!ZW cx ty bx.tid then .fail else
         .need (fits (plus (len (α:=e.den) l) (len (α:=e.den) m))) (.ret ((σ.cr b { bx with val:=.data (.slice e) (app (α:=e.den) l m),aC:=aC+1 }).put d (.whole b (aC+1))))
       | _,_=>.fail
     | _=>.fail
   | none=>.fail
 | _,_=>.fail
def jh(e:Ty)(m:List e.den)(b aC:Nat)(q:List FK)(VH:Nat→Ty→Bool)(lo:Int)(σ:St):Tree St :=
 match σ.mem b with
 | some bx=>bif Nat.beq bx.aC aC&&!bx.lk&&!bx.ro then
    (match bx.buf with
    | true=>match q,bx.val with
      | [],.data (.slice u) l=>match toL e u m with
        | some m=>.ret (σ.cr b { bx with val:=.data (.slice u) (over (α:=u.den) l lo m) })
        | none=>.fail
      | _,_=>.fail
    | false=>(VA q bx.val).bind fun old=>match old with
      | .data (.arr k u) l=>bif VH k u then(match toL e u m with
        | some m=>(xy q bx.val (.data (.arr k u) (over (α:=u.den) l lo m))).bind fun c=>.ret (σ.cr b { bx with val:=c })
        | none=>.fail) else .fail
      | _=>.fail)
   else .fail
 | none=>.fail
def EM(e:Ty)(m:Int→List e.den)(t:aS)(σ:St):Tree (Int×St) :=
 match t with
 | .part b aC lo n=>(jh e (m n) b aC [] (fun _ _=>true) lo σ).bind fun σ=>.ret (n,σ)
 | .whole b aC=>match lenOf σ t with|some n=>(jh e (m n) b aC [] (fun _ _=>true) 0 σ).bind fun σ=>.ret (n,σ)|none=>.fail
 | .win b aC q u k lo n=>(jh e (m n) b aC q (fun k' u'=>Nat.beq k k'&&Ty.beq u u') lo σ).bind fun σ=>.ret (n,σ)
 | _=>.fail
def wq(d:Option Nat)(ty:TypeId)(t x:aS)(σ:St):Tree St :=
 match find cx.T ty with
 | some (.slice e)=>match tV e σ x with
   | none=>.fail
   | some m=>(EM e (fun n=>kz (α:=e.den) m n) t σ).bind fun r=>.ret (r.2.aU d (.data (.int .i64) (len (kz (α:=e.den) m r.1))))
 | _=>.fail
def wu(ty:TypeId)(t:aS)(σ:St):Tree St :=
 match find cx.T ty with
 | some (.slice e)=>(EM e (fun n=>Ms n e.zero) t σ).bind fun r=>.ret r.2
 | _=>.fail
def pH:(U:Ty)→U.den→List Nat→Nat→Option aS
 | .pair t U,u,ns,c=>match ns with
   | b::ns=>bif Nat.beq c b then some (.data t u.1) else pH U u.2 ns c
   | []=>none
 | _,_,_,_=>none
def sZ(U:Ty)(u:U.den)(ns:List Nat)(σ:St):St :=
 { σ with mem:=fun c=>match pH U u ns c with
  | some v=>(match σ.mem c with|some bx=>some { bx with val:=v }|none=>none)
  | none=>σ.mem c }
def qQ(σ:St):List Bool→(A U:Ty)→List aS→Option (A.den×U.den×List Nat)
 | [],A,U,vs=>match A,U,vs with
   | .unit,.unit,[]=>some ((),(),[])
   | _,_,_=>none
 | false::ps,A,U,vs=>match A,vs with
   | .pair t A,v::vs=>match T0 t v,qQ σ ps A U vs with
     | some x,some (y,u,ns)=>some ((x,y),u,ns)
     | _,_=>none
   | _,_=>none
 | true::ps,A,U,vs=>match U,vs with
   | .pair t U,.ptr b aC []::vs=>match σ.mem b with
     | some bx=>bif Nat.beq bx.aC aC&&!bx.buf&&!bx.lk&&!bx.ro&&Nat.beq bx.tid 0 then(match toS t bx.val,qQ σ ps A U vs with
       | some x,some (y,u,ns)=>bif dJ ns b then none else some (y,(x,u),b::ns)
       | _,_=>none) else none
     | none=>none
   | _,_=>none
def Hr:aS→Bool
 | .whole ..=>true
 | _=>false
def Av(s:Vz)(d:Option Nat)(args:List aS)(σ:St):Tree St :=
 match s,args with
 | .VH T,[.ptr b aC []]=>match σ.mem b with
   | some bx=>match bx.val with
     | .mix (.uS b' v') (.mix u (.data .unit _))=>bif Nat.beq bx.aC aC&&!bx.buf&&!bx.lk&&!bx.ro&&Nat.beq bx.tid T&&Nat.blt 0 T&&Nat.beq b' b&&Nat.beq v' aC&&Hr u then .ret (σ.aU d (.Ca .nl)) else .fail
     | _=>.fail
   | none=>.fail
 | .str T E,[.ptr b aC []]=>match σ.mem b with
   | some bx=>match bx.val with
     | .mix (.uS _ _) (.mix (.whole h hv) (.data .unit _))=>bif Nat.beq bx.aC aC&&!bx.buf&&Nat.beq bx.tid T&&Nat.blt 0 T&&!Nat.beq h b then(match σ.mem h with
       | some hx=>bif Nat.beq hx.aC hv&&hx.buf&&!hx.lk&&Nat.beq hx.tid E&&Nat.blt 0 E then(match hx.val with
         | .data (.slice (.int .u8)) l=>.ret ((σ.cr h { hx with val:=.data (.slice (.int .u8)) [],aC:=hx.aC+1 }).aU d (.data .str (bz l)))
         | _=>.fail) else .fail
       | none=>.fail) else .fail
     | _=>.fail
   | none=>.fail
 | _,_=>.fail
def Oi(d:Option Nat):Option Nat:=match d with|some d=>bif dJ bf d then some d else none|none=>none
def kR(e:Ty)(d:Option Nat)(args:List aS)(σ:St):Tree St :=
 match d,args with
 | some d,[x]=>match yU σ (.slice e) x with
   | some (l,σ)=>bif Nat.blt 0 e.size then .need (fits (len (α:=e.den) l)) (σ.aO (nb+d) (.data (.slice e) l) 0 true fun aC σ=>.ret (σ.put d (.whole (nb+d) aC))) else .fail
   | none=>.fail
 | _,_=>.fail
def xB(e:Ty)(σ:St):aS→Option (Nat×Nat×bU×List e.den)
 | .whole b aC=>match σ.mem b with
   | some bx=>bif Nat.beq bx.aC aC&&bx.buf&&!bx.lk&&!bx.ro&&Nat.beq bx.tid 0 then(match bx.val with
     | .data (.slice u) l=>(match toL u e l with|some l=>some (b,aC,bx,l)|none=>none)
     | _=>none) else none
   | none=>none
 | .part b aC lo n=>match σ.mem b with
   | some bx=>bif Nat.beq bx.aC aC&&bx.buf&&!bx.lk&&!bx.ro&&Nat.beq bx.tid 0&&decide (lo=0) then(match bx.val with
     | .data (.slice u) l=>(match toL u e l with|some l=>some (b,aC,bx,sub (α:=e.den) l lo n)|none=>none)
     | _=>none) else none
   | none=>none
 | _=>none
def qR(e A:Ty)(res:Bool)(spec:List e.den→A.den→Option (List e.den))(d:Option Nat)(args:List aS)(σ:St):Tree St :=
 match args with
 | v::vs=>match jQ σ A vs with
   | some (x,σ)=>match xB e σ v with
     | some (b,aC,bx,l)=>.look (spec l x) fun l'=>match res,d with
       | true,some d=>.ret ((σ.cr b { bx with val:=.data (.slice e) l',aC:=aC+1 }).put d (.whole b (aC+1)))
       | false,d=>bif Hr v then .ret ((σ.cr b { bx with val:=.data (.slice e) l' }).aU d (.Ca .nl)) else .fail
       | _,_=>.fail
     | none=>.fail
   | none=>.fail
 | []=>.fail
def vz(d:Option Nat)(f:Nat):Option Vz :=
 match find cx.QX f with
 | some (.clone e)=>match Oi bf d with|some _=>some (.clone e)|none=>none
 | some (.own e A r s)=>some (.own e A r s)
 | _=>none
def vA(d:Option Nat)(f:Nat)(args:List aS)(σ:St):Tree St :=
 match find cx.cW f with
 | some c=>match c.R.flat with
   | true=>match gV σ c.A args with
     | some x=>.look (c.spec x) fun y=>.ret (σ.aU d (tU c.R y))
     | none=>.fail
   | false=>match jQ σ c.A args with
     | some (x,σ)=>.look (c.spec x) fun y=>.ret (σ.aU d (tU c.R y))
     | none=>.fail
 | none=>match find cx.QX f with
  | some s=>Av s d args σ
  | none=>match find cx.bw f with
   | some c=>(match qQ σ c.ps c.A c.U args with
     | some (x,u,ns)=>.look (c.spec (x,u)) fun y=>.ret ((sZ c.U y.2 ns σ).aU d (tU c.R y.1))
     | none=>(inl f args σ).bind fun r=>.ret (r.2.aU d r.1))
   | none=>(inl f args σ).bind fun r=>.ret (r.2.aU d r.1)
def s7(d:Option Nat)(f:Nat)(args:List aS)(σ:St):Tree St :=
 match vz cx bf d f with
 | some (.clone e)=>kR nb e d args σ
 | some (.own e A r s)=>qR e A r s d args σ
 | _=>vA cx inl d f args σ
def Oj:(t:Ty)→(u:Nat)→Option ((a:Ty)×(a.den→t.den))
 | .alt n a r,u=>bif Nat.beq n u then some ⟨a,.inl⟩ else match Oj r u with
   | some ⟨b,f⟩=>some ⟨b,fun x=>.inr (f x)⟩
   | none=>none
 | _,_=>none
def qC(d:Option Nat)(ty u:TypeId)(x:aS)(σ:St):Tree St :=
 match find cx.T ty with
 | some t=>match Oj t u with
   | some ⟨a,f⟩=>match yU σ a x with
     | some (y,σ)=>.ret (σ.aU d (.data t (f y)))
     | none=>.fail
   | none=>.fail
 | none=>.fail
def qD(d:Option Nat)(name:String)(args:List aS)(σ:St):Tree St :=
 match Og cx.inv name with
 | some c=>match jQ σ c.A args with
   | some (x,σ)=>.look (c.spec x) fun y=>.ret (σ.aU d (tU c.R y))
   | none=>.fail
 | none=>.fail
def tW(d:Option Nat)(ty:TypeId)(c:Call)(σ:St):Tree St :=
 match c.callee with
 | .builtin b=>match b,c.args.toList.map (cJ σ),c.argTypes.toList with
   | .len,[x],[t]=>bif Th (find cx.T t) x then(match lenOf σ x with
     | some n=>.ret (σ.aU d (.data (.int .i64) n))
     | none=>.fail) else(match Oh cx t,x with
     | some _,.win b aC _ _ _ _ n=>bif live σ b aC&&decide (n≤64) then .ret (σ.aU d (.data (.int .i64) n)) else .fail
     | _,_=>.fail)
   | .append,[s,x],[t,u]=>match find cx.T u with
     | some .str|some (.slice _)=>gJ cx nb d t s x σ
     | _=>.fail
   | .copy,[t,x],[tt,tx]=>match find cx.T tx with
     | some .str|some (.slice _)=>wq cx d tt t x σ
     | _=>.fail
   | .clear,[t],[tt]=>match d with|none=>wu cx tt t σ|some _=>.fail
   | .min,[x,y],_=>Mt true x y |>.bind fun v=>.ret (σ.aU d v)
   | .max,[x,y],_=>Mt false x y |>.bind fun v=>.ret (σ.aU d v)
   | _,_,_=>.fail
 | .value f=>match cJ σ f with
   | .fn f caps=>bif caps.all (fun b=>live σ b.1 b.2) then s7 cx nb bf inl d f (c.args.toList.map (cJ σ)++caps.map fun b=>.ptr b.1 b.2 []) σ else .fail
   | _=>.fail
 | .invoke r name=>qD cx d name (cJ σ r::c.args.toList.map (cJ σ)) σ
def EN:List aS→Option (List (Nat×Nat))
 | []=>some []
 | .ptr b aC []::r=>(EN r).map ((b,aC)::·)
 | _=>none
def Hs(σ:St)(b:Nat):Nat:=match σ.mem b with|some bx=>bx.aC+1|none=>0
def mkObj(b aC:Nat):List nw→Nat→St→Tree (aS×St)
 | [],_,σ=>.ret (.data .unit (),σ)
 | .dat t::r,j,σ=>(mkObj b aC r (j+1) σ).bind fun x=>.ret (.mix (.data t t.zero) x.1,x.2)
 | .one::r,j,σ=>(mkObj b aC r (j+1) σ).bind fun x=>.ret (.mix .qB x.1,x.2)
 | .self::r,j,σ=>(mkObj b aC r (j+1) σ).bind fun x=>.ret (.mix (.uS b aC) x.1,x.2)
 | .buf e eZ::r,j,σ=>bif Nat.blt 0 e.size then σ.aO (b*1000+999-j) (.data (.slice e) []) eZ true fun v σ=>(mkObj b aC r (j+1) σ).bind fun x=>.ret (.mix (.whole (b*1000+999-j) v) x.1,x.2) else .fail
def qS:List nw→Option aS
 | []=>some (.data .unit ())
 | .dat t::r=>match qS r with|some v=>some (.mix (.data t t.zero) v)|none=>none
 | .buf _ _::r=>match qS r with|some v=>some (.mix .nH v)|none=>none
 | .one::r=>match qS r with|some v=>some (.mix .qB v)|none=>none
 | .self::_=>none
def lP(σ:St)(fs:List nw):aS→List (Nat×Operand)→Option aS
 | v,[]=>some v
 | v,(k,x)::r=>match lN v k,xA fs k,fs[k]? with
   | some (o,.data t _),some o',some f=>bif Nat.beq o o'&&Nat.beq t.size f.size then(match toS t (cJ σ x) with
     | some y=>match(EJ v k fun _=>.ret (.data t y)).run with
       | some v=>lP σ fs v r
       | none=>none
     | none=>none) else none
   | _,_,_=>none
def mI(b:Nat):List nw→Nat→aS→St→Tree (aS×St)
 | [],_,.data .unit x,σ=>.ret (.data .unit x,σ)
 | .dat _::r,j,.mix (.data u y) v,σ=>(mI b r (j+1) v σ).bind fun x=>.ret (.mix (.data u y) x.1,x.2)
 | .one::r,j,.mix .qB v,σ=>(mI b r (j+1) v σ).bind fun x=>.ret (.mix .qB x.1,x.2)
 | .buf e eZ::r,j,.mix .nH v,σ=>bif Nat.blt 0 e.size then σ.aO (b*1000+999-j) (.data (.slice e) []) eZ true fun aC σ=>(mI b r (j+1) v σ).bind fun x=>.ret (.mix (.whole (b*1000+999-j) aC) x.1,x.2) else .fail
 | _,_,_,_=>.fail
def yW(σ:St):Nat→List (Nat×Operand)→Option aS
 | _,[]=>some (.data .unit ())
 | k,(j,x)::r=>bif Nat.beq j k then(match cJ σ x,yW σ (k+1) r with
   | .qB,some v=>some (.mix .qB v)
   | .ptr b aC p,some v=>some (.mix (.ptr b aC p) v)
   | _,_=>none) else none
def Aw(d:Option Nat)(t:TypeId)(len:Nat)(parts:List (Nat×Operand))(σ:St):Tree St :=
 match d,Oh cx t,yW σ 0 parts with
 | some d,some _,some v=>bif Nat.beq len parts.length&&Nat.blt 0 len&&Nat.ble len 64 then
  σ.aO (nb+d) v 0 false fun aC σ=>.ret (σ.put d (.win (nb+d) aC [.fJ 0 0] .bool len 0 len)) else .fail
 | _,_,_=>.fail
def CZ(d:Option Nat)(elem:TypeId)(x:aS)(σ:St):Tree St :=
 match d,x with
 | some _,.undef=>.fail
 | some _,.Ca _=>.fail
 | some d,v=>match find cx.sY elem with
   | some fs=>(mI (nb+d) fs 0 v σ).bind fun r=>r.2.aO (nb+d) r.1 elem false fun aC σ=>.ret (σ.put d (.ptr (nb+d) aC []))
   | none=>σ.aO (nb+d) v 0 false fun aC σ=>.ret (σ.put d (.ptr (nb+d) aC []))
 | none,_=>.fail
def tM(d:Nat)(t:Ty)(σ:St):Tree St :=
 match Oi bf (some d),t with
 | some _,.slice e=>bif Nat.blt 0 e.size then σ.aO ((nb+d)*1000+999) (.data (.slice e) []) 0 true fun v σ =>
  σ.aO (nb+d) (.whole ((nb+d)*1000+999) v) 0 false fun aC σ=>.ret (σ.put d (.ptr (nb+d) aC [])) else .fail
 | _,t=>σ.aO (nb+d) (.data t t.zero) 0 false fun aC σ=>.ret (σ.put d (.ptr (nb+d) aC []))
def pI(o:Oper)(σ:St):Tree St :=
 match o.op with
 | .move x|.assign x=>iR cx nb bf o.dst o.type (cJ σ x) σ
 | .pick c a b=>nI o.dst (cJ σ c) (cJ σ a) (cJ σ b) σ
 | .alloc elem=>match o.dst,find cx.T elem with
   | some d,some t=>tM nb bf d t σ
   | some d,none=>match find cx.sY elem with
     | some fs=>(mkObj (nb+d) (Hs σ (nb+d)) fs 0 σ).bind fun r=>r.2.aO (nb+d) r.1 elem false fun aC σ=>.ret (σ.put d (.ptr (nb+d) aC []))
     | none=>bif dJ cx.sE elem then σ.aO (nb+d) .undef 0 false fun aC σ=>.ret (σ.put d (.ptr (nb+d) aC [])) else .fail
   | _,_=>.fail
 | .box elem x=>CZ cx nb o.dst elem (cJ σ x) σ
 | .build t parts=>match find cx.T t with
   | some (.pair a b)=>match fW σ (.pair a b) (Ty.pair a b).zero parts.toList with
     | some (x,σ)=>.ret (σ.aU o.dst (.data (.pair a b) x))
     | none=>.fail
   | some (.arr n e)=>match fK σ e (List.replicate n e.zero) parts.toList with
     | some (l,σ)=>.ret (σ.aU o.dst (.data (.arr n e) l))
     | none=>.fail
   | none=>match find cx.sY t with
     | some fs=>match qS fs with
       | some z=>match lP σ fs z parts.toList with
         | some (.mix p q)=>.ret (σ.aU o.dst (.mix p q))
         | some (.data .unit _)=>.ret (σ.aU o.dst (.data .unit ()))
         | _=>.fail
       | none=>.fail
     | none=>.fail
   | _=>.fail
 | .buildSlice t len parts=>match find cx.T t with
   | some (.slice e)=>match Oi bf o.dst,len,parts.toList with
     | some d,0,[]=>σ.aO (nb+d) (.data (.slice e) []) 0 true fun aC σ=>.ret (σ.put d (.whole (nb+d) aC))
     | _,_,_=>bif Nat.ble (len*e.size) 65536 then(match fK σ e (List.replicate len e.zero) parts.toList with
     | some (l,σ)=>.ret (σ.aU o.dst (.data (.slice e) l))
     | none=>.fail) else .fail
   | none=>Aw cx nb o.dst t len parts.toList σ
   | _=>.fail
 | .load t a=>kC cx o.dst t (cJ σ a) σ
 | .store t a x=>match o.dst with|none=>kO cx t (cJ σ a) (cJ σ x) σ|some _=>.fail
 | .nilCheck x=>match cJ σ x with
   | .ptr b aC p=>bif live σ b aC then .ret (σ.aU o.dst (.ptr b aC p)) else .fail
   | .cell t x=>.ret (σ.aU o.dst (.cell t x))
   | .fn f c=>.ret (σ.aU o.dst (.fn f c))
   | _=>.fail
 | .binOp op xt x y _=>(VI σ (find cx.T xt) (dJ cx.AX xt) op (cJ σ x) (cJ σ y)).bind fun v=>.ret (σ.aU o.dst v)
 | .unOp op _ x=>(un op (cJ σ x)).bind fun v=>.ret (σ.aU o.dst v)
 | .convert src dst x=>gq cx nb o.dst src dst (cJ σ x) σ
 | .makeFunc (.func f) first caps=>match first.toList,EN (caps.toList.map (cJ σ)) with
   | [],some cs=>.ret (σ.aU o.dst (.fn f cs))
   | _,_=>.fail
 | .slice t x lo hi none=>kP cx o.dst t (cJ σ x) lo hi σ
 | .fieldAddr s x k=>eM cx o.dst s (cJ σ x) k σ
 | .field xt x k=>match cJ σ x with
   | .data u y=>bif EK (find cx.T xt) u then(match lN (.data u y) k with
     | some (_,v)=>.ret (σ.aU o.dst v)
     | none=>.fail) else .fail
   | _=>.fail
 | .indexAddr t x i=>match cJ σ i with
   | .data (.int _) i=>eL cx o.dst t (cJ σ x) i σ
   | _=>.fail
 | .index t x i=>match cJ σ i with
   | .data (.int _) i=>kQ cx o.dst t (cJ σ x) i σ
   | _=>.fail
 | .makeSlice t l c=>match o.dst,find cx.T t,cJ σ l,cJ σ c with
   | some d,some (.slice e),.data (.int _) l,.data (.int _) c =>
     .need (inside 0 l c) (.need (fits c)
      (σ.aO (nb+d) (.data (.slice e) (Ms l e.zero)) 0 true fun aC σ=>.ret (σ.put d (.whole (nb+d) aC))))
   | _,_,_,_=>.fail
 | .extract t k=>match cJ σ t with
   | .Ca vs=>match nth vs k with
     | some v=>.ret (σ.aU o.dst v)
     | none=>.fail
   | _=>.fail
 | .call c=>tW cx nb bf inl o.dst o.type c σ
 | .makeInterface u x=>qC cx o.dst o.type u (cJ σ x) σ
 | _=>.fail
def xC(g:Option (Nat×Bool))(j:Nat)(want:Bool):Bool :=
 match g with|some (i,b)=>Nat.beq i j&&(b==want)|none=>false
def under(j:Nat)(want:Bool):(inner:List Nat)→List (Nat×Oper)→List (Nat×Oper)×List (Nat×Oper)
 | _,[]=>([],[])
 | inner,(i,o)::r =>
   bif xC o.guard j want then let x:=under j want (i::inner) r;((i,{ o with guard:=none })::x.1,x.2)
   else bif (match o.guard with|some (k,_)=>inner.any (Nat.beq k)|none=>false) then let x:=under j want (i::inner) r;((i,o)::x.1,x.2)
   else([],(i,o)::r)
def Ht(cx:Ctx):List (Nat×Oper)→Bool
 | []=>false
 | (_,o)::r=>(match o.op with
   | .call c=>match c.callee with
     | .value (.func f)=>match find cx.cW f with|some _=>false|none=>true
     | .value _=>true
     | .builtin .append=>true
     | _=>false
   | .store ..=>true
   | _=>false)||Ht cx r
def St.gW(σ:St):St:={ σ with mem:=fun i=>match σ.mem i with|some b=>some { b with lk:=true }|none=>none }
def St.undef(σ:St):List (Nat×Oper)→St
 | []=>σ
 | (_,o)::r=>(σ.undef r).aU o.dst .undef
def mJ(d:Nat):List (Nat×Oper)→Bool
 | []=>false
 | (_,o)::r=>(match o.dst with|some k=>Nat.beq k d|none=>false)||mJ d r
def xD(σ:St)(pk:Oper)(dj:Nat)(want:Bool):Option aS :=
 match pk.op with
 | .pick (.tmp c) a b=>bif Nat.beq c dj then some (cJ σ (bif want then a else b)) else none
 | _=>none
def pJ(all:Array Oper):Nat→List (Nat×Oper)→St→Tree St
 | 0,_,_=>.fail
 | n+1,[],σ=>.ret σ
 | n+1,(i,o)::r,σ =>
   match o.guard with
   | none=>(pI cx nb bf inl o σ).bind fun σ=>pJ all n r σ
   | some (j,want) =>
     let g:=under j want [] ((i,o)::r)
     match(all[j]?).bind (·.dst) with
     | none=>.fail
     | some dj=>match σ.slots dj,g.2 with
       | .data .bool c,(_,pk)::rest=>bif mJ dj g.1 then .fail else match pk.guard with
         | some _=>.fail
         | none =>
           let c':=bif want then c else nt c
           bif Ht cx g.1 then
            (Tree.node c' ((pJ all n g.1 σ).bind fun σ=>match xD σ pk dj want with
              | some v=>.ret (σ.aU pk.dst v)
              | none=>.fail)
             (match xD (σ.undef g.1) pk dj (!want) with
              | some v=>.ret ((σ.undef g.1).aU pk.dst v)
              | none=>.fail)).bind fun σ=>pJ all n rest σ
           else match find cx.T pk.type,pk.dst with
            | some t,some dp=>(Tree.node c' ((pJ all n g.1 σ.gW).bind fun τ=>match(xD τ pk dj want).bind (T0 t) with
              | some x=>.ret x
              | none=>.fail)
             (match(xD (σ.undef g.1) pk dj (!want)).bind (T0 t) with
              | some x=>.ret x
              | none=>.fail)).join fun x=>pJ all n rest ((σ.undef g.1).put dp (.data t x))
            | _,_=>.fail
       | _,_=>.fail
def number:Nat→List Oper→List (Nat×Oper)
 | _,[]=>[]
 | k,o::r=>(k,o)::number (k+1) r
def HQ(ops:Array Oper)(σ:St):Tree St:=pJ cx nb bf inl ops (2*ops.size+1) (number 0 ops.toList) σ
def eO:Op→List Operand
 | .move x|.assign x|.box _ x|.load _ x|.nilCheck x|.unOp _ _ x|.convert _ _ x|.fieldAddr _ x _|.field _ x _|.extract x _=>[x]
 | .pick c a b=>[c,a,b]
 | .build _ ps|.buildSlice _ _ ps=>ps.toList.map (·.2)
 | .store _ a x=>[a,x]
 | .binOp _ _ x y _=>[x,y]
 | .makeFunc _ f c=>f.toList++c.toList
 | .slice _ x lo hi _=>x::(lo.toList++hi.toList)
 | .indexAddr _ x i|.index _ x i=>[x,i]
 | .makeSlice _ l c=>[l,c]
 | .call c=>(match c.callee with|.value f=>[f]|.invoke r _=>[r]|_=>[])++c.args.toList
 | .makeInterface _ x=>[x]
 | _=>[]
def tmpsOf:List Operand→List Nat
 | []=>[]
 | .tmp t::r=>t::tmpsOf r
 | _::r=>tmpsOf r
def nJ(o:Oper)(σ:St):Option Nat:=match o.op with
 | .call c=>match c.callee with
   | .value x=>match cJ σ x with
     | .fn f _=>some f
     | _=>none
   | _=>none
 | _=>none
def abv:Option Nat→Option Nat→Bool
 | some a,some b=>Nat.beq a b
 | none,none=>true
 | _,_=>false
def cls(g:Option Nat)(o:Oper):Nat:=match o.op with
 | .assign _|.move _|.makeSlice ..|.convert ..=>1
 | .box e _=>match find cx.sY e with
   | some _=>3
   | none=>1
 | .alloc e=>match find cx.T e with
   | some (.slice _)=>3
   | some _=>1
   | none=>match find cx.sY e with
     | some _=>3
     | none=>1
 | .build ..|.buildSlice ..|.store ..=>2
 | .call c=>match c.callee with
   | .builtin .len|.builtin .min|.builtin .max=>0
   | .builtin .append=>2
   | .builtin _=>3
   | .value _=>match g with
     | some f=>match find cx.QX f with
       | some (.clone _)=>2
       | some (.own _ _ _ _)=>2
       | _=>match find cx.cW f with
         | some c=>bif c.R.flat then 0 else 2
         | none=>3
     | none=>3
   | .invoke ..=>2
 | .makeInterface ..=>2
 | _=>0
structure Fp where
 rd:List Nat
 wr:List Nat
 Hu:Bool
 fn:Option Nat
def tX(σ:St):aS→List Nat
 | .ptr b _ _=>[b]
 | .whole b _=>[b]
 | .part b _ _ _=>[b]
 | .win b _ _ _ _ _ _=>[b]
 | .fn _ caps=>caps.map (·.1)
 | .mix a b=>tX σ a++tX σ b
 | _=>[]
def refsOf(σ:St):List Operand→List Nat
 | []=>[]
 | x::r=>tX σ (cJ σ x)++refsOf σ r
def abw(o:Oper)(σ:St):List Nat:=match o.op with
 | .move x|.assign x=>match cJ σ x with
   | .ptr _ _ _=>[]
   | v=>tX σ v
 | _=>refsOf σ (eO o.op)
def own(o:Oper):List Nat:=match o.dst with|some d=>[nb+d]|none=>[]
def wz(o:Oper)(σ:St):Fp :=
 let rd:=own nb o++abw o σ
 let g:=nJ o σ
 match cls cx g o with
 | 0=>⟨rd,[],false,g⟩
 | 1=>⟨rd,own nb o,false,g⟩
 | 2=>⟨rd,rd,false,g⟩
 | _=>⟨[],[],true,g⟩
def St.only(σ:St)(ts rd:List Nat):St:={ slots:=fun t=>bif dJ ts t then σ.slots t else .undef,mem:=fun b=>bif dJ rd b then σ.mem b else none }
def lay(σ:St)(d:Option Nat)(wr:List Nat)(τ:St):St :=
 { slots:=match d with|some d=>fun t=>bif Nat.beq t d then τ.slots d else σ.slots t|none=>σ.slots
   mem:=fun b=>bif dJ wr b then τ.mem b else σ.mem b }
def yX(_:Nat)(_:List aS)(_:St):Tree (aS×St):=.fail
def VJ(fp:Fp)(o:Oper)(σ:St):Tree St:=bif abv (nJ o σ) fp.fn then pI cx nb bf yX o σ else .fail
def gX(fp:Fp)(o:Oper)(σ:St):Tree St :=
 bif fp.Hu then pI cx nb bf inl o σ
 else(VJ cx nb bf fp o (σ.only (tmpsOf (eO o.op)) fp.rd)).bind fun τ=>.ret (lay σ o.dst fp.wr τ)
abbrev yY:=Nat×Oper×Fp×Nat
def maskAt:List yY→Nat→Nat
 | [],_=>0
 | (i,_,_,m)::r,k=>bif Nat.beq i k then m else maskAt r k
def tN(done:List yY):List Edge→Nat
 | []=>0
 | e::r=>bif Region.binds .any e then(tN done r ||| 2 ^ e.on) ||| maskAt done e.on else tN done r
def mask(done:List yY)(o:Oper):Nat:=tN done o.after.toList
def T4(a b:List Nat):Bool:=a.all fun x=>!dJ b x
def apart(x y:Oper)(f g:Fp):Bool :=
 !f.Hu&&!g.Hu&&T4 f.wr g.rd&&T4 g.wr f.rd &&
 (match x.dst with|some d=>!dJ (tmpsOf (eO y.op)) d&&(match y.dst with|some e=>!Nat.beq d e|none=>true)|none=>true) &&
 (match y.dst with|some e=>!dJ (tmpsOf (eO x.op)) e|none=>true)
def loose(o:Oper)(f:Fp)(m:Nat):List yY→Bool
 | []=>true
 | (k,ok,fk,_)::r=>(Nat.testBit m k||apart ok o fk f)&&loose o f m r
def HR:List (Nat×Oper)→List yY→St→Tree St
 | [],_,σ=>.ret σ
 | (i,o)::r,done,σ=>match o.guard with
   | some _=>.fail
   | none =>
     let f:=wz cx nb o σ
     let m:=mask done o
     bif loose o f m done&&(o.after.all fun e=>!Region.binds .any e||Nat.blt e.on i) then
      (gX cx nb bf inl f o σ).bind fun σ=>HR r ((i,o,f,m)::done) σ
     else .fail
def Lq(all:Array Oper)(o:Oper):List Nat:=match o.guard with
 | some (g,_)=>match(all[g]?).bind (·.dst) with|some d=>[d]|none=>[]
 | none=>[]
def Cb(all:Array Oper)(o:Oper):List Nat:=Lq all o++tmpsOf (eO o.op)
def wA(o:Oper)(k:Nat):Bool:=match o.guard with|some (g,_)=>!Nat.beq g k|none=>true
def yZ(all:Array Oper)(i j:Nat)(x y:Oper)(f g:Fp):Bool :=
 !f.Hu&&!g.Hu&&T4 f.wr g.rd&&T4 g.wr f.rd&&wA x j&&wA y i &&
 (match x.dst with|some d=>!dJ (Cb all y) d&&(match y.dst with|some e=>!Nat.beq d e|none=>true)|none=>true) &&
 (match y.dst with|some e=>!dJ (Cb all x) e|none=>true)
def Cc(all:Array Oper)(i:Nat)(o:Oper)(f:Fp)(m:Nat):List yY→Bool
 | []=>true
 | (k,ok,fk,_)::r=>(Nat.testBit m k||yZ all k i ok o fk f)&&Cc all i o f m r
def gd(i:Nat)(sk:Nat→Bool):Nat→Bool:=fun k=>Nat.beq k i||sk k
def sR(all:Array Oper):List (Nat×Oper)→List yY→St→(Nat→Bool)→Tree St
 | [],_,σ,_=>.ret σ
 | (i,o)::r,done,σ,sk =>
   let f:=wz cx nb o σ
   let m:=mask done o
   bif Cc all i o f m done&&(o.after.all fun e=>!Region.binds .any e||Nat.blt e.on i) then
    match o.guard with
    | none=>(gX cx nb bf inl f o σ).bind fun σ=>sR all r ((i,o,f,m)::done) σ sk
    | some (g,want)=>match(all[g]?).bind (·.dst) with
      | none=>.fail
      | some dg=>bif sk g then sR all r ((i,o,f,m)::done) (σ.aU o.dst .undef) (gd i sk)
        else match σ.slots dg with
         | .data .bool c=>.node c
          (bif want then(gX cx nb bf inl f o (σ.put dg (.data .bool true))).bind fun σ=>sR all r ((i,o,f,m)::done) σ sk
           else sR all r ((i,o,f,m)::done) ((σ.put dg (.data .bool true)).aU o.dst .undef) (gd i sk))
          (bif want then sR all r ((i,o,f,m)::done) ((σ.put dg (.data .bool false)).aU o.dst .undef) (gd i sk)
           else(gX cx nb bf inl f o (σ.put dg (.data .bool false))).bind fun σ=>sR all r ((i,o,f,m)::done) σ sk)
         | _=>.fail
   else .fail
def jR:List Oper→Bool
 | []=>true
 | o::r=>(match o.dst with|some d=>!dJ (EO r) d|none=>true)&&jR r
where EO:List Oper→List Nat
 | []=>[]
 | o::r=>match o.dst with|some d=>d::EO r|none=>EO r
def wB(ops:Array Oper)(σ:St):Tree St :=
 bif ops.any fun o=>o.guard.isSome then(bif jR ops.toList then sR cx nb bf inl ops (number 0 ops.toList) [] σ (fun _=>false) else .fail)
 else HR cx nb bf inl (number 0 ops.toList) [] σ
end
end Go.Ge
namespace Go.Ge
set_option linter.unusedVariables false
set_option linter.unusedSectionVars false
def rounds{S R:Type}(f:S→Option (S⊕R)):Nat→S→Option R
 | 0,_=>none
 | n+1,s=>(f s).bind fun x=>match x with|.inl s=>rounds f n s|.inr r=>some r
theorem FL{S R:Type}{f:S→Option (S⊕R)}:∀{n:Nat} {s:S} {r:R},rounds f n s=some r→∀m,n≤m→rounds f m s=some r:=by
 intro n
 induction n with
 | zero=>intro s r h;cases h
 | succ n ih =>
   intro s r h m hm
   obtain⟨k,rfl⟩:∃k,m=k+1:=⟨m-1,by omega⟩
   simp only[rounds] at h⊢
   cases hf:f s with
   | none=>rw[hf] at h;cases h
   | some x =>
     rw[hf] at h
     cases x with
     | inl s'=>exact ih h k (by omega)
     | inr r'=>exact h
open Classical in
noncomputable def Ol{S R:Type}(f:S→Option (S⊕R))(s:S):Option R :=
 if h:∃n r,rounds f n s=some r then some (Classical.choose (Classical.choose_spec h)) else none
theorem yB{S R:Type}{f:S→Option (S⊕R)}{n:Nat}{s:S}{r:R}(h:rounds f n s=some r):Ol f s=some r:=by
 have hex:∃n r,rounds f n s=some r:=⟨n,r,h⟩
 unfold Ol
 rw[dif_pos hex]
 have h2:=Classical.choose_spec (Classical.choose_spec hex)
 have a:=FL h (max n (Classical.choose hex)) (by omega)
 have b:=FL h2 (max n (Classical.choose hex)) (by omega)
 rw[a] at b
 exact b.symm
class Lp where
 loop:{S R:Type}→(S→Option (S⊕R))→S→Option R
 ok:∀{S R:Type} (f:S→Option (S⊕R)) (s:S),loop f s=Ol f s
theorem Lp.one(i j:Lp):i=j:=by
 obtain⟨l,h⟩:=i
 obtain⟨m,k⟩:=j
 have:@l=@m:=by funext S R f s;rw[h,k]
 subst this
 rfl
@[reducible] noncomputable def Lp.abx:Lp where
 loop:=fun f s=>match rounds f 100000 s with|some r=>some r|none=>Ol f s
 ok:=fun f s=>by
  generalize 100000=k
  cases hk:rounds f k s with
  | some r=>exact(yB hk).symm
  | none=>rfl
section
variable [Lp]
noncomputable def Loop{S R:Type}(f:S→Option (S⊕R))(s:S):Option R:=Lp.loop f s
theorem pK{S R:Type}{f:S→Option (S⊕R)}{n:Nat}{s:S}{r:R}(h:rounds f n s=some r):Loop f s=some r:=(Lp.ok f s).trans (yB h)
theorem pL{S R:Type}{f:S→Option (S⊕R)}{s:S}{r:R}(h:Loop f s=some r):∃n,rounds f n s=some r:=by
 replace h:=(Lp.ok f s).symm.trans h
 unfold Ol at h
 split at h
 ·rename_i hex
  have h2:=Classical.choose_spec (Classical.choose_spec hex)
  exact⟨_,by rw[h2];exact h⟩
 ·cases h
theorem aV{S R:Type}(f:S→Option (S⊕R))(s:S):Loop f s=(f s).bind fun x=>match x with|.inl s=>Loop f s|.inr r=>some r:=by
 cases hf:f s with
 | none =>
   cases hl:Loop f s with
   | none=>rfl
   | some r =>
     obtain⟨n,hn⟩:=pL hl
     cases n with
     | zero=>cases hn
     | succ n=>simp[rounds,hf] at hn
 | some x =>
   cases x with
   | inr r=>exact pK (n:=1) (by simp[rounds,hf])
   | inl s' =>
     show Loop f s=Loop f s'
     cases hl:Loop f s' with
     | some r =>
       obtain⟨n,hn⟩:=pL hl
       exact pK (n:=n+1) (by simp[rounds,hf,hn])
     | none =>
       cases Hv:Loop f s with
       | none=>rfl
       | some r =>
         obtain⟨n,hn⟩:=pL Hv
         cases n with
         | zero=>cases hn
         | succ n =>
           simp[rounds,hf] at hn
           rw[pK hn] at hl;cases hl
end
inductive Sh where
 | d (t:Ty)
 | k (v:aS)
 | m (a b:Sh)
def Sh.ty:Sh→Ty
 | .d t=>t
 | .k _=>.unit
 | .m a b=>.pair a.ty b.ty
def Hw:List FK→List FK→Bool
 | [],[]=>true
 | .fJ k o::p,.fJ k' o'::q=>Nat.beq k k'&&Nat.beq o o'&&Hw p q
 | _,_=>false
def Hy:List (Nat×Nat)→List (Nat×Nat)→Bool
 | [],[]=>true
 | (a,b)::r,(c,d)::s=>Nat.beq a c&&Nat.beq b d&&Hy r s
 | _,_=>false
theorem Q0:∀{p q:List FK},Hw p q=true→p=q:=by
 intro p
 induction p with
 | nil=>intro q h;cases q<;>first|rfl|cases h
 | cons s p ih =>
   intro q h
   cases s with
   | idx i n=>cases q<;>cases h
   | fJ k o =>
     cases q with
     | nil=>cases h
     | cons s' q =>
       cases s' with
       | idx i n=>cases h
       | fJ k' o' =>
         simp only[Hw,Bool.and_eq_true] at h
         rw[Nat.eq_of_beq_eq_true h.1.1,Nat.eq_of_beq_eq_true h.1.2,ih h.2]
theorem Q1:∀{p q:List (Nat×Nat)},Hy p q=true→p=q:=by
 intro p
 induction p with
 | nil=>intro q h;cases q<;>first|rfl|cases h
 | cons s p ih =>
   intro q h
   obtain⟨a,b⟩:=s
   cases q with
   | nil=>cases h
   | cons s' q =>
     obtain⟨c,d⟩:=s'
     simp only[Hy,Bool.and_eq_true] at h
     rw[Nat.eq_of_beq_eq_true h.1.1,Nat.eq_of_beq_eq_true h.1.2,ih h.2]
def xE(V:Nat→Bool)(ji σ:St):aS→aS→Bool
 | .ptr b v p,.ptr b' v' p'=>Nat.beq b b'&&Hw p p'&&(bif V b then(match ji.mem b,σ.mem b with|some x,some y=>Nat.beq x.aC v&&Nat.beq y.aC v'|_,_=>false) else Nat.beq v v')
 | .whole b v,.whole b' v'=>Nat.beq b b'&&(match ji.mem b,σ.mem b with|some x,some y=>Nat.beq x.aC v&&Nat.beq y.aC v'&&y.buf|_,_=>false)
 | .fn f c,.fn f' c'=>Nat.beq f f'&&Hy c c'
 | .qB,.qB=>true
 | .rO,.rO=>true
 | .uS b v,.uS b' v'=>Nat.beq b b'&&Nat.beq v v'
 | _,_=>false
def Yh:aS→Sh
 | .data t _=>.d t
 | .mix a b=>.m (Yh a) (Yh b)
 | v=>.k v
def Sh.out(V:Nat→Bool)(ji σ:St):(s:Sh)→aS→Option s.ty.den
 | .d t,v=>T0 t v
 | .k u,v=>bif xE V ji σ u v then some () else none
 | .m a b,.mix v w=>match Sh.out V ji σ a v,Sh.out V ji σ b w with
   | some x,some y=>some (x,y)
   | _,_=>none
 | .m _ _,_=>none
def bump(M V:Nat→Bool):aS→aS
 | .whole b v=>bif M b then .whole b (v+1) else .whole b v
 | .ptr b v p=>bif M b&&V b then .ptr b (v+1) p else .ptr b v p
 | v=>v
def Sh.sC(M V:Nat→Bool):(s:Sh)→s.ty.den→aS
 | .d t,x=>.data t x
 | .k v,_=>bump M V v
 | .m a b,x=>.mix (a.sC M V x.1) (b.sC M V x.2)
structure Q2 where
 S:List (Nat×Nat)
 M:List Nat
 fz:Bool
structure za where
 marks:List (Option Q2)
 aby:List Nat
structure Carry where
 S:List (Nat×Sh)
 M:List (Nat×Sh×bU)
 V:Nat→Bool
def tyS:List (Nat×Sh)→Ty
 | []=>.unit
 | (_,s)::r=>.pair s.ty (tyS r)
def ZX:List (Nat×Sh×bU)→Ty
 | []=>.unit
 | (_,s,_)::r=>.pair s.ty (ZX r)
def Carry.ty(c:Carry):Ty:=.pair (tyS c.S) (ZX c.M)
def Yi(V:Nat→Bool)(ji σ:St):(l:List (Nat×Sh))→Option (tyS l).den
 | []=>some ()
 | (i,s)::r=>match Sh.out V ji σ s (σ.slots i),Yi V ji σ r with
   | some x,some y=>some (x,y)
   | _,_=>none
def FM(fz mv:Bool)(bx b:bU):Bool:=(fz||(bx.ro==b.ro))&&Nat.beq bx.tid b.tid&&(bx.buf==b.buf)&&(bx.buf||mv||Nat.beq bx.aC b.aC)
def Yj(V:Nat→Bool)(fz:Bool)(ji σ:St):(l:List (Nat×Sh×bU))→Option (ZX l).den
 | []=>some ()
 | (i,s,b)::r=>match σ.mem i with
   | some bx=>bif FM fz (V i) bx b then(match Sh.out V ji σ s bx.val,Yj V fz ji σ r with
     | some x,some y=>some (x,y)
     | _,_=>none) else none
   | none=>none
def Carry.out(c:Carry)(fz:Bool)(ji σ:St):Option c.ty.den :=
 match Yi c.V ji σ c.S,Yj c.V fz ji σ c.M with
 | some x,some y=>some (x,y)
 | _,_=>none
def Mv(M V:Nat→Bool):(l:List (Nat×Sh))→(tyS l).den→Nat→Option aS
 | [],_,_=>none
 | (i,s)::r,x,t=>bif Nat.beq t i then some (s.sC M V x.1) else Mv M V r x.2 t
def HS(fz:Bool)(M V:Nat→Bool):(l:List (Nat×Sh×bU))→(ZX l).den→Nat→Option bU
 | [],_,_=>none
 | (i,s,b)::r,x,t=>bif Nat.beq t i then some { b with val:=s.sC M V x.1,ro:=b.ro||fz,aC:=bif b.buf||V t then b.aC+1 else b.aC } else HS fz M V r x.2 t
def wC:List (Nat×Sh×bU)→Nat→Bool
 | [],_=>false
 | (i,_,_)::r,t=>Nat.beq t i||wC r t
def Carry.sC(c:Carry)(fz lock:Bool)(wr:List Nat)(ji:St)(x:c.ty.den):St :=
 { slots:=fun t=>match Mv (wC c.M) c.V c.S x.1 t with
    | some v=>v
    | none=>bif dJ wr t then .undef else ji.slots t
   mem:=fun b=>match HS fz (wC c.M) c.V c.M x.2 b with
    | some bx=>some bx
    | none=>match ji.mem b with
      | some bx=>some { bx with lk:=bx.lk||lock }
      | none=>none }
def settle:List (Nat×Sh)→St→Option St
 | [],σ=>some σ
 | (i,.d t)::r,σ=>match yU σ t (σ.slots i) with
   | some (x,σ)=>settle r (σ.put i (.data t x))
   | none=>none
 | _::r,σ=>settle r σ
def Carry.HT(c:Carry)(fz:Bool)(ji σ:St):Option c.ty.den :=
 bif fz then(match settle c.S σ with
  | some σ=>c.out true ji σ
  | none=>none)
 else c.out false ji σ
def Carry.lock(c:Carry)(σ:St):St :=
 { σ with mem:=fun b=>match σ.mem b with
  | some bx=>some (bif wC c.M b then bx else { bx with lk:=true })
  | none=>none }
def pM:List Oper→List Nat
 | []=>[]
 | o::r=>match o.dst with|some d=>d::pM r|none=>pM r
def writes:Code→List Nat
 | .region _ ops _=>pM ops.toList
 | .seq a b=>writes a++writes b
 | .cond _ a b=>writes a++writes b
 | .block _ a=>writes a
 | .loop a=>writes a
 | .scope a=>writes a
 | _=>[]
def sS:Code→List Nat
 | .seq a b=>sS a++(sS b).filter fun e=>!dJ (sS a) e
 | .cond _ a b=>sS a++(sS b).filter fun e=>!dJ (sS a) e
 | .block i a=>(sS a).filter fun e=>!Nat.beq e (i+2)
 | .loop a=>sS a
 | .scope a=>sS a
 | .ret=>[1]
 | .exit i=>[i+2]
 | _=>[]
def marks:Code→Nat
 | .seq a b=>marks a+marks b
 | .cond _ a b=>marks a+marks b+1
 | .block _ a=>marks a
 | .loop a=>marks a+1
 | .scope a=>marks a
 | _=>0
def GJ:List Nat→Nat→Option Nat
 | [],_=>none
 | e::r,k=>bif Nat.beq e k then some 0 else(GJ r k).map (·+1)
def Q3:List Nat→List Nat→List Nat
 | [],l=>l
 | b::r,l=>bif dJ l b then Q3 r l else Q3 r (l++[b])
section
variable (cx:Ctx)
def mkS(σ:St):List (Nat×Nat)→Option (List (Nat×Sh))
 | []=>some []
 | (i,ty)::r=>match mkS σ r with
   | none=>none
   | some l=>bif Nat.beq ty 999999 then(match σ.slots i with
     | .whole b v=>some ((i,.k (.whole b v))::l)
     | _=>some l) else match σ.slots i with
     | .data t _=>some ((i,.d t)::l)
     | .undef|.nH=>match find cx.T ty with
       | some t=>some ((i,.d t)::l)
       | none=>none
     | v=>some ((i,.k v)::l)
def Ax(σ:St):List Nat→List Nat
 | []=>[]
 | b::r=>(match σ.mem b with|some bx=>(match bx.val with|.mix u v=>tX σ (.mix u v)|.whole c _=>[c]|.fn f c=>tX σ (.fn f c)|_=>[])|none=>[])++Ax σ r
def Tj(σ:St):List Nat→List Nat
 | []=>[]
 | i::r =>
   let r0:=tX σ (σ.slots i)
   let r1:=Ax σ r0
   let r2:=Ax σ r1
   Q3 (r0++(r1++(r2++Ax σ r2))) (Tj σ r)
def mkM(σ:St):List Nat→Option (List (Nat×Sh×bU))
 | []=>some []
 | b::r=>match σ.mem b,mkM σ r with
   | some bx,some l=>bif bx.lk then none else some ((b,Yh bx.val,bx)::l)
   | _,_=>none
def FN:List Nat→St→Option St
 | [],σ=>some σ
 | m::r,σ=>bif Nat.ble 2000000 m then(match σ.slots (m-2000000) with
  | .whole b v=>match σ.mem b with
    | some bx=>match bx.val with
      | .data (.slice e) _=>match yU σ (.slice e) (.whole b v) with
        | some (x,σ)=>FN r (σ.put (m-2000000) (.data (.slice e) x))
        | none=>none
      | _=>none
    | none=>none
  | _=>FN r σ) else FN r σ
def abz(nb:Nat)(bf:List Nat)(σ:St)(b:Nat):Bool:=dJ (bf.map (nb+·)) b&&(match σ.mem b with|some x=>!x.buf&&!Hr x.val|none=>false)
def Hz(nb:Nat)(bf:List Nat)(σ:St)(p:Q2):Option Carry :=
 match mkS cx σ p.S,mkM σ (Tj σ p.M) with
 | some s,some m=>some ⟨s,m,abz nb bf σ⟩
 | _,_=>none
variable (nb:Nat) (bf:List Nat) (inl:Nat→List aS→St→Tree (aS×St))
def C0{α:Type}:List Nat→Nat→(Nat→Tree α)→Tree α
 | [],_,_=>.fail
 | [e],_,f=>f e
 | e::r,i,f=>.node (fB i 0) (f e) (C0 r (i-1) f)
variable [Lp]
def again{S:Type}(f:S→Tree (Nat×S)):Nat→S→Tree (Nat×S)
 | 0,_=>.fail
 | n+1,s=>(f s).bind fun r=>bif Nat.beq r.1 0 then again f n r.2 else .ret r
noncomputable def iY:Code→List (Option Q2)→St→Tree (Nat×St)
 | .skip,_,σ=>.ret (0,σ)
 | .label _,_,σ=>.ret (0,σ)
 | .ret,_,σ=>.ret (1,σ)
 | .exit i,_,σ=>.ret (i+2,σ)
 | .region _ ops dr,_,σ=>(bif dr then wB cx nb bf inl ops σ else HQ cx nb bf inl ops σ).bind fun σ=>.ret (0,σ)
 | .seq a b,pl,σ=>(iY a pl σ).bind fun r=>bif Nat.beq r.1 0 then iY b (pl.drop (marks a)) r.2 else .ret r
 | .block i a,pl,σ=>(iY a pl σ).bind fun r=>.ret (bif Nat.beq r.1 (i+2) then 0 else r.1,r.2)
 | .scope a,pl,σ=>iY a pl σ
 | .cond c a b,pl,σ=>match cJ σ c,pl with
   | .data .bool c,none::pl=>.node c (iY a pl σ) (iY b (pl.drop (marks a)) σ)
   | .data .bool c,some p::pl=>match Hz cx nb bf σ p with
     | none=>.fail
     | some k =>
       let t:=Tree.node c (iY a pl (k.lock σ)) (iY b (pl.drop (marks a)) (k.lock σ))
       let wr:=writes a++writes b
       match sS a++(sS b).filter (fun e=>!dJ (sS a) e) with
       | []=>(t.bind fun r=>bif Nat.beq r.1 0 then Tree.ZA (k.HT p.fz σ r.2) else .fail).join fun x=>.ret (0,k.sC p.fz false wr σ x)
       | es=>(t.bind fun r=>match GJ (0::es) r.1,k.HT p.fz σ r.2 with
        | some i,some x=>.ret (i,x)
        | _,_=>.fail).join fun x=>C0 (0::es) x.1 fun e=>.ret (e,k.sC p.fz false wr σ x.2)
   | _,_=>.fail
 | .loop a,pl,σ=>match pl with
   | some p::pl=>match FN p.M σ with
    | none=>.fail
    | some σ=>match Hz cx nb bf σ p with
     | none=>.fail
     | some k=>match k.out false σ σ with
       | none=>.fail
       | some x0 =>
         let wr:=writes a
         let es:=sS a
         let body (x:k.ty.den):Option (k.ty.den⊕(Nat×k.ty.den)):=((iY a pl (k.sC false true wr σ x)).bind fun r=>bif Nat.beq r.1 0 then(match k.out false σ r.2 with
           | some y=>.ret (.inl y)
           | none=>.fail)
          else match GJ es r.1,k.HT p.fz σ r.2 with
           | some i,some y=>.ret (.inr (i,y))
           | _,_=>.fail).run
         match es with
         | [e]=>.look (Loop (fun x=>ep (body x)) x0) fun x=>.ret (e,k.sC p.fz false wr σ x)
         | es=>.look (Loop body x0) fun x=>C0 es x.1 fun e=>.ret (e,k.sC p.fz false wr σ x.2)
   | none::pl=>again (fun σ=>iY a pl σ) 100000 σ
   | _=>.fail
 | _,_,_=>.fail
end
variable [Lp]
def zb(mem:Nat→Option bU)(args:List aS):St:={ slots:=fun t=>(args[t]?).getD .undef,mem }
def EP(cx:Ctx)(σ:St):ResultVar→Tree aS
 | .tmp t=>.ret (σ.slots t)
 | .cell a ty=>(kC cx (some 0) ty (σ.slots a) σ).bind fun τ=>.ret (τ.slots 0)
def C2(cx:Ctx)(σ:St):List ResultVar→Tree aS
 | []=>.ret .nl
 | r::rs=>(EP cx σ r).bind fun v=>(C2 cx σ rs).bind fun l=>.ret (.mix v l)
def results1(cx:Ctx)(σ:St):List ResultVar→Tree aS
 | [r]=>EP cx σ r
 | rs=>(C2 cx σ rs).bind fun l=>.ret (.Ca l)
noncomputable def zd(cx:Ctx):Nat→(nb:Nat)→(gr:Nat→za)→Nat→List aS→(Nat→Option bU)→Tree (aS×(Nat→Option bU))
 | 0,_,_,_,_,_=>.fail
 | n+1,nb,gr,f,args,mem=>match find cx.fns f with
   | some fn=>match fn.body with
     | some c=>(iY cx nb (gr f).aby (fun g xs σ=>(zd cx n ((nb+g+1)*1000) gr g xs σ.mem).bind fun r=>.ret (r.1,{ σ with mem:=r.2 })) c (gr f).marks (zb mem args)).bind fun r =>
      bif Nat.beq r.1 0||Nat.beq r.1 1 then(results1 cx r.2 fn.results.toList).bind fun v=>.ret (v,r.2.mem) else .fail
     | none=>.fail
   | none=>.fail
def ER:(A:Ty)→A.den→List aS
 | .pair t r,x=>.data t x.1::ER r x.2
 | _,_=>[]
def C3(mem:Nat→Option bU):St:={ slots:=fun _=>.undef,mem }
def C4:aS→List aS
 | .mix a b=>a::C4 b
 | _=>[]
def C5:(R:Ty)→aS→List aS
 | .pair _ .unit,v=>[v]
 | _,.Ca v=>C4 v
 | _,v=>[v]
def gY(k:Nat):Nat:=777000000+k
def Bn:List Bool→(A U:Ty)→A.den→Nat→List aS
 | [],_,_,_,_=>[]
 | false::ps,A,U,x,k=>match A,x with
   | .pair t A,x=>.data t x.1::Bn ps A U x.2 k
   | _,_=>[]
 | true::ps,A,U,x,k=>match U with
   | .pair _ U=>.ptr (gY k) 0 []::Bn ps A U x (k+1)
   | _=>[]
def GK:(U:Ty)→U.den→Nat→Nat→Option bU
 | .pair t U,u,k,b=>bif Nat.beq b (gY k) then some { val:=.data t u.1,tid:=0,buf:=false,ro:=false,lk:=false,aC:=0 } else GK U u.2 (k+1) b
 | _,_,_,_=>none
def Om(mem:Nat→Option bU):(U:Ty)→Nat→Option U.den
 | .pair t U,k=>match mem (gY k) with
   | some bx=>bif Nat.beq bx.aC 0&&!bx.buf&&!bx.ro then(match toS t bx.val,Om mem U (k+1) with
     | some x,some u=>some (x,u)
     | _,_=>none) else none
   | none=>none
 | .unit,_=>some ()
 | _,_=>none
noncomputable def ZY(cx:Ctx)(n:Nat)(gr:Nat→za)(f:Nat)(ps:List Bool)(A U R:Ty)(x:A.den×U.den):Option (R.den×U.den) :=
 ((zd cx n 0 gr f (Bn ps A U x.1 0) (GK U x.2 0)).bind fun r=>match jQ (C3 r.2) R (C5 R r.1) with
  | some (y,σ)=>(match Om σ.mem U 0 with
    | some u=>.ret (y,u)
    | none=>.fail)
  | none=>.fail).run
noncomputable def sem(cx:Ctx)(n:Nat)(gr:Nat→za)(f:Nat)(A R:Ty)(x:A.den):Option R.den :=
 ((zd cx n 0 gr f (ER A x) (fun _=>none)).bind fun r=>match gV (C3 r.2) R (C5 R r.1) with
  | some y=>.ret y
  | none=>.fail).run
end Go.Ge
namespace Go.Ge
set_option linter.unusedVariables false
structure Gh where
 I:Nat→Nat→Prop
 loc:Nat→Option (Nat×Nat)
def cA(t:Ty)(cs:List Value):Value:=bif t.isAgg then .agg cs.toArray else cs.headD undef
def bG(w:World)(I:Nat→Nat→Prop):(t:Ty)→t.den→List Value→Prop
 | .int k,n,cs=>cs=[.int k n]∧k.min≤(show Int from n)∧(show Int from n)≤k.max
 | .bool,b,cs=>cs=[.bool b]
 | .str,s,cs=>cs=[.string ⟨List.toArray (α:=UInt8) s⟩]∧List.length (α:=UInt8) s≤maxLen
 | .slice e,l,cs=>((∃base,cs=[.slice base 0 0])∧l=([]:List e.den)) ∨
  ∃blk off cap,cs=[.slice (some ⟨blk,off,none⟩) (List.length (α:=e.den) l) cap]∧List.length (α:=e.den) l≤cap∧cap≤maxLen ∧
   ∀(i:Nat) (x:e.den),(show List e.den from l)[i]?=some x→∃es:List Value,es.length=e.size ∧
    (∀(j:Nat) v,es[j]?=some v→w.cell? ⟨blk,off+i*e.size+j,none⟩=some v∧I blk (off+i*e.size+j))∧bG w I e x es
 | .arr n e,l,cs=>List.length (α:=e.den) l=n∧cs.length=n*e.size ∧
  ∀(i:Nat) (x:e.den),(show List e.den from l)[i]?=some x→bG w I e x ((cs.drop (i*e.size)).take e.size)
 | .pair a b,x,cs=>∃c1 c2,cs=c1++c2∧bG w I a x.1 c1∧bG w I b x.2 c2
 | .unit,_,cs=>cs=[]
 | .alt u a r,x,cs=>match(show a.den⊕r.den from x) with
   | .inl y=>r.size=1∧∃c,cs=[.iface u (cA a c)]∧bG w I a y c
   | .inr z=>bG w I r z cs
 | .AV,_,cs=>cs=[.nilIface]
theorem bG.length{w:World}{I:Nat→Nat→Prop}:∀{t:Ty} {x:t.den} {cs:List Value},bG w I t x cs→cs.length=t.size:=by
 intro t
 induction t with
 | int k=>intro x cs h;rw[h.1];rfl
 | bool=>intro x cs h;rw[h];rfl
 | str=>intro x cs h;rw[h.1];rfl
 | slice e ih=>intro x cs h;rcases h with ⟨⟨_,h⟩,_⟩|⟨_,_,_,h,_⟩<;>rw[h]<;>rfl
 | arr n e ih=>intro x cs h;exact h.2.1
 | pair a b jE nr=>intro x cs h;obtain⟨c1,c2,rfl,h1,h2⟩:=h;rw[List.length_append,jE h1,nr h2];rfl
 | unit=>intro x cs h;rw[h];rfl
 | alt u a r jE ihr =>
   intro x cs h
   rcases x with y|z
   ·obtain⟨h1,c,rfl,_⟩:=h
    exact h1.symm
   ·exact ihr (show bG w I r z cs from h)
 | AV=>intro x cs h;rw[show cs=_ from h];rfl
theorem bG.mono{w w':World}{I I':Nat→Nat→Prop}(hI:∀b o,I b o→I' b o)(hw:∀b o,I b o→w'.cell? ⟨b,o,none⟩=w.cell? ⟨b,o,none⟩) :
  ∀{t:Ty} {x:t.den} {cs:List Value},bG w I t x cs→bG w' I' t x cs:=by
 intro t
 induction t with
 | int k=>intro x cs h;exact h
 | bool=>intro x cs h;exact h
 | str=>intro x cs h;exact h
 | slice e ih =>
   intro x cs h
   rcases h with h|⟨blk,off,cap,h1,h2,h3,h4⟩
   ·exact .inl h
   ·refine .inr ⟨blk,off,cap,h1,h2,h3,fun i y hy=>?_⟩
    obtain⟨es,he,hc,hr⟩:=h4 i y hy
    exact⟨es,he,fun j v hv=>by obtain⟨a,b⟩:=hc j v hv;exact⟨by rw[hw _ _ b];exact a,hI _ _ b⟩,ih hr⟩
 | arr n e ih=>intro x cs h;exact⟨h.1,h.2.1,fun i y hy=>ih (h.2.2 i y hy)⟩
 | pair a b jE nr=>intro x cs h;obtain⟨c1,c2,h0,h1,h2⟩:=h;exact⟨c1,c2,h0,jE h1,nr h2⟩
 | unit=>intro x cs h;exact h
 | alt u a r jE ihr =>
   intro x cs h
   rcases x with y|z
   ·obtain⟨h1,c,h2,h3⟩:=h
    exact⟨h1,c,h2,jE h3⟩
   ·exact ihr (show bG w I r z cs from h)
 | AV=>intro x cs h;exact h
theorem bG.one{w:World}{I:Nat→Nat→Prop}:∀{t:Ty} {x:t.den} {cs:List Value},bG w I t x cs→∀v∈cs,v.oneCell'=true:=by
 intro t
 induction t with
 | int k=>intro x cs h v hv;rw[h.1] at hv;simp at hv;subst hv;rfl
 | bool=>intro x cs h v hv;rw[h] at hv;simp at hv;subst hv;rfl
 | str=>intro x cs h v hv;rw[h.1] at hv;simp at hv;subst hv;rfl
 | slice e ih=>intro x cs h v hv;rcases h with ⟨⟨_,h⟩,_⟩|⟨_,_,_,h,_⟩<;>rw[h] at hv<;>simp at hv<;>subst hv<;>rfl
 | arr n e ih =>
   intro x cs h v hv
   obtain⟨h1,h2,h3⟩:=h
   obtain⟨k,hk,hkv⟩:=List.getElem_of_mem hv
   have he:0<e.size:=by
    rcases Nat.eq_zero_or_pos e.size with h0|h0
    ·rw[h0,Nat.mul_zero] at h2;omega
    ·exact h0
   have hdiv:k / e.size<n:=by rw[Nat.div_lt_iff_lt_mul he];omega
   have hx:∃y,(show List e.den from x)[k / e.size]?=some y:=⟨_,List.getElem?_eq_getElem (by rw[h1];exact hdiv)⟩
   obtain⟨y,hy⟩:=hx
   refine ih (h3 _ y hy) v ?_
   have hm:=Nat.mod_lt k he
   have hkk:k / e.size*e.size+k % e.size=k:=by rw[Nat.mul_comm];exact Nat.div_add_mod k e.size
   have:((cs.drop (k / e.size*e.size)).take e.size)[k % e.size]?=some v:=by
    rw[List.getElem?_take,if_pos hm,List.getElem?_drop,hkk,List.getElem?_eq_getElem hk,hkv]
   exact List.mem_of_getElem? this
 | pair a b jE nr =>
   intro x cs h v hv
   obtain⟨c1,c2,rfl,h1,h2⟩:=h
   rcases List.mem_append.1 hv with hv|hv
   ·exact jE h1 v hv
   ·exact nr h2 v hv
 | unit=>intro x cs h v hv;rw[h] at hv;cases hv
 | alt u a r jE ihr =>
   intro x cs h v hv
   rcases x with y|z
   ·obtain⟨h1,c,rfl,h3⟩:=h
    simp at hv;subst hv;rfl
   ·exact ihr (show bG w I r z cs from h) v hv
 | AV=>intro x cs h v hv;rw[show cs=_ from h] at hv;simp at hv;subst hv;rfl
theorem qT{w:World}{I:Nat→Nat→Prop}:∀{t:Ty} {x:t.den} {cs:List Value},bG w I t x cs→(cA t cs).cells.toList=cs:=by
 intro t
 induction t with
 | int k=>intro x cs h;unfold cA;rw[h.1];rfl
 | bool=>intro x cs h;unfold cA;rw[h];rfl
 | str=>intro x cs h;unfold cA;rw[h.1];rfl
 | slice e=>intro x cs h;unfold cA;rcases h with ⟨⟨_,h⟩,_⟩|⟨_,_,_,h,_⟩<;>rw[h]<;>rfl
 | arr n e=>intro x cs h;rfl
 | pair a b=>intro x cs h;rfl
 | unit=>intro x cs h;rfl
 | alt u a r jE ihr =>
   intro x cs h
   rcases x with y|z
   ·obtain⟨h1,c,rfl,h3⟩:=h
    unfold cA Ty.isAgg
    cases r.isAgg<;>rfl
   ·exact ihr (show bG w I r z cs from h)
 | AV=>intro x cs h;unfold cA;rw[show cs=_ from h];rfl
inductive Mode where
 | cells|val|many
def tY(base:Option Addr)(cap:Nat):Prop:=cap=0∨∃blk off,base=some ⟨blk,off,none⟩
def cQ:List FK→Nat
 | []=>0
 | .fJ _ off::p=>off+cQ p
 | .idx i size::p=>i.toNat*size+cQ p
theorem zf(p q:List FK):cQ (p++q)=cQ p+cQ q:=by
 induction p with
 | nil=>simp[cQ]
 | cons s p ih=>cases s<;>simp[cQ,ih]<;>omega
section
variable (γ:Gh) (mem:Nat→Option bU) (w:World)
def C6(bx:bU)(b:Nat)(lo:Int)(base:Option Addr)(cap:Nat):Prop:=lo=0→bx.buf=true→(γ.loc b=none∧base=none∧cap=0)∨∃blk,γ.loc b=some (blk,cap)∧base=some ⟨blk,0,none⟩
def C7(I:Nat→Nat→Prop)(blk off:Nat)(cs:List Value):Prop:=∀(j:Nat) v,cs[j]?=some v→w.cell? ⟨blk,off+j,none⟩=some v∧I blk (off+j)
def lQ(b aC:Nat)(K:bU→Prop):Prop:=∃bx,mem b=some bx∧aC≤bx.aC∧(bx.aC=aC→K bx)
def cw:aS→Mode→List Value→Prop
 | .undef,.val,vs=>∃v,vs=[v]
 | .undef,.cells,vs=>∃v,vs=[v]∧v.oneCell'=true
 | .undef,.many,_=>False
 | .data t x,.cells,vs=>bG w γ.I t x vs
 | .data t x,.val,vs=>∃cs,bG w γ.I t x cs∧vs=[cA t cs]
 | .data _ _,.many,_=>False
 | .mix a b,.cells,vs=>∃c1 c2,vs=c1++c2∧cw a .cells c1∧cw b .cells c2
 | .mix a b,.val,vs=>∃c1 c2,vs=[.agg (c1++c2).toArray]∧cw a .cells c1∧cw b .cells c2
 | .mix a b,.many,vs=>∃v r,vs=v::r∧cw a .val [v]∧cw b .many r
 | .nl,.many,vs=>vs=[]
 | .nl,_,_=>False
 | .Ca u,.val,vs=>∃arr:Array Value,vs=[.tuple arr]∧cw u .many arr.toList
 | .Ca _,_,_=>False
 | .qB,.many,_=>False
 | .qB,_,vs=>vs=[.pointer none]
 | .rO,.many,_=>False
 | .rO,_,vs=>vs=[.nilIface]
 | .uS _ _,.many,_=>False
 | .uS b aC,_,vs=>(∃v,vs=[v]∧v.oneCell'=true)∧lQ mem b aC fun _=>∃blk cap,γ.loc b=some (blk,cap)∧(vs=[.pointer none]∨vs=[.pointer (some ⟨blk,0,none⟩)])
 | .nH,.many,_=>False
 | .nH,_,vs=>vs=[.slice none 0 0]
 | .cell _ _,.many,_=>False
 | .cell t x,_,vs=>∃blk off cs,vs=[.pointer (some ⟨blk,off,none⟩)]∧bG w γ.I t x cs∧C7 w γ.I blk off cs
 | .ptr _ _ _,.many,_=>False
 | .ptr b aC p,_,vs=>(∃v,vs=[v]∧v.oneCell'=true)∧lQ mem b aC fun _=>∃blk cap,γ.loc b=some (blk,cap)∧vs=[.pointer (some ⟨blk,cQ p,none⟩)]
 | .whole _ _,.many,_=>False
 | .whole b aC,_,vs=>(∃v,vs=[v]∧v.oneCell'=true)∧lQ mem b aC fun bx=>∃e n,bx.buf=true∧bx.row=some (e,n) ∧
  ((γ.loc b=none∧vs=[.slice none 0 0])∨∃blk cap,γ.loc b=some (blk,cap)∧vs=[.slice (some ⟨blk,0,none⟩) n cap])
 | .part _ _ _ _,.many,_=>False
 | .part b aC lo n,_,vs=>(∃v,vs=[v]∧v.oneCell'=true)∧lQ mem b aC fun bx=>∃e k,bx.row=some (e,k)∧0≤lo∧0≤n∧lo+n≤k ∧
  ∃base cap,vs=[.slice base n.toNat cap]∧n.toNat≤cap∧cap≤maxLen∧(tY base cap∧C6 γ bx b lo base cap)∧(n=0∨∃blk c,γ.loc b=some (blk,c)∧base=some ⟨blk,lo.toNat*e.size,none⟩)
 | .win _ _ _ _ _ _ _,.many,_=>False
 | .win b aC q e k lo n,_,vs=>(∃v,vs=[v]∧v.oneCell'=true)∧lQ mem b aC fun _=>q≠[]∧∃blk c,γ.loc b=some (blk,c)∧0≤lo∧0≤n∧lo+n≤k ∧
  ∃base cap,vs=[.slice base n.toNat cap]∧n.toNat≤cap∧(n=0∨base=some ⟨blk,cQ q+lo.toNat*e.size,none⟩)
 | .fn _ _,.many,_=>False
 | .fn f caps,_,vs=>∃arr:Array Value,vs=[.func (.func f) #[] arr]∧arr.size=caps.length ∧
  ∀(i:Nat) b aC,caps[i]?=some (b,aC)→lQ mem b aC fun _=>∃blk cap,γ.loc b=some (blk,cap)∧arr[i]?=some (.pointer (some ⟨blk,0,none⟩))
def ld(cur:Array Value)(fr:Nat×Nat):Prop:=∀off,off<cur.size→¬(fr.1≤off∧off<fr.2)
def Ty.isInt:Ty→Bool
 | .int _=>true
 | _=>false
structure X2 (e:Ty) (cur:Array Value) (fr:Nat×Nat):Prop where
 th:ld cur fr
 um:e.isInt=false→¬(fr.1≤cur.size∧cur.size<fr.2)
def cP(b:Nat)(bx:bU):Prop :=
 match bx.buf with
 | true=>∃(e:Ty) (l:List e.den),bx.val=.data (.slice e) l∧0<e.size ∧
  ((γ.loc b=none∧l=[])∨∃blk cap cur tid fr,γ.loc b=some (blk,cap)∧w.heap[blk]?=some (.cells cur tid fr)∧X2 e cur fr∧(bx.tid=0∨tid=bx.tid)∧l.length≤cap∧cap≤maxLen ∧
   cur.size=cap*e.size∧∀(i:Nat) (x:e.den),l[i]?=some x→bG w γ.I e x ((cur.toList.drop (i*e.size)).take e.size))
 | false=>∃blk cap cur tid fr,γ.loc b=some (blk,cap)∧w.heap[blk]?=some (.cells cur tid fr)∧ld cur fr∧(bx.tid=0∨tid=bx.tid)∧cw γ mem w bx.val .cells cur.toList
end
def Q4(bx:bU):Nat→Prop:=fun off=>bx.ro=true∧(bx.buf=true→∀e n,bx.row=some (e,n)→off<n*e.size)
abbrev iZ:=Nat→(Obj→Prop)→Prop
def xF:iZ:=fun _ _=>False
def ES(G:iZ)(w:World):Prop:=∀b Q,G b Q→∃o,w.heap[b]?=some o∧Q o
structure qz where
 lo:Nat
 X:Nat→Prop
 G:iZ
def qz.has(B:qz)(k:Nat):Prop:=B.lo≤k∨B.X k
def lp(G:iZ)(n:Nat):qz:=⟨n,fun _=>False,G⟩
theorem pN{G:iZ}{n k:Nat}:(lp G n).has k↔n≤k:=⟨fun h=>h.elim id False.elim,.inl⟩
structure tZ (B:qz) (w w':World):Prop where
 os:w'.os=w.os
 tape:w'.tape=w.tape
 output:w'.output=w.output
 size:w.heap.size≤w'.heap.size
 block:∀k,¬B.has k→w'.heap[k]?=w.heap[k]?
theorem tZ.refl(B:qz)(w:World):tZ B w w:=⟨rfl,rfl,rfl,Nat.le_refl _,fun _ _=>rfl⟩
theorem tZ.trans{B:qz}{a b c:World}(h:tZ B a b)(k:tZ B b c):tZ B a c :=
 ⟨k.os.trans h.os,k.tape.trans h.tape,k.output.trans h.output,Nat.le_trans h.size k.size,fun i hi=>(k.block i hi).trans (h.block i hi)⟩
theorem tZ.of{B:qz}{w w':World}(h:RowKit.Below B.lo w w'):tZ B w w':=⟨h.os,h.tape,h.output,h.size,fun k hk=>h.block k (Nat.lt_of_not_le fun q=>hk (.inl q))⟩
theorem tZ.below{G:iZ}{n:Nat}{w w':World}(h:tZ (lp G n) w w'):RowKit.Below n w w':=⟨h.os,h.tape,h.output,h.size,fun k hk=>h.block k fun q=>by have:=pN.1 q;omega⟩
theorem tZ.drew{B:qz}{a w:World}(h:tZ B a w):tZ B a w.drew:=⟨h.os,h.tape,h.output,h.size,h.block⟩
theorem tZ.alloc{B:qz}{a w:World}(h:tZ B a w)(hB:B.lo≤w.heap.size)(o:Obj):tZ B a (w.alloc o):=h.trans (.of ((RowKit.Below.refl _ _).alloc hB o))
structure bE (B:qz) (γ:Gh) (mem:Nat→Option bU) (w:World):Prop where
 base:B.lo≤w.heap.size
 boxes:∀b bx,mem b=some bx→cP γ mem w b bx
 inj:∀b c blk k k',mem b≠none→mem c≠none→γ.loc b=some (blk,k)→γ.loc c=some (blk,k')→b=c
 fresh:∀b blk k,mem b≠none→γ.loc b=some (blk,k)→B.has blk∧blk<w.heap.size
 sU:∀blk off,γ.I blk off→blk<w.heap.size
 sep:∀b bx blk k off,mem b=some bx→γ.loc b=some (blk,k)→γ.I blk off→Q4 bx off
 bg:∀b Q,B.G b Q→¬B.has b∧∃o,w.heap[b]?=some o∧Q o
structure cX (B:qz) (N:Nat) (γ:Gh) (σ:St) (a:Act) (w:World):Prop where
 slots:∀t,cw γ σ.mem w (σ.slots t) .val [a.tmps.getD t undef]
 size:a.tmps.size=N
 defers:a.defers=[]
 ok:bE B γ σ.mem w
structure Ext (B:qz) (γ:Gh) (mem:Nat→Option bU) (w:World) (γ':Gh) (mem':Nat→Option bU) (w':World):Prop where
 below:tZ B w w'
 I:∀b o,γ.I b o→γ'.I b o
 pO:∀b o,γ'.I b o→γ.I b o∨B.has b
 cells:∀b o,γ.I b o→w'.cell? ⟨b,o,none⟩=w.cell? ⟨b,o,none⟩
 boxes:∀b bx,mem b=some bx→∃gu,mem' b=some gu∧bx.aC≤gu.aC∧(gu.aC=bx.aC→γ'.loc b=γ.loc b∧gu.buf=bx.buf∧gu.row=bx.row)
theorem bE.C8{B:qz}{γ γ':Gh}{mem mem':Nat→Option bU}{w w':World}(h:bE B γ mem w)(x:Ext B γ mem w γ' mem' w'):∀b Q,B.G b Q→¬B.has b∧∃o,w'.heap[b]?=some o∧Q o:=fun b Q g=>by
 obtain⟨i,o,c,q⟩:=h.bg b Q g
 exact⟨i,o,(x.below.block b i).trans c,q⟩
theorem bE.Mw{B:qz}{γ:Gh}{mem:Nat→Option bU}{w:World}(h:bE B γ mem w):ES B.G w:=fun b Q g=>(h.bg b Q g).2
theorem Ext.refl(B:qz)(γ:Gh)(mem:Nat→Option bU)(w:World):Ext B γ mem w γ mem w :=
 ⟨tZ.refl _ _,fun _ _ h=>h,fun _ _ h=>.inl h,fun _ _ _=>rfl,fun b bx h=>⟨bx,h,Nat.le_refl _,fun _=>⟨rfl,rfl,rfl⟩⟩⟩
theorem Ext.trans{B:qz}{γ γ' Yk:Gh}{mem mem' ZB:Nat→Option bU}{w w' w'':World}(h:Ext B γ mem w γ' mem' w')(k:Ext B γ' mem' w' Yk ZB w'') :
  Ext B γ mem w Yk ZB w'' where
 below:=h.below.trans k.below
 I:=fun b o x=>k.I _ _ (h.I _ _ x)
 pO:=fun b o x=>by
  rcases k.pO b o x with y|y
  ·exact h.pO b o y
  ·exact .inr y
 cells:=fun b o x=>(k.cells _ _ (h.I _ _ x)).trans (h.cells _ _ x)
 boxes:=fun b bx x=>by
  obtain⟨gu,h1,h2,h3⟩:=h.boxes b bx x
  obtain⟨abA,k1,k2,k3⟩:=k.boxes b gu h1
  refine⟨abA,k1,Nat.le_trans h2 k2,fun e=>?_⟩
  have e1:gu.aC=bx.aC:=by omega
  have e2:abA.aC=gu.aC:=by omega
  obtain⟨a1,a2,a3⟩:=h3 e1
  obtain⟨b1,b2,b3⟩:=k3 e2
  exact⟨b1.trans a1,b2.trans a2,b3.trans a3⟩
theorem lQ.ext{B:qz}{γ γ':Gh}{mem mem':Nat→Option bU}{w w':World}(h:Ext B γ mem w γ' mem' w'){b aC:Nat}{K K':bU→Prop}(ho:lQ mem b aC K)
  (hk:∀bx gu,mem b=some bx→mem' b=some gu→γ'.loc b=γ.loc b→gu.buf=bx.buf→gu.row=bx.row→K bx→K' gu):lQ mem' b aC K':=by
 obtain⟨bx,h1,h2,h3⟩:=ho
 obtain⟨gu,k1,k2,k3⟩:=h.boxes b bx h1
 refine⟨gu,k1,Nat.le_trans h2 k2,fun e=>?_⟩
 have e1:bx.aC=aC:=by omega
 obtain⟨a1,a2,a3⟩:=k3 (by omega)
 exact hk bx gu h1 k1 a1 a2 a3 (h3 e1)
theorem C7.ext{w w':World}{I I':Nat→Nat→Prop}(hI:∀b o,I b o→I' b o)(hw:∀b o,I b o→w'.cell? ⟨b,o,none⟩=w.cell? ⟨b,o,none⟩){blk off:Nat}{cs:List Value}
  (h:C7 w I blk off cs):C7 w' I' blk off cs :=
 fun j v hv=>by obtain⟨a,b⟩:=h j v hv;exact⟨by rw[hw _ _ b];exact a,hI _ _ b⟩
theorem cw.ext{B:qz}{γ γ':Gh}{mem mem':Nat→Option bU}{w w':World}(h:Ext B γ mem w γ' mem' w'):∀{v:aS} {m:Mode} {vs:List Value},cw γ mem w v m vs→cw γ' mem' w' v m vs:=by
 intro v
 induction v with
 | undef=>intro m vs r;cases m<;>exact r
 | data t x =>
   intro m vs r
   cases m with
   | cells=>exact bG.mono h.I h.cells r
   | val=>obtain⟨cs,r1,r2⟩:=r;exact⟨cs,bG.mono h.I h.cells r1,r2⟩
   | many=>exact r
 | nH=>intro m vs r;cases m<;>exact r
 | qB=>intro m vs r;cases m<;>exact r
 | rO=>intro m vs r;cases m<;>exact r
 | uS b aC =>
   intro m vs r
   cases m with
   | many=>exact r
   | cells=>exact⟨r.1,r.2.ext h fun bx gu _ _ hl _ _ k=>by rw[hl];exact k⟩
   | val=>exact⟨r.1,r.2.ext h fun bx gu _ _ hl _ _ k=>by rw[hl];exact k⟩
 | cell t x =>
   intro m vs r
   cases m with
   | many=>exact r
   | cells=>obtain⟨blk,off,cs,r1,r2,r3⟩:=r;exact⟨blk,off,cs,r1,bG.mono h.I h.cells r2,r3.ext h.I h.cells⟩
   | val=>obtain⟨blk,off,cs,r1,r2,r3⟩:=r;exact⟨blk,off,cs,r1,bG.mono h.I h.cells r2,r3.ext h.I h.cells⟩
 | ptr b aC p =>
   intro m vs r
   cases m with
   | many=>exact r
   | cells=>exact⟨r.1,r.2.ext h fun bx gu _ _ hl _ _ k=>by rw[hl];exact k⟩
   | val=>exact⟨r.1,r.2.ext h fun bx gu _ _ hl _ _ k=>by rw[hl];exact k⟩
 | whole b aC =>
   intro m vs r
   cases m with
   | many=>exact r
   | cells=>exact⟨r.1,r.2.ext h fun bx gu _ _ hl hb hr k=>by rw[hl,hb,hr];exact k⟩
   | val=>exact⟨r.1,r.2.ext h fun bx gu _ _ hl hb hr k=>by rw[hl,hb,hr];exact k⟩
 | part b aC lo n =>
   intro m vs r
   cases m with
   | many=>exact r
   | cells=>exact⟨r.1,r.2.ext h fun bx gu _ _ hl hb hr k=>by unfold C6 at k⊢;rw[hl,hb,hr];exact k⟩
   | val=>exact⟨r.1,r.2.ext h fun bx gu _ _ hl hb hr k=>by unfold C6 at k⊢;rw[hl,hb,hr];exact k⟩
 | win b aC q e k lo n =>
   intro m vs r
   cases m with
   | many=>exact r
   | cells=>exact⟨r.1,r.2.ext h fun bx gu _ _ hl _ _ k=>by rw[hl];exact k⟩
   | val=>exact⟨r.1,r.2.ext h fun bx gu _ _ hl _ _ k=>by rw[hl];exact k⟩
 | fn f caps =>
   intro m vs r
   cases m with
   | many=>exact r
   | cells=>obtain⟨arr,r1,r2,r3⟩:=r;exact⟨arr,r1,r2,fun i b aC hc=>(r3 i b aC hc).ext h fun bx gu _ _ hl _ _ k=>by rw[hl];exact k⟩
   | val=>obtain⟨arr,r1,r2,r3⟩:=r;exact⟨arr,r1,r2,fun i b aC hc=>(r3 i b aC hc).ext h fun bx gu _ _ hl _ _ k=>by rw[hl];exact k⟩
 | mix a b jE nr =>
   intro m vs r
   cases m with
   | cells=>obtain⟨c1,c2,r0,r1,r2⟩:=r;exact⟨c1,c2,r0,jE r1,nr r2⟩
   | val=>obtain⟨c1,c2,r0,r1,r2⟩:=r;exact⟨c1,c2,r0,jE r1,nr r2⟩
   | many=>obtain⟨c1,c2,r0,r1,r2⟩:=r;exact⟨c1,c2,r0,jE r1,nr r2⟩
 | Ca u ih =>
   intro m vs r
   cases m with
   | val=>obtain⟨arr,r1,r2⟩:=r;exact⟨arr,r1,ih r2⟩
   | cells=>exact r
   | many=>exact r
 | nl=>intro m vs r;cases m<;>exact r
end Go.Ge
