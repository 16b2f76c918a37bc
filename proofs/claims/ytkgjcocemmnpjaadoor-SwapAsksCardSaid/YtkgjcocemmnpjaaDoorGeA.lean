/- A ghost interpreter of the model's code, and that it tells the truth: part 1. It says of a function of plain data what a call of it comes to. -/
import Derived.WalkKit
set_option linter.unusedVariables false
set_option linter.unusedSectionVars false
set_option linter.unusedSimpArgs false
abbrev aq:=@Option.some.inj
abbrev cK:=@Nat.eq_of_beq_eq_true
abbrev cA:=@Bool.and_eq_true
abbrev bY:=@Prod.mk.inj
abbrev nU:=@List.mem_append_right
abbrev qg:=@List.getElem?_eq_getElem
abbrev oQ:=@List.mem_append_left
abbrev ny:=@Bool.not_eq_true'
abbrev gD:=@cond_true
abbrev sP:=@List.head_eq_of_cons_eq
abbrev iN:=@Nat.mul_le_mul_right
abbrev en:=@Nat.le_refl
abbrev iO:=@List.getElem?_take
abbrev jx:=@List.mem_cons_of_mem
abbrev ji:=@List.length_append
abbrev ig:=@List.length_take
abbrev eD:=@cond_false
abbrev iX:=@Option.some.injEq
abbrev jy:=@List.mem_cons_self
abbrev gj:=@Nat.le_trans
abbrev mz:=@List.getElem?_drop
abbrev jj:=@List.map_cons
abbrev mC:=@List.append_assoc
abbrev dW:=@if_neg
abbrev lH:=@List.drop_drop
abbrev rR:=@Nat.le_of_ble_eq_true
abbrev kS:=@Nat.zero_add
abbrev nN:=@List.map_append
abbrev qh:=@Nat.lt_of_lt_of_le
abbrev kD:=@Nat.zero_le
abbrev fF:=@if_pos
abbrev ou:=@List.drop_left
abbrev lI:=@Nat.add_mul
abbrev mD:=@Nat.succ_mul
abbrev uZ:=@Bool.or_eq_false_iff
abbrev qi:=@Nat.min_eq_left
abbrev rS:=@List.all_eq_true
abbrev wC:=@List.take_append_drop
abbrev zJ:=@Array.getD_eq_getD_getElem?
abbrev sQ:=@List.getElem?_map
abbrev iP:=@if_true
abbrev rT:=@Option.map_some
abbrev ow:=@Nat.add_zero
abbrev u5:=@decide_eq_true_eq
abbrev qj:=@Nat.add_assoc
abbrev sR:=@Bool.or_eq_true
abbrev qk:=@Nat.lt_or_ge
abbrev zK:=@Classical.choose_spec
abbrev wD:=@List.length_drop
abbrev wE:=@Option.bind_some
abbrev zL:=@List.mem_of_getElem?
abbrev xW:=@of_decide_eq_true
abbrev wF:=@List.length_map
abbrev zM:=@Bool.false_eq_true
abbrev BH:=@List.getElem?_eq_none
abbrev xX:=@List.append_nil
abbrev xY:=@List.mem_append
abbrev zN:=@List.ext_getElem?
abbrev wG:=@List.mem_cons
abbrev EJ:=@List.eq_nil_of_length_eq_zero
abbrev BI:=@List.map_congr_left
abbrev zO:=@List.cons_append
abbrev CS:=@Array.getElem?_eq_none
abbrev EK:=@List.take_length_add_append
abbrev wH:=@Nat.beq_refl
abbrev wI:=@Nat.le_of_eq
abbrev zP:=@List.nil_append
abbrev xZ:=@Prod.mk.injEq
abbrev EL:=@List.getElem?_append_left
abbrev EM:=@List.filterMap_cons_some
abbrev CT:=@List.getElem_of_mem
abbrev CU:=@Array.toList_append
abbrev BJ:=@List.length_nil
abbrev BK:=@List.cons.injEq
abbrev BL:=@List.nodup_cons
abbrev sS:=@if_false
abbrev EN:=@List.take_of_length_le
abbrev GK:=@Array.getElem?_setIfInBounds
abbrev BM:=@List.take_left
abbrev CV:=@List.length_cons
abbrev CW:=@Array.toList_map
abbrev BN:=@Bool.false_or
abbrev zQ:=@Nat.mul_one
abbrev EO:=@Array.length_toList
abbrev EP:=@List.getElem?_range
abbrev CX:=@List.drop_left'
abbrev CY:=@decide_eq_false
abbrev ER:=@Nat.eq_zero_or_pos
abbrev CZ:=@List.take_take
abbrev C0:=@decide_eq_true
abbrev GL:=@List.getElem?_cons_zero
abbrev GM:=@List.getElem?_cons_succ
abbrev ES:=@Nat.lt_succ_self
abbrev GN:=@Array.getElem?_toList
abbrev GO:=@Array.mem_of_getElem?
abbrev GP:=@Array.getElem?_modify
abbrev C1:=@Nat.zero_mul
abbrev GQ:=@List.getElem?_append
abbrev ET:=@List.take_left'
abbrev H7:=@List.drop_append_of_le_length
abbrev C2:=@Int.toNat_of_nonneg
abbrev Be:=@List.drop_zero
abbrev Bf:=@List.take_zero
abbrev Bg:=@List.drop_take
abbrev sU:=@and_self
abbrev Bh:=@List.mapM_cons
abbrev C3:=@List.filterMap_map
abbrev F3:=@Array.toList_setIfInBounds
abbrev F4:=@List.getElem?_append_right
abbrev C4:=@List.size_toArray
abbrev C5:=@Array.size_append
abbrev x4:=@Array.ext'
abbrev F5:=@List.sublist_append_right
abbrev C6:=@Nat.lt_of_not_le
abbrev Bi:=@Nat.add_comm
abbrev F6:=@List.sublist_append_left
abbrev Bj:=@List.map_map
abbrev F7:=@List.filterMap_cons_none
abbrev F8:=@Array.setIfInBounds_comm
abbrev F9:=@Bool.eq_false_or_eq_true
abbrev Ga:=@List.getElem?_replicate
abbrev Gb:=@decide_eq_false_iff_not
abbrev Gc:=@Nat.div_lt_iff_lt_mul
abbrev Gd:=@List.filterMap_append
abbrev Gf:=@List.getElem?_toArray
abbrev vK:=@Ne.symm
abbrev Gg:=@BitVec.eq_of_toNat_eq
abbrev C7:=@Bool.or_false
abbrev C8:=@Bool.or_assoc
abbrev C9:=@List.cons.inj
abbrev Da:=@Nat.le_of_lt
abbrev Db:=@Nat.ne_of_gt
noncomputable section
namespace Go.Ge
inductive Ty where
 | int (k:IntKind)|bool|str|slice (e:Ty)|arr (n:Nat) (e:Ty)|pair (a b:Ty)|unit
 | alt (u:Nat) (a r:Ty)|nO
def Ty.den:Ty→Type
 | .int _=>Int
 | .bool=>Bool
 | .str=>List UInt8
 | .slice e=>List e.den
 | .arr _ e=>List e.den
 | .pair a b=>a.den×b.den
 | .unit=>Unit
 | .alt _ a r=>a.den⊕r.den
 | .nO=>Unit
def l9:IntKind→Nat
 | .i8=>0|.i16=>1|.i32=>2|.i64=>3|.u8=>4|.u16=>5|.u32=>6|.u64=>7
theorem kT{a b:IntKind}(h:Nat.beq (l9 a) (l9 b)=true):a=b:=by
 cases a<;>cases b<;>first|rfl|(exact absurd h (by decide))
def Ty.beq:Ty→Ty→Bool
 | .int k,.int k'=>Nat.beq (l9 k) (l9 k')
 | .bool,.bool=>true
 | .str,.str=>true
 | .slice e,.slice f=>Ty.beq e f
 | .arr n e,.arr m f=>Nat.beq n m&&Ty.beq e f
 | .pair a b,.pair c d=>Ty.beq a c&&Ty.beq b d
 | .unit,.unit=>true
 | .alt u a r,.alt v b s=>Nat.beq u v&&(Ty.beq a b&&Ty.beq r s)
 | .nO,.nO=>true
 | _,_=>false
theorem Ty.eq_of_beq:∀{a b:Ty},Ty.beq a b=true→a=b:=by
 intro a;induction a with
 | int k=>intro b h;cases b<;>first|(exact congrArg _ (kT h))|(cases h)
 | bool=>intro b h;cases b<;>first|rfl|(cases h)
 | str=>intro b h;cases b<;>first|rfl|(cases h)
 | slice e ih=>intro b h;cases b<;>first|(exact congrArg _ (ih h))|(cases h)
 | arr n e ih =>
   intro b h;cases b<;>first|(cases h;done)|skip
   simp only[Ty.beq,cA] at h;rw[cK h.1,ih h.2]
 | pair a b eN fE =>
   intro c h;cases c<;>first|(cases h;done)|skip
   simp only[Ty.beq,cA] at h;rw[eN h.1,fE h.2]
 | unit=>intro b h;cases b<;>first|rfl|(cases h)
 | alt u a r eN ihr =>
   intro c h;cases c<;>first|(cases h;done)|skip
   simp only[Ty.beq,cA] at h;rw[cK h.1,eN h.2.1,ihr h.2.2]
 | nO=>intro b h;cases b<;>first|rfl|(cases h)
def Ty.to(t u:Ty)(x:t.den):Option u.den :=
 if h:Ty.beq t u=true then some ((Ty.eq_of_beq h)▸x) else none
theorem Ty.beq_refl(t:Ty):Ty.beq t t=true:=by
 induction t with
 | int k=>cases k<;>rfl
 | bool=>rfl
 | str=>rfl
 | slice e ih=>exact ih
 | arr n e ih=>simp[Ty.beq,ih]
 | pair a b eN fE=>simp[Ty.beq,eN,fE]
 | unit=>rfl
 | alt u a r eN ihr=>simp[Ty.beq,eN,ihr]
 | nO=>rfl
theorem Ty.eW{t u:Ty}{x:t.den}{y:u.den}(h:Ty.to t u x=some y):∃e:t=u,y=e▸x:=by
 unfold Ty.to at h;split at h
 ·rename_i hb;exact⟨Ty.eq_of_beq hb,by simpa using h.symm⟩
 ·cases h
def toL(t u:Ty)(l:List t.den):Option (List u.den) :=
 if h:Ty.beq t u=true then some ((Ty.eq_of_beq h)▸l) else none
theorem eO{t u:Ty}{l:List t.den}{m:List u.den}(h:toL t u l=some m):∃e:t=u,m=e▸l:=by
 unfold toL at h;split at h
 ·rename_i hb;exact⟨Ty.eq_of_beq hb,by simpa using h.symm⟩
 ·cases h
def Ty.size:Ty→Nat
 | .int _|.bool|.str|.slice _=>1
 | .arr n e=>n*e.size
 | .pair a b=>a.size+b.size
 | .unit=>0
 | .alt _ _ r=>r.size
 | .nO=>1
def Ty.isAgg:Ty→Bool
 | .arr ..|.pair ..|.unit=>true
 | .alt _ _ r=>r.isAgg
 | _=>false
def Ty.zero:(t:Ty)→t.den
 | .int _=>(0:Int)
 | .bool=>false
 | .str=>([]:List UInt8)
 | .slice _=>[]
 | .arr n e=>List.replicate n e.zero
 | .pair a b=>(a.zero,b.zero)
 | .unit=>()
 | .alt _ _ r=>.inr r.zero
 | .nO=>()
def b8{α:Type}(c:Bool)(x y:α):α:=bif c then x else y
def ax{α β:Type}(o:Option α)(f:α→Option β):Option β:=o.bind f
def nt(b:Bool):Bool:=!b
def an(a b:Bool):Bool:=a&&b
def I0(a b:Bool):Bool:=a||b
def cX(a b:Int):Bool:=decide (a=b)
def EU(a b:Nat):Bool:=Nat.beq a b
def jS(a b:Int):Bool:=decide (a<b)
def BO(a b:Int):Bool:=decide (a≤b)
def nP(a b:List UInt8):Bool:=decide (a=b)
def Gi(a b:List UInt8):Bool:=Op.bytesLess a b
def J8(a b:List Int):Bool:=decide (a=b)
def EC(a b:Bool):Bool:=a==b
def BP{S:Type}(o:Option (S⊕(Nat×S))):Option (S⊕S):=o.map fun r=>match r with|.inl x=>.inl x|.inr y=>.inr y.2
def kE(k:IntKind)(a b:Int):Int:=k.wrap (a+b)
def mA(k:IntKind)(a b:Int):Int:=k.wrap (a-b)
def H8(k:IntKind)(a b:Int):Int:=k.wrap (a*b)
def H9(k:IntKind)(a b:Int):Int:=k.wrap (a.tdiv b)
def Ia(a b:Int):Int:=a.tmod b
def HK(k:IntKind)(a:Int):Int:=k.wrap a
def zR(k:IntKind)(x y:Int):Int:=k.wrap (BitVec.ofInt k.bits x &&& BitVec.ofInt k.bits y).toNat
def ED(k:IntKind)(x y:Int):Int:=k.wrap (BitVec.ofInt k.bits x ||| BitVec.ofInt k.bits y).toNat
def EV(k:IntKind)(x y:Int):Int:=k.wrap (BitVec.ofInt k.bits x ^^^ BitVec.ofInt k.bits y).toNat
def Gj(k:IntKind)(x y:Int):Int:=k.wrap (BitVec.ofInt k.bits x &&& ~~~BitVec.ofInt k.bits y).toNat
def GR(a b:Int):Int:=bif decide (b<a) then b else a
def imax(a b:Int):Int:=bif decide (a<b) then b else a
def BQ(k:IntKind)(a b:Int):Int:=k.wrap (a*2 ^ (min b.toNat k.bits))
def BR(k:IntKind)(a b:Int):Int:=a.fdiv (2 ^ (min b.toNat k.bits))
def plus(a b:Int):Int:=a+b
def minus(a b:Int):Int:=a-b
def len{α:Type}(l:List α):Int:=l.length
def app{α:Type}(l m:List α):List α:=l++m
def one{α:Type}(x:α):List α:=[x]
def idx{α:Type}(l:List α)(i:Int):Option α:=if 0≤i then l[i.toNat]? else none
def x5{α:Type}(l:List α)(i:Int)(x:α):List α:=l.set i.toNat x
def wJ{α:Type}(n:Int)(x:α):List α:=List.replicate n.toNat x
def sub{α:Type}(l:List α)(lo n:Int):List α:=(l.drop lo.toNat).take n.toNat
def mE{α:Type}(l:List α)(n:Int):List α:=l.take n.toNat
def over{α:Type}(l:List α)(lo:Int)(c:List α):List α:=l.take lo.toNat++c++l.drop (lo.toNat+c.length)
def pick{α β γ:Type}(f:α→γ)(g:β→γ)(x:α⊕β):γ:=match x with|.inl a=>f a|.inr b=>g b
def u8(b:UInt8):Int:=(b.toNat:Int)
def bO(s:List UInt8):List Int:=s.map fun b=>(b.toNat:Int)
def cl(l:List Int):List UInt8:=l.map fun n=>UInt8.ofNat n.toNat
def fits(n:Int):Bool:=decide (n≤4294967296)
def inside(a b n:Int):Bool:=decide (0≤a)&&decide (a≤b)&&decide (b≤n)
def within(i n:Int):Bool:=decide (0≤i)&&decide (i<n)
inductive Tree (α:Type):Type 1 where
 | ret (a:α)
 | fail
 | node (c:Bool) (t e:Tree α)
 | look {T:Type} (o:Option T) (k:T→Tree α)
namespace Tree
def bind{α β:Type}:Tree α→(α→Tree β)→Tree β
 | .ret a,f=>f a
 | .fail,_=>.fail
 | .node c t e,f=>.node c (t.bind f) (e.bind f)
 | .look o k,f=>.look o fun x=>(k x).bind f
def run{α:Type}:Tree α→Option α
 | .ret a=>some a
 | .fail=>none
 | .node c t e=>b8 c t.run e.run
 | .look o k=>ax o fun x=>(k x).run
def join{T β:Type}(t:Tree T)(k:T→Tree β):Tree β :=
 match t with
 | .ret x=>k x
 | .node c (.ret x) (.ret y)=>k (b8 c x y)
 | t=>.look t.run k
def need{α:Type}(c:Bool)(t:Tree α):Tree α:=.node c t .fail
def Dc{α:Type}:Option α→Tree α
 | some a=>.ret a
 | none=>.fail
end Tree
inductive oz where
 | wK (k off:Nat)
 | idx (i:Int) (size:Nat)
inductive au where
 | undef
 | data (t:Ty) (x:t.den)
 | gk
 | ij
 | iQ
 | jV (b ag:Nat)
 | cell (t:Ty) (x:t.den)
 | ptr (b ag:Nat) (p:List oz)
 | whole (b ag:Nat)
 | part (b ag:Nat) (lo n:Int)
 | win (b ag:Nat) (q:List oz) (e:Ty) (k:Nat) (lo n:Int)
 | fn (f:Nat) (caps:List (Nat×Nat))
 | mix (a b:au)
 | jT (vs:au)
 | nl
structure aR where
 val:au
 tid:TypeId
 buf:Bool
 ro:Bool
 lk:Bool
 ag:Nat
structure St where
 slots:Nat→au
 mem:Nat→Option aR
structure oR where
 A:Ty
 R:Ty
 spec:A.den→Option R.den
inductive OT where
 | dat (t:Ty)
 | buf (e:Ty) (bX:Nat)
 | ref (tid:Nat) (o:OT)
 | pair (a b:OT)
 | unit
def OT.den:OT→Type
 | .dat t=>t.den
 | .buf e _=>List e.den
 | .ref _ o=>o.den
 | .pair a b=>a.den×b.den
 | .unit=>Unit
def OT.nr:OT→Nat
 | .ref _ o=>o.nr+1
 | .pair a b=>a.nr+b.nr
 | _=>0
def OT.nb:OT→Nat
 | .buf ..=>1
 | .ref _ o=>o.nb
 | .pair a b=>a.nb+b.nb
 | _=>0
structure gd where
 ps:List Bool
 A:Ty
 U:OT
 R:Ty
 spec:A.den×U.den→Option (R.den×U.den)
inductive gf where
 | dat (t:Ty)
 | buf (e:Ty) (bX:Nat)
 | one
 | self
inductive EE where
 | EW (T:Nat)
 | str (T E:Nat)
 | clone (e:Ty)
 | own (e A:Ty) (res:Bool) (spec:List e.den→A.den→Option (List e.den))
structure Ctx where
 T:List (Nat×Ty)
 iY:List Nat
 eo:List Nat
 fns:List (Nat×Func)
 gE:List (Nat×oR)
 cO:List (Nat×gd)
 jz:List (Nat×List gf)
 x6:List (Nat×EE)
 els:List (Nat×Nat)
 inv:List (String×oR)
def x7{α:Type}:List (String×α)→String→Option α
 | [],_=>none
 | (i,a)::r,k=>bif decide (i=k) then some a else x7 r k
def find{α:Type}:List (Nat×α)→Nat→Option α
 | [],_=>none
 | (i,a)::r,k=>bif Nat.beq i k then some a else find r k
def St.put(σ:St)(d:Nat)(v:au):St:={ σ with slots:=fun t=>bif Nat.beq t d then v else σ.slots t }
def St.aD(σ:St)(d:Option Nat)(v:au):St:=match d with|some d=>σ.put d v|none=>σ
def St.bt(σ:St)(b:Nat)(x:aR):St:={ σ with mem:=fun i=>bif Nat.beq i b then some x else σ.mem i }
def St.ay{β:Type}(σ:St)(b:Nat)(val:au)(tid:TypeId)(buf:Bool)(k:Nat→St→Tree β):Tree β :=
 match σ.mem b with
 | some bx=>bif bx.lk then .fail else k (bx.ag+1) (σ.bt b { val,tid,buf,ro:=false,lk:=false,ag:=bx.ag+1 })
 | none=>k 0 (σ.bt b { val,tid,buf,ro:=false,lk:=false,ag:=0 })
def bN:List Nat→Nat→Bool
 | [],_=>false
 | i::r,t=>Nat.beq t i||bN r t
def sV:Value→au
 | .int k n=>bif decide (k.min≤n)&&decide (n≤k.max) then .data (.int k) n else .undef
 | .bool b=>.data .bool b
 | .string s=>bif Nat.ble s.data.toList.length 4294967296 then .data .str s.data.toList else .undef
 | .pointer none=>.ij
 | .nilIface=>.iQ
 | .slice none 0 0=>.gk
 | _=>.undef
def bz(σ:St):Operand→au
 | .tmp t=>σ.slots t
 | .const v=>sV v
 | .func f=>.fn f []
 | .global _=>.undef
def eE:Ty→Nat→Option Nat
 | .pair _ _,0=>some 0
 | .pair a b,k+1=>(eE b k).map (a.size+·)
 | _,_=>none
def bL:au→Nat
 | .data t _=>t.size
 | .mix a b=>bL a+bL b
 | .nl=>0
 | _=>1
def gz:(t:Ty)→t.den→Nat→Option (Nat×au)
 | .pair a _,x,0=>some (0,.data a x.1)
 | .pair a b,x,k+1=>match gz b x.2 k with|some r=>some (a.size+r.1,r.2)|none=>none
 | _,_,_=>none
def fG:au→Nat→Option (Nat×au)
 | .data t x,k=>gz t x k
 | .mix a _,0=>some (0,a)
 | .mix a b,k+1=>match fG b k with|some r=>some (bL a+r.1,r.2)|none=>none
 | _,_=>none
def BS(t:Ty):au→Option t.den
 | .data u x=>Ty.to u t x
 | .gk=>match t with|.slice _=>some []|_=>none
 | _=>none
def toS(t:Ty):au→Option t.den
 | .data u x=>Ty.to u t x
 | _=>none
def sA:(t:Ty)→t.den→Nat→(au→Tree au)→Tree t.den
 | .pair a b,x,0,f=>(f (.data a x.1)).bind fun v=>match toS a v with
   | some y=>.ret (y,x.2)
   | none=>.fail
 | .pair a b,x,k+1,f=>(sA b x.2 k f).bind fun y=>.ret (x.1,y)
 | _,_,_,_=>.fail
def ql:au→Nat→(au→Tree au)→Tree au
 | .data t x,k,f=>(sA t x k f).bind fun y=>.ret (.data t y)
 | .mix a b,0,f=>(f a).bind fun v=>.ret (.mix v b)
 | .mix a b,k+1,f=>(ql b k f).bind fun v=>.ret (.mix a v)
 | _,_,_=>.fail
def BT:List oz→au→Tree au
 | [],v=>.ret v
 | .wK k off::p,v=>match fG v k with
   | some (o,u)=>bif Nat.beq o off then BT p u else .fail
   | none=>.fail
 | .idx i size::p,v=>match v with
   | .data (.arr _ e) l=>bif Nat.beq size e.size then .look (idx (α:=e.den) l i) fun x=>BT p (.data e x) else .fail
   | _=>.fail
def BU(buf:Bool)(p:List oz)(v:au):Tree au :=
 match buf with
 | false=>BT p v
 | true=>match p,v with
   | .idx i size::p,.data (.slice e) l=>bif Nat.beq size e.size then .look (idx (α:=e.den) l i) fun x=>BT p (.data e x) else .fail
   | _,_=>.fail
def kG:List oz→au→au→Tree au
 | [],_,u=>.ret u
 | .wK k off::p,v,u=>ql v k fun w=>kG p w u
 | .idx i size::p,v,u=>match v with
   | .data (.arr n e) l=>.look (idx (α:=e.den) l i) fun x=>(kG p (.data e x) u).bind fun w=>match toS e w with
     | some y=>.ret (.data (.arr n e) (x5 (α:=e.den) l i y))
     | none=>.fail
   | _=>.fail
def sB(buf:Bool)(p:List oz)(v u:au):Tree au :=
 match buf with
 | false=>kG p v u
 | true=>match p,v with
   | .idx i size::p,.data (.slice e) l=>.look (idx (α:=e.den) l i) fun x=>(kG p (.data e x) u).bind fun w=>match toS e w with
     | some y=>.ret (.data (.slice e) (x5 (α:=e.den) l i y))
     | none=>.fail
   | _,_=>.fail
namespace Tree
theorem run_bind{α β:Type}(t:Tree α)(f:α→Tree β):(t.bind f).run=t.run.bind fun a=>(f a).run:=by
 induction t with
 | ret a=>rfl
 | fail=>rfl
 | node c t e zS KL=>cases c<;>simp[bind,run,zS,KL,b8]
 | look o k ih=>cases o<;>simp[bind,run,ih,ax]
theorem mF{T β:Type}(t:Tree T)(k:T→Tree β):(t.join k).run=t.run.bind fun a=>(k a).run:=by
 unfold join;split
 ·rfl
 ·rename_i c x y;cases c<;>rfl
 ·rfl
end Tree
end Go.Ge
namespace Go.Ge
def jA:Ty→Nat→Option Ty
 | .pair a _,0=>some a
 | .pair _ b,k+1=>jA b k
 | _,_=>none
def Ty.flat:Ty→Bool
 | .slice _=>false
 | .arr _ e=>e.flat
 | .pair a b=>a.flat&&b.flat
 | .alt _ a r=>a.flat&&r.flat
 | _=>true
def aR.row(bx:aR):Option (Ty×Nat) :=
 match bx.buf,bx.val with
 | true,.data (.slice e) l=>some (e,List.length (α:=e.den) l)
 | false,.data (.arr n e) _=>some (e,n)
 | _,_=>none
def dw(e:Ty)(σ:St):au→Option (List e.den)
 | .data (.slice u) l=>toL u e l
 | .gk=>some []
 | .whole b ag=>match σ.mem b with
   | some bx=>bif Nat.beq bx.ag ag&&bx.buf then(match bx.val with|.data (.slice u) l=>toL u e l|_=>none) else none
   | none=>none
 | .part b ag lo n=>match σ.mem b with
   | some bx=>bif Nat.beq bx.ag ag then(match bx.buf,bx.val with
     | true,.data (.slice u) l=>toL u e (sub (α:=u.den) l lo n)
     | false,.data (.arr _ u) l=>toL u e (sub (α:=u.den) l lo n)
     | _,_=>none) else none
   | none=>none
 | _=>none
def live(σ:St)(b ag:Nat):Bool:=match σ.mem b with|some bx=>Nat.beq bx.ag ag|none=>false
def hY(σ:St):(t:Ty)→au→Option t.den
 | .slice e,v=>(dw e σ v:Option (List e.den))
 | .pair a b,v=>match v with
   | .data u x=>Ty.to u (.pair a b) x
   | .mix p q=>(match hY σ a p,hY σ b q with
     | some x,some y=>some (x,y)
     | _,_=>none)
   | _=>none
 | .alt n a r,v=>match v with
   | .data u x=>Ty.to u (.alt n a r) x
   | .iQ=>match hY σ r .iQ with
     | some x=>some (.inr x)
     | none=>none
   | _=>none
 | .nO,v=>match v with
   | .data u x=>Ty.to u .nO x
   | .iQ=>some ()
   | _=>none
 | t,v=>match v with
   | .data u x=>Ty.to u t x
   | _=>none
def freeze(σ:St)(b:Nat):Option St :=
 match σ.mem b with
 | some bx=>bif bx.ro then some σ else bif bx.lk then none else some (σ.bt b { bx with ro:=true })
 | none=>none
def dA(σ:St):au→Option St
 | .whole b _=>freeze σ b
 | .part b _ _ _=>freeze σ b
 | .mix v w=>match dA σ v with
   | some σ=>dA σ w
   | none=>none
 | _=>some σ
def kU(σ:St)(t:Ty)(v:au):Option (t.den×St) :=
 match v with
 | .data u x=>match Ty.to u t x with|some y=>some (y,σ)|none=>none
 | v=>match hY σ t v,dA σ v with
   | some x,some σ=>some (x,σ)
   | _,_=>none
def dR(σ:St):(A:Ty)→List au→Option A.den
 | .unit,[]=>some ()
 | .pair t r,v::vs=>match hY σ t v,dR σ r vs with
   | some x,some y=>some (x,y)
   | _,_=>none
 | _,_=>none
def eX(σ:St):(A:Ty)→List au→Option (A.den×St)
 | .unit,[]=>some ((),σ)
 | .pair t r,v::vs=>match kU σ t v with
   | some (x,σ)=>match eX σ r vs with
     | some (y,σ)=>some ((x,y),σ)
     | none=>none
   | none=>none
 | _,_=>none
def mG:(R:Ty)→R.den→au
 | .pair t r,x=>.mix (.data t x.1) (mG r x.2)
 | _,_=>.nl
def jB(R:Ty)(x:R.den):au :=
 match R,x with
 | .pair t .unit,x=>.data t x.1
 | R,x=>.jT (mG R x)
def nth:au→Nat→Option au
 | .mix a _,0=>some a
 | .mix _ b,k+1=>nth b k
 | _,_=>none
def bitsOf(op:BinOp)(k:IntKind)(x y:Int):Option Int :=
 match op with
 | .and=>some (zR k x y)
 | .or=>some (ED k x y)
 | .xor=>some (EV k x y)
 | .andNot=>some (Gj k x y)
 | _=>none
def Ty.eqv:(t:Ty)→t.den→t.den→Option Bool
 | .int _,x,y=>some (cX x y)
 | .bool,x,y=>some (EC x y)
 | .str,x,y=>some (nP x y)
 | .pair a b,x,y=>match Ty.eqv a x.1 y.1,Ty.eqv b x.2 y.2 with
   | some p,some q=>some (an p q)
   | _,_=>none
 | .unit,_,_=>some true
 | .arr _ e,x,y=>match e,x,y with
   | .int _,x,y=>some (J8 x y)
   | _,_,_=>none
 | _,_,_=>none
def Ty.oS:Ty→Nat
 | .pair a b=>a.oS+b.oS+1
 | .arr _ e=>e.oS+1
 | _=>1
def zT(op:BinOp)(k:IntKind)(a b:Int):Tree au :=
 match op with
 | .add=>.ret (.data (.int k) (kE k a b))
 | .sub=>.ret (.data (.int k) (mA k a b))
 | .mul=>.ret (.data (.int k) (H8 k a b))
 | .quo=>.node (cX b 0) .fail (.ret (.data (.int k) (H9 k a b)))
 | .rem=>.node (cX b 0) .fail (.ret (.data (.int k) (Ia a b)))
 | .eql=>.ret (.data .bool (cX a b))
 | .neq=>.ret (.data .bool (nt (cX a b)))
 | .lss=>.ret (.data .bool (jS a b))
 | .leq=>.ret (.data .bool (BO a b))
 | .gtr=>.ret (.data .bool (jS b a))
 | .geq=>.ret (.data .bool (BO b a))
 | op=>match bitsOf op k a b with
   | some c=>.ret (.data (.int k) c)
   | none=>.fail
def zU(op:BinOp)(x y:List UInt8):Tree au :=
 match op with
 | .add=>.need (fits (plus (len x) (len y))) (.ret (.data .str (app x y)))
 | .eql=>.ret (.data .bool (nP x y))
 | .neq=>.ret (.data .bool (nt (nP x y)))
 | .lss=>.ret (.data .bool (Gi x y))
 | .leq=>.ret (.data .bool (I0 (Gi x y) (nP x y)))
 | .gtr=>.ret (.data .bool (nt (I0 (Gi x y) (nP x y))))
 | .geq=>.ret (.data .bool (nt (Gi x y)))
 | _=>.fail
def isEq:BinOp→Option Bool
 | .eql=>some true
 | .neq=>some false
 | _=>none
def oT:BinOp→Option Bool
 | .shl=>some true
 | .shr=>some false
 | _=>none
def qm(o:Option Ty)(t:Ty):Bool:=match o with|some u=>Ty.beq u t|none=>false
def bin(tt:Option Ty)(pt:Bool)(op:BinOp)(x y:au):Tree au :=
 match x,y with
 | .data (.int k) a,.data (.int k') b =>
   match oT op with
   | some left=>.node (jS b 0) .fail (.ret (.data (.int k) (bif left then BQ k a b else BR k a b)))
   | none=>bif Nat.beq (l9 k) (l9 k') then zT op k a b else .fail
 | .data .str a,.data .str b=>zU op a b
 | .data .bool a,.data .bool b=>bif qm tt .bool then(match isEq op with
   | some true=>.ret (.data .bool (EC a b))
   | some false=>.ret (.data .bool (nt (EC a b)))
   | none=>.fail) else .fail
 | .data (.pair a b) x,.data t y=>bif qm tt (.pair a b)&&Nat.ble (Ty.pair a b).oS 9000 then(match Ty.to t (.pair a b) y,isEq op with
   | some y,some e=>match Ty.eqv (.pair a b) x y with
     | some c=>.ret (.data .bool (bif e then c else nt c))
     | none=>.fail
   | _,_=>.fail) else .fail
 | .data (.arr n e) x,.data t y=>bif qm tt (.arr n e)&&Nat.ble (Ty.arr n e).oS 9000 then(match Ty.to t (.arr n e) y,isEq op with
   | some y,some q=>match Ty.eqv (.arr n e) x y with
     | some c=>.ret (.data .bool (bif q then c else nt c))
     | none=>.fail
   | _,_=>.fail) else .fail
 | .ij,.ij=>match pt,isEq op with|true,some e=>.ret (.data .bool e)|_,_=>.fail
 | _,_=>.fail
def Dd(σ:St)(tt:Option Ty)(pt:Bool)(op:BinOp)(x y:au):Tree au :=
 match x,y with
 | .ptr b ag _,.ij=>bif live σ b ag&&pt then(match isEq op with|some e=>.ret (.data .bool (!e))|none=>.fail) else .fail
 | .ij,.ptr b ag _=>bif live σ b ag&&pt then(match isEq op with|some e=>.ret (.data .bool (!e))|none=>.fail) else .fail
 | x,y=>bin tt pt op x y
def wL(least:Bool)(x y:au):Tree au :=
 match x,y with
 | .data (.int k) a,.data (.int k') b=>bif Nat.beq (l9 k) (l9 k') then .ret (.data (.int k) (bif least then GR a b else imax a b)) else .fail
 | _,_=>.fail
def un(op:UnOp)(x:au):Tree au :=
 match op,x with
 | .not,.data .bool b=>.ret (.data .bool (nt b))
 | .neg,.data (.int k) n=>.ret (.data (.int k) (mA k 0 n))
 | .xor,.data (.int k) n=>.ret (.data (.int k) (EV k (bif k.signed then -1 else k.max) n))
 | _,_=>.fail
def sW:(t:Ty)→t.den→Nat→(u:Ty)→u.den→Option t.den
 | .pair a b,x,0,u,y=>match Ty.to u a y with|some y=>some (y,x.2)|none=>none
 | .pair a b,x,k+1,u,y=>match sW b x.2 k u y with|some z=>some (x.1,z)|none=>none
 | _,_,_,_,_=>none
def dx(σ:St)(t:Ty)(x:t.den):List (Nat×Operand)→Option (t.den×St)
 | []=>some (x,σ)
 | (k,o)::r=>match jA t k with
   | some u=>match kU σ u (bz σ o) with
     | some (y,σ)=>match sW t x k u y with
       | some x=>dx σ t x r
       | none=>none
     | none=>none
   | none=>none
def dh(σ:St)(e:Ty)(l:List e.den):List (Nat×Operand)→Option (List e.den×St)
 | []=>some (l,σ)
 | (k,o)::r=>match kU σ e (bz σ o) with
   | some (y,σ)=>bif Nat.blt k l.length then dh σ e (l.set k y) r else none
   | none=>none
def lenOf(σ:St):au→Option Int
 | .data .str s=>some (len (α:=UInt8) s)
 | .data (.slice e) l=>some (len (α:=e.den) l)
 | .data (.arr n _) _=>bif Nat.ble n 4294967296 then some n else none
 | .gk=>some 0
 | .whole b ag=>match σ.mem b with
   | some bx=>bif Nat.beq bx.ag ag&&bx.buf then(match bx.val with|.data (.slice u) l=>some (len (α:=u.den) l)|_=>none) else none
   | none=>none
 | .part b ag _ n=>bif live σ b ag then some n else none
 | _=>none
def Bk(o:Option Ty):au→Bool
 | .data .str _=>qm o .str
 | .data (.slice e) _=>qm o (.slice e)
 | .data (.arr n e) _=>qm o (.arr n e)
 | .gk|.whole ..|.part ..=>match o with|some (.slice _)=>true|_=>false
 | _=>false
def bounds(σ:St)(n:Int)(lo hi:Option Operand):Option (Int×Int) :=
 match lo,hi with
 | none,none=>some (0,n)
 | some a,none=>match bz σ a with|.data (.int _) x=>some (x,n)|_=>none
 | none,some b=>match bz σ b with|.data (.int _) y=>some (0,y)|_=>none
 | some a,some b=>match bz σ a,bz σ b with|.data (.int _) x,.data (.int _) y=>some (x,y)|_,_=>none
def isRef:au→Bool
 | .ptr ..|.whole ..|.part ..|.fn ..|.ij|.iQ|.jV ..|.mix ..|.cell ..|.gk=>true
 | _=>false
section
variable (cx:Ctx) (nb:Nat) (bf:List Nat) (inl:Nat→List au→St→Tree (au×St))
def eF(d:Option Nat)(ty:TypeId)(v:au)(σ:St):Tree St :=
 match v with
 | .undef=>bif bN cx.iY ty then .ret (σ.aD d .undef) else .fail
 | .gk=>match d,find cx.T ty with
   | some d,some (.slice e)=>bif bN bf d then σ.ay (nb+d) (.data (.slice e) []) 0 true fun ag σ=>.ret (σ.put d (.whole (nb+d) ag))
     else .ret (σ.put d (.data (.slice e) []))
   | _,_=>.ret (σ.aD d .gk)
 | v=>.ret (σ.aD d v)
def gm(d:Option Nat)(c a b:au)(σ:St):Tree St :=
 match c with
 | .data .bool c=>match a,b with
   | .data t x,.data u y=>match Ty.to u t y with
     | some y=>.ret (σ.aD d (.data t (b8 c x y)))
     | none=>.fail
   | a,b=>.node c (.ret (σ.aD d a)) (.ret (σ.aD d b))
 | _=>.fail
def De:(t:Ty)→t.den→au
 | .pair a b,x=>.mix (.data a x.1) (De b x.2)
 | t,x=>.data t x
def Df:au→au
 | .data t x=>De t x
 | v=>v
def BV:Ty→au→Bool
 | .slice _,.whole ..=>true
 | t,.data u _=>Ty.beq u t
 | _,_=>false
def x8:Ty→au→Bool
 | .pair a b,.mix p q=>BV a p&&x8 b q
 | t,.data u _=>Ty.beq u t
 | _,_=>false
def Dg(u:Ty):au→Bool
 | .whole b ag=>BV u (.whole b ag)
 | .mix p q=>x8 u (.mix p q)
 | _=>false
def Dh:au→Bool
 | .data (.pair _ _) _=>true
 | .mix ..=>true
 | _=>false
def lJ(ty:TypeId):au→Bool
 | .mix p q=>match find cx.T ty with|some u=>x8 u (.mix p q)|none=>false
 | _=>false
def kH(ty:TypeId):au→Bool
 | .data u _=>qm (find cx.T ty) u
 | .whole ..=>match find cx.T ty with|some (.slice _)=>true|_=>false
 | .ptr ..|.ij|.fn ..=>bN cx.iY ty
 | _=>false
def fc(d:Option Nat)(ty:TypeId)(a:au)(σ:St):Tree St :=
 match a with
 | .cell u x=>bif qm (find cx.T ty) u then .ret (σ.aD d (.data u x)) else .fail
 | .ptr b ag p=>match σ.mem b with
   | some bx=>bif Nat.beq bx.ag ag then(BU bx.buf p bx.val).bind fun v=>bif kH cx ty v||lJ cx ty v then .ret (σ.aD d v) else .fail else .fail
   | none=>.fail
 | _=>.fail
def storeAt(b ag:Nat)(p:List oz)(fit:au→Bool)(v:au)(σ:St):Tree St :=
 match σ.mem b with
 | some bx=>bif Nat.beq bx.ag ag&&!bx.lk&&!bx.ro then
    (BU bx.buf p bx.val).bind fun old=>bif fit old then(sB bx.buf p bx.val v).bind fun c=>.ret (σ.bt b { bx with val:=c }) else .fail
   else .fail
 | none=>.fail
def iE(b ag:Nat)(p:List oz)(n:Nat)(v:au)(σ:St):Tree St :=
 match σ.mem b with
 | some bx=>bif Nat.beq bx.ag ag&&!bx.lk&&!bx.ro&&!bx.buf&&Dh bx.val then
    (BT p (Df bx.val)).bind fun old=>bif Nat.beq (bL old) n then(kG p (Df bx.val) v).bind fun c=>bif Dh c then .ret (σ.bt b { bx with val:=c }) else .fail else .fail
   else .fail
 | none=>.fail
def BW(u:Ty):au→Bool
 | .data t _=>Ty.beq t u
 | _=>false
def Bl:au→Bool
 | .undef=>true
 | _=>false
def fh(ty:TypeId)(a v:au)(σ:St):Tree St :=
 match a with
 | .ptr b ag p=>match σ.mem b with
   | some bx=>bif Nat.beq bx.ag ag then(BU bx.buf p bx.val).bind fun old=>match old with
      | .data u _=>bif qm (find cx.T ty) u then(bif bN bf 8000000&&Dg u v then iE b ag p u.size v σ else match kU σ u v with
       | some (y,σ)=>storeAt b ag p (BW u) (.data u y) σ
       | none=>.fail) else .fail
      | _=>bif kH cx ty v&&isRef v then storeAt b ag p (fun old=>(kH cx ty old&&isRef old)||Bl old) v σ else .fail
     else .fail
   | none=>.fail
 | _=>.fail
def fo(d:Option Nat)(ty:TypeId)(x:au)(lo hi:Option Operand)(σ:St):Tree St :=
 match find cx.T ty,x with
 | some .str,.data .str s=>match bounds σ (len (α:=UInt8) s) lo hi with
   | some (a,b)=>.need (inside a b (len (α:=UInt8) s)) (.ret (σ.aD d (.data .str (sub (α:=UInt8) s a (minus b a)))))
   | none=>.fail
 | some (.slice u),.data (.slice e) l=>bif Ty.beq u e then(match bounds σ (len (α:=e.den) l) lo hi with
   | some (a,b)=>.need (inside a b (len (α:=e.den) l)) (.ret (σ.aD d (.data (.slice e) (sub (α:=e.den) l a (minus b a)))))
   | none=>.fail) else .fail
 | some (.slice u),.part c ag l n=>match σ.mem c with
   | some bx=>bif Nat.beq bx.ag ag&&(match bx.row with|some (e,_)=>Ty.beq u e|none=>false) then(match bounds σ n lo hi with
     | some (a,b)=>.need (inside a b n) (.ret (σ.aD d (.part c ag (plus l a) (minus b a))))
     | none=>.fail) else .fail
   | none=>.fail
 | some (.slice u),.whole c ag=>match σ.mem c with
   | some bx=>bif Nat.beq bx.ag ag&&bx.buf then(match bx.val with
     | .data (.slice e) l=>bif Ty.beq u e then(match lo,hi with
       | none,none=>.ret (σ.aD d (.whole c ag))
       | lo,hi=>match bounds σ (len (α:=e.den) l) lo hi with
         | some (a,b)=>.need (inside a b (len (α:=e.den) l)) (.ret (σ.aD d (.part c ag a (minus b a))))
         | none=>.fail) else .fail
     | _=>.fail) else .fail
   | none=>.fail
 | some (.arr m u),.ptr c ag (s::q)=>bif live σ c ag&&Nat.ble m 4294967296 then(match bounds σ m lo hi with
   | some (a,b)=>.need (inside a b m) (.ret (σ.aD d (.win c ag (s::q) u m a (minus b a))))
   | none=>.fail) else .fail
 | some (.arr m u),.ptr c ag []=>match σ.mem c with
   | some bx=>bif Nat.beq bx.ag ag&&!bx.buf then(match bx.val with
     | .data (.arr n e) _=>bif Nat.beq m n&&Ty.beq u e&&Nat.ble n 4294967296 then(match bounds σ n lo hi with
       | some (a,b)=>.need (inside a b n) (.ret (σ.aD d (.part c ag a (minus b a))))
       | none=>.fail) else .fail
     | _=>.fail) else .fail
   | none=>.fail
 | _,_=>.fail
def lK(σ:St)(b ag:Nat):Option (Ty×Int):=match σ.mem b with
 | some bx=>bif Nat.beq bx.ag ag then(match bx.buf,bx.val with
   | true,.data (.slice e) l=>some (e,len (α:=e.den) l)
   | false,.data (.arr n e) _=>some (e,n)
   | _,_=>none) else none
 | none=>none
def vL(ty:TypeId):Option Nat :=
 match find cx.T ty with
 | some _=>none
 | none=>match find cx.els ty with
   | some e=>bif bN cx.iY e then some e else none
   | none=>none
def sX(d:Option Nat)(b ag:Nat)(σ:St)(i:Int):Nat→Nat→Tree St
 | 0,_=>.fail
 | m+1,k=>.node (cX i k) (.ret (σ.aD d (.ptr b ag [.wK k k]))) (sX d b ag σ i m (k+1))
def sC:List oz→Bool
 | [.wK _ off]=>Nat.beq off 0
 | _=>false
def cu(d:Option Nat)(ty:TypeId)(x:au)(i:Int)(σ:St):Tree St :=
 match find cx.T ty,x with
 | some (.slice u),.data (.slice e) l=>bif Ty.beq u e then .look (idx (l:List e.den) i) fun y=>.ret (σ.aD d (.cell e y)) else .fail
 | some (.arr m u),.cell (.arr n e) l=>bif Ty.beq u e&&Nat.beq m n then .look (idx (l:List e.den) i) fun y=>.ret (σ.aD d (.cell e y)) else .fail
 | some (.slice u),.whole b ag=>match lK σ b ag with
   | some (e,n)=>bif Ty.beq u e then .need (within i n) (.ret (σ.aD d (.ptr b ag [.idx i e.size]))) else .fail
   | none=>.fail
 | some (.slice u),.part b ag lo n=>match lK σ b ag with
   | some (e,_)=>bif Ty.beq u e then .need (within i n) (.ret (σ.aD d (.ptr b ag [.idx (plus lo i) e.size]))) else .fail
   | none=>.fail
 | some (.arr m u),.ptr b ag p=>bif live σ b ag then .need (within i m) (.ret (σ.aD d (.ptr b ag (p++[.idx i u.size])))) else .fail
 | none,.win b ag q _ _ lo n=>match vL cx ty with
   | some _=>bif sC q&&decide (lo=0)&&live σ b ag then sX d b ag σ i n.toNat 0 else .fail
   | none=>.fail
 | _,_=>.fail
def fq(d:Option Nat)(ty:TypeId)(x:au)(i:Int)(σ:St):Tree St :=
 match x,vL cx ty with
 | .win b ag q _ _ lo n,some _=>bif sC q&&decide (lo=0)&&live σ b ag then(match i with
  | .ofNat k=>bif decide ((k:Int)<n) then .ret (σ.aD d (.ptr b ag [.wK k k])) else .fail
  | .negSucc _=>.fail) else .fail
 | x,_=>cu cx d ty x i σ
def fu(d:Option Nat)(ty:TypeId)(x:au)(i:Int)(σ:St):Tree St :=
 match find cx.T ty,x with
 | some .str,.data .str s=>.look (idx (s:List UInt8) i) fun b=>.ret (σ.aD d (.data (.int .u8) (u8 b)))
 | some (.arr m u),.data (.arr n e) l=>bif Ty.beq u e&&Nat.beq m n then .look (idx (l:List e.den) i) fun y=>.ret (σ.aD d (.data e y)) else .fail
 | _,_=>.fail
def gf.size:gf→Nat
 | .dat t=>t.size
 | _=>1
def lM:List gf→Nat→Option Nat
 | [],_=>none
 | _::_,0=>some 0
 | f::r,k+1=>match lM r k with|some o=>some (f.size+o)|none=>none
def cF(d:Option Nat)(s:TypeId)(x:au)(k:Nat)(σ:St):Tree St :=
 match x with
 | .cell u y=>bif qm (find cx.T s) u then(match fG (.data u y) k with
   | some (_,.data t z)=>.ret (σ.aD d (.cell t z))
   | _=>.fail) else .fail
 | .ptr b ag p=>bif live σ b ag then(match find cx.T s with
   | some t=>match eE t k,jA t k with
     | some off,some _=>.ret (σ.aD d (.ptr b ag (p++[.wK k off])))
     | _,_=>.fail
   | none=>match find cx.jz s with
     | some fs=>match lM fs k with
       | some off=>.ret (σ.aD d (.ptr b ag (p++[.wK k off])))
       | none=>.fail
     | none=>.fail) else .fail
 | _=>.fail
def dI(d:Option Nat)(src dst:TypeId)(x:au)(σ:St):Tree St :=
 match find cx.T src,find cx.T dst,x with
 | some (.int _),some (.int k),.data (.int _) n=>.ret (σ.aD d (.data (.int k) (HK k n)))
 | some .str,some .str,.data .str s=>.ret (σ.aD d (.data .str s))
 | some .str,some (.slice (.int .u8)),.data .str s=>match d with
   | some d=>.need (fits (len (α:=UInt8) s)) (σ.ay (nb+d) (.data (.slice (.int .u8)) (bO s)) 0 true fun ag σ=>.ret (σ.put d (.whole (nb+d) ag)))
   | none=>.fail
 | some (.slice (.int .u8)),some .str,x=>match dw (.int .u8) σ x with
   | some l=>.ret (σ.aD d (.data .str (cl l)))
   | none=>.fail
 | _,_,_=>.fail
def jC(e:Ty)(σ:St)(x:au):Option (List e.den):=match x with
 | .data .str t=>toL (.int .u8) e (bO t)
 | x=>dw e σ x
def GS(ty t:Nat):Bool:=Nat.beq t 0||(match find cx.els ty with|some e=>Nat.beq e t|none=>false)
def dM(d:Option Nat)(ty:TypeId)(s x:au)(σ:St):Tree St :=
 match d,find cx.T ty with
 | some d,some (.slice e) =>
   match jC e σ x with
   | some m=>match s with
     | .gk=>.need (fits (len (α:=e.den) m)) (σ.ay (nb+d) (.data (.slice e) m) 0 true fun ag σ=>.ret (σ.put d (.whole (nb+d) ag)))
     | .whole b ag=>match σ.mem b,dw e σ (.whole b ag) with
       | some bx,some l=>bif bx.lk||!GS cx ty bx.tid then .fail else
         .need (fits (plus (len (α:=e.den) l) (len (α:=e.den) m))) (.ret ((σ.bt b { bx with val:=.data (.slice e) (app (α:=e.den) l m),ag:=ag+1 }).put d (.whole b (ag+1))))
       | _,_=>.fail
     | _=>.fail
   | none=>.fail
 | _,_=>.fail
def eP(e:Ty)(m:List e.den)(b ag:Nat)(q:List oz)(EW:Nat→Ty→Bool)(lo:Int)(σ:St):Tree St :=
 match σ.mem b with
 | some bx=>bif Nat.beq bx.ag ag&&!bx.lk&&!bx.ro then
    (match bx.buf with
    | true=>match q,bx.val with
      | [],.data (.slice u) l=>match toL e u m with
        | some m=>.ret (σ.bt b { bx with val:=.data (.slice u) (over (α:=u.den) l lo m) })
        | none=>.fail
      | _,_=>.fail
    | false=>(BT q bx.val).bind fun old=>match old with
      | .data (.arr k u) l=>bif EW k u then(match toL e u m with
        | some m=>(kG q bx.val (.data (.arr k u) (over (α:=u.den) l lo m))).bind fun c=>.ret (σ.bt b { bx with val:=c })
        | none=>.fail) else .fail
      | _=>.fail)
   else .fail
 | none=>.fail
def qn(e:Ty)(m:Int→List e.den)(t:au)(σ:St):Tree (Int×St) :=
 match t with
 | .part b ag lo n=>(eP e (m n) b ag [] (fun _ _=>true) lo σ).bind fun σ=>.ret (n,σ)
 | .whole b ag=>match lenOf σ t with|some n=>(eP e (m n) b ag [] (fun _ _=>true) 0 σ).bind fun σ=>.ret (n,σ)|none=>.fail
 | .win b ag q u k lo n=>(eP e (m n) b ag q (fun k' u'=>Nat.beq k k'&&Ty.beq u u') lo σ).bind fun σ=>.ret (n,σ)
 | _=>.fail
def kV(d:Option Nat)(ty:TypeId)(t x:au)(σ:St):Tree St :=
 match find cx.T ty with
 | some (.slice e)=>match jC e σ x with
   | none=>.fail
   | some m=>(qn e (fun n=>mE (α:=e.den) m n) t σ).bind fun r=>.ret (r.2.aD d (.data (.int .i64) (len (mE (α:=e.den) m r.1))))
 | _=>.fail
def kW(ty:TypeId)(t:au)(σ:St):Tree St :=
 match find cx.T ty with
 | some (.slice e)=>(qn e (fun n=>wJ n e.zero) t σ).bind fun r=>.ret r.2
 | _=>.fail
def sY:(o:OT)→o.den→(N M:List (Nat×Nat))→au
 | .dat t,x,_,_=>.data t x
 | .buf _ _,_,_,M=>match M with|(b,v)::_=>.whole b v|[]=>.undef
 | .ref _ _,_,N,_=>match N with|(b,v)::_=>.ptr b v []|[]=>.undef
 | .pair p q,u,N,M=>.mix (sY p u.1 (N.take p.nr) (M.take p.nb)) (sY q u.2 (N.drop p.nr) (M.drop p.nb))
 | .unit,_,_,_=>.data .unit ()
def dZ:(o:OT)→o.den→(N M:List (Nat×Nat))→Nat→Option aR
 | .dat _,_,_,_,_=>none
 | .buf e bX,l,_,M,c=>match M with
   | (b,v)::_=>bif Nat.beq c b then some { val:=.data (.slice e) l,tid:=bX,buf:=true,ro:=false,lk:=false,ag:=v } else none
   | []=>none
 | .ref tid o,u,N,M,c=>match N with
   | (b,v)::N=>bif Nat.beq c b then some { val:=sY o u N M,tid,buf:=false,ro:=false,lk:=false,ag:=v } else dZ o u N M c
   | []=>none
 | .pair p q,u,N,M,c=>match dZ p u.1 (N.take p.nr) (M.take p.nb) c with
   | some x=>some x
   | none=>dZ q u.2 (N.drop p.nr) (M.drop p.nb) c
 | .unit,_,_,_,_=>none
def bV(mem:Nat→Option aR):(o:OT)→au→Option (o.den×List (Nat×Nat)×List (Nat×Nat))
 | .dat t,v=>match toS t v with|some x=>some (x,[],[])|none=>none
 | .buf e bX,v=>match v with
   | .whole b ag=>match mem b with
     | some bx=>bif Nat.beq bx.ag ag&&bx.buf&&!bx.lk&&!bx.ro&&Nat.beq bx.tid bX&&Nat.blt 0 e.size then(match bx.val with
       | .data (.slice u) l=>match toL u e l with|some l=>some (l,[],[(b,ag)])|none=>none
       | _=>none) else none
     | none=>none
   | _=>none
 | .ref tid o,v=>match v with
   | .ptr b ag []=>match mem b with
     | some bx=>bif Nat.beq bx.ag ag&&!bx.buf&&!bx.lk&&!bx.ro&&Nat.beq bx.tid tid then(match bV mem o bx.val with
       | some (u,N,M)=>some (u,(b,ag)::N,M)
       | none=>none) else none
     | none=>none
   | _=>none
 | .pair p q,v=>match v with
   | .mix a b=>match bV mem p a,bV mem q b with
     | some (x,N,M),some (y,N',M')=>some ((x,y),N++N',M++M')
     | _,_=>none
   | _=>none
 | .unit,v=>match v with|.data .unit _=>some ((),[],[])|_=>none
def sZ:List Nat→Bool
 | []=>true
 | b::r=>!bN r b&&sZ r
def aK(N M:List (Nat×Nat)):List Nat:=N.map (·.1)++M.map (·.1)
def dm(σ:St):List Bool→(A:Ty)→(U:OT)→List au→Option (A.den×U.den×List (Nat×Nat)×List (Nat×Nat))
 | [],A,U,vs=>match A,U,vs with
   | .unit,.unit,[]=>some ((),(),[],[])
   | _,_,_=>none
 | false::ps,A,U,vs=>match A,vs with
   | .pair t A,v::vs=>match BS t v,dm σ ps A U vs with
     | some x,some (y,u,q)=>some ((x,y),u,q)
     | _,_=>none
   | _,_=>none
 | true::ps,A,U,vs=>match U,vs with
   | .pair (.ref tid o) U,v::vs=>match bV σ.mem (.ref tid o) v,dm σ ps A U vs with
     | some (x,N,M),some (y,u,N',M')=>some (y,(x,u),N++N',M++M')
     | _,_=>none
   | _,_=>none
def eY(U:OT)(u:U.den)(N M:List (Nat×Nat))(σ:St):St :=
 { σ with mem:=fun c=>match dZ U u N (M.map fun p=>(p.1,p.2+1)) c with
  | some bx=>some bx
  | none=>σ.mem c }
def sD:au→Bool
 | .whole ..=>true
 | _=>false
def nA(s:EE)(d:Option Nat)(args:List au)(σ:St):Tree St :=
 match s,args with
 | .EW T,[.ptr b ag []]=>match σ.mem b with
   | some bx=>match bx.val with
     | .mix (.jV b' v') (.mix u (.data .unit _))=>bif Nat.beq bx.ag ag&&!bx.buf&&!bx.lk&&!bx.ro&&Nat.beq bx.tid T&&Nat.blt 0 T&&Nat.beq b' b&&Nat.beq v' ag&&sD u then .ret (σ.aD d (.jT .nl)) else .fail
     | _=>.fail
   | none=>.fail
 | .str T E,[.ptr b ag []]=>match σ.mem b with
   | some bx=>match bx.val with
     | .mix (.jV _ _) (.mix (.whole h hv) (.data .unit _))=>bif Nat.beq bx.ag ag&&!bx.buf&&Nat.beq bx.tid T&&Nat.blt 0 T&&!Nat.beq h b then(match σ.mem h with
       | some hx=>bif Nat.beq hx.ag hv&&hx.buf&&!hx.lk&&Nat.beq hx.tid E&&Nat.blt 0 E then(match hx.val with
         | .data (.slice (.int .u8)) l=>.ret ((σ.bt h { hx with val:=.data (.slice (.int .u8)) [],ag:=hx.ag+1 }).aD d (.data .str (cl l)))
         | _=>.fail) else .fail
       | none=>.fail) else .fail
     | _=>.fail
   | none=>.fail
 | _,_=>.fail
def x9(d:Option Nat):Option Nat:=match d with|some d=>bif bN bf d then some d else none|none=>none
def fy(e:Ty)(d:Option Nat)(args:List au)(σ:St):Tree St :=
 match d,args with
 | some d,[x]=>match kU σ (.slice e) x with
   | some (l,σ)=>bif Nat.blt 0 e.size then .need (fits (len (α:=e.den) l)) (σ.ay (nb+d) (.data (.slice e) l) 0 true fun ag σ=>.ret (σ.put d (.whole (nb+d) ag))) else .fail
   | none=>.fail
 | _,_=>.fail
def mH(e:Ty)(σ:St):au→Option (Nat×Nat×aR×List e.den)
 | .whole b ag=>match σ.mem b with
   | some bx=>bif Nat.beq bx.ag ag&&bx.buf&&!bx.lk&&!bx.ro&&Nat.beq bx.tid 0 then(match bx.val with
     | .data (.slice u) l=>(match toL u e l with|some l=>some (b,ag,bx,l)|none=>none)
     | _=>none) else none
   | none=>none
 | .part b ag lo n=>match σ.mem b with
   | some bx=>bif Nat.beq bx.ag ag&&bx.buf&&!bx.lk&&!bx.ro&&Nat.beq bx.tid 0&&decide (lo=0) then(match bx.val with
     | .data (.slice u) l=>(match toL u e l with|some l=>some (b,ag,bx,sub (α:=e.den) l lo n)|none=>none)
     | _=>none) else none
   | none=>none
 | _=>none
def iF(e A:Ty)(res:Bool)(spec:List e.den→A.den→Option (List e.den))(d:Option Nat)(args:List au)(σ:St):Tree St :=
 match args with
 | v::vs=>match eX σ A vs with
   | some (x,σ)=>match mH e σ v with
     | some (b,ag,bx,l)=>.look (spec l x) fun l'=>match res,d with
       | true,some d=>.ret ((σ.bt b { bx with val:=.data (.slice e) l',ag:=ag+1 }).put d (.whole b (ag+1)))
       | false,d=>bif sD v then .ret ((σ.bt b { bx with val:=.data (.slice e) l' }).aD d (.jT .nl)) else .fail
       | _,_=>.fail
     | none=>.fail
   | none=>.fail
 | []=>.fail
def kI(d:Option Nat)(f:Nat):Option EE :=
 match find cx.x6 f with
 | some (.clone e)=>match x9 bf d with|some _=>some (.clone e)|none=>none
 | some (.own e A r s)=>some (.own e A r s)
 | _=>none
def kJ(d:Option Nat)(f:Nat)(args:List au)(σ:St):Tree St :=
 match find cx.gE f with
 | some c=>match c.R.flat with
   | true=>match dR σ c.A args with
     | some x=>.look (c.spec x) fun y=>.ret (σ.aD d (jB c.R y))
     | none=>.fail
   | false=>match eX σ c.A args with
     | some (x,σ)=>.look (c.spec x) fun y=>.ret (σ.aD d (jB c.R y))
     | none=>.fail
 | none=>match find cx.x6 f with
  | some s=>nA s d args σ
  | none=>match find cx.cO f with
   | some c=>(match dm σ c.ps c.A c.U args with
     | some (x,u,N,M)=>bif sZ (aK N M) then .look (c.spec (x,u)) fun y=>.ret ((eY c.U y.2 N M σ).aD d (jB c.R y.1)) else .fail
     | none=>(inl f args σ).bind fun r=>.ret (r.2.aD d r.1))
   | none=>(inl f args σ).bind fun r=>.ret (r.2.aD d r.1)
def jk(d:Option Nat)(f:Nat)(args:List au)(σ:St):Tree St :=
 match kI cx bf d f with
 | some (.clone e)=>fy nb e d args σ
 | some (.own e A r s)=>iF e A r s d args σ
 | _=>kJ cx inl d f args σ
def ya:(t:Ty)→(u:Nat)→Option ((a:Ty)×(a.den→t.den))
 | .alt n a r,u=>bif Nat.beq n u then some ⟨a,.inl⟩ else match ya r u with
   | some ⟨b,f⟩=>some ⟨b,fun x=>.inr (f x)⟩
   | none=>none
 | _,_=>none
def iq(d:Option Nat)(ty u:TypeId)(x:au)(σ:St):Tree St :=
 match find cx.T ty with
 | some t=>match ya t u with
   | some ⟨a,f⟩=>match kU σ a x with
     | some (y,σ)=>.ret (σ.aD d (.data t (f y)))
     | none=>.fail
   | none=>.fail
 | none=>.fail
def ir(d:Option Nat)(name:String)(args:List au)(σ:St):Tree St :=
 match x7 cx.inv name with
 | some c=>match eX σ c.A args with
   | some (x,σ)=>.look (c.spec x) fun y=>.ret (σ.aD d (jB c.R y))
   | none=>.fail
 | none=>.fail
def jD(d:Option Nat)(ty:TypeId)(c:Call)(σ:St):Tree St :=
 match c.callee with
 | .builtin b=>match b,c.args.toList.map (bz σ),c.argTypes.toList with
   | .len,[x],[t]=>bif Bk (find cx.T t) x then(match lenOf σ x with
     | some n=>.ret (σ.aD d (.data (.int .i64) n))
     | none=>.fail) else(match vL cx t,x with
     | some _,.win b ag _ _ _ _ n=>bif live σ b ag&&decide (n≤64) then .ret (σ.aD d (.data (.int .i64) n)) else .fail
     | _,_=>.fail)
   | .append,[s,x],[t,u]=>match find cx.T u with
     | some .str|some (.slice _)=>dM cx nb d t s x σ
     | _=>.fail
   | .copy,[t,x],[tt,tx]=>match find cx.T tx with
     | some .str|some (.slice _)=>kV cx d tt t x σ
     | _=>.fail
   | .clear,[t],[tt]=>match d with|none=>kW cx tt t σ|some _=>.fail
   | .min,[x,y],_=>wL true x y |>.bind fun v=>.ret (σ.aD d v)
   | .max,[x,y],_=>wL false x y |>.bind fun v=>.ret (σ.aD d v)
   | _,_,_=>.fail
 | .value f=>match bz σ f with
   | .fn f caps=>bif caps.all (fun b=>live σ b.1 b.2) then jk cx nb bf inl d f (c.args.toList.map (bz σ)++caps.map fun b=>.ptr b.1 b.2 []) σ else .fail
   | _=>.fail
 | .invoke r name=>ir cx d name (bz σ r::c.args.toList.map (bz σ)) σ
def qo:List au→Option (List (Nat×Nat))
 | []=>some []
 | .ptr b ag []::r=>(qo r).map ((b,ag)::·)
 | _=>none
def sE(σ:St)(b:Nat):Nat:=match σ.mem b with|some bx=>bx.ag+1|none=>0
def mkObj(b ag:Nat):List gf→Nat→St→Tree (au×St)
 | [],_,σ=>.ret (.data .unit (),σ)
 | .dat t::r,j,σ=>(mkObj b ag r (j+1) σ).bind fun x=>.ret (.mix (.data t t.zero) x.1,x.2)
 | .one::r,j,σ=>(mkObj b ag r (j+1) σ).bind fun x=>.ret (.mix .ij x.1,x.2)
 | .self::r,j,σ=>(mkObj b ag r (j+1) σ).bind fun x=>.ret (.mix (.jV b ag) x.1,x.2)
 | .buf e bX::r,j,σ=>bif Nat.blt 0 e.size then σ.ay (b*1000+999-j) (.data (.slice e) []) bX true fun v σ=>(mkObj b ag r (j+1) σ).bind fun x=>.ret (.mix (.whole (b*1000+999-j) v) x.1,x.2) else .fail
def iG:List gf→Option au
 | []=>some (.data .unit ())
 | .dat t::r=>match iG r with|some v=>some (.mix (.data t t.zero) v)|none=>none
 | .buf _ _::r=>match iG r with|some v=>some (.mix .gk v)|none=>none
 | .one::r=>match iG r with|some v=>some (.mix .ij v)|none=>none
 | .self::_=>none
def fH(σ:St)(fs:List gf):au→List (Nat×Operand)→Option au
 | v,[]=>some v
 | v,(k,x)::r=>match fG v k,lM fs k,fs[k]? with
   | some (o,.data t _),some o',some f=>bif Nat.beq o o'&&Nat.beq t.size f.size then(match toS t (bz σ x) with
     | some y=>match(ql v k fun _=>.ret (.data t y)).run with
       | some v=>fH σ fs v r
       | none=>none
     | none=>none) else none
   | _,_,_=>none
def fU(b:Nat):List gf→Nat→au→St→Tree (au×St)
 | [],_,.data .unit x,σ=>.ret (.data .unit x,σ)
 | .dat _::r,j,.mix (.data u y) v,σ=>(fU b r (j+1) v σ).bind fun x=>.ret (.mix (.data u y) x.1,x.2)
 | .one::r,j,.mix .ij v,σ=>(fU b r (j+1) v σ).bind fun x=>.ret (.mix .ij x.1,x.2)
 | .buf e bX::r,j,.mix .gk v,σ=>bif Nat.blt 0 e.size then σ.ay (b*1000+999-j) (.data (.slice e) []) bX true fun ag σ=>(fU b r (j+1) v σ).bind fun x=>.ret (.mix (.whole (b*1000+999-j) ag) x.1,x.2) else .fail
 | _,_,_,_=>.fail
def mI(σ:St):Nat→List (Nat×Operand)→Option au
 | _,[]=>some (.data .unit ())
 | k,(j,x)::r=>bif Nat.beq j k then(match bz σ x,mI σ (k+1) r with
   | .ij,some v=>some (.mix .ij v)
   | .ptr b ag p,some v=>some (.mix (.ptr b ag p) v)
   | .fn f c,some v=>some (.mix (.fn f c) v)
   | _,_=>none) else none
def nB(d:Option Nat)(t:TypeId)(len:Nat)(parts:List (Nat×Operand))(σ:St):Tree St :=
 match d,vL cx t,mI σ 0 parts with
 | some d,some _,some v=>bif Nat.beq len parts.length&&Nat.blt 0 len&&Nat.ble len 64 then
  σ.ay (nb+d) v 0 false fun ag σ=>.ret (σ.put d (.win (nb+d) ag [.wK 0 0] .bool len 0 len)) else .fail
 | _,_,_=>.fail
def oU(d:Option Nat)(elem:TypeId)(x:au)(σ:St):Tree St :=
 match d,x with
 | some _,.undef=>.fail
 | some _,.jT _=>.fail
 | some d,v=>match find cx.jz elem with
   | some fs=>(fU (nb+d) fs 0 v σ).bind fun r=>r.2.ay (nb+d) r.1 elem false fun ag σ=>.ret (σ.put d (.ptr (nb+d) ag []))
   | none=>σ.ay (nb+d) v 0 false fun ag σ=>.ret (σ.put d (.ptr (nb+d) ag []))
 | none,_=>.fail
def ju(d:Nat)(t:Ty)(σ:St):Tree St :=
 match x9 bf (some d),t with
 | some _,.slice e=>bif Nat.blt 0 e.size then σ.ay ((nb+d)*1000+999) (.data (.slice e) []) 0 true fun v σ =>
  σ.ay (nb+d) (.whole ((nb+d)*1000+999) v) 0 false fun ag σ=>.ret (σ.put d (.ptr (nb+d) ag [])) else .fail
 | _,t=>σ.ay (nb+d) (.data t t.zero) 0 false fun ag σ=>.ret (σ.put d (.ptr (nb+d) ag []))
def gP(o:Oper)(σ:St):Tree St :=
 match o.op with
 | .move x|.assign x=>eF cx nb bf o.dst o.type (bz σ x) σ
 | .pick c a b=>gm o.dst (bz σ c) (bz σ a) (bz σ b) σ
 | .alloc elem=>match o.dst,find cx.T elem with
   | some d,some t=>ju nb bf d t σ
   | some d,none=>match find cx.jz elem with
     | some fs=>(mkObj (nb+d) (sE σ (nb+d)) fs 0 σ).bind fun r=>r.2.ay (nb+d) r.1 elem false fun ag σ=>.ret (σ.put d (.ptr (nb+d) ag []))
     | none=>bif bN cx.iY elem then σ.ay (nb+d) .undef 0 false fun ag σ=>.ret (σ.put d (.ptr (nb+d) ag [])) else .fail
   | _,_=>.fail
 | .box elem x=>oU cx nb o.dst elem (bz σ x) σ
 | .build t parts=>match find cx.T t with
   | some (.pair a b)=>match dx σ (.pair a b) (Ty.pair a b).zero parts.toList with
     | some (x,σ)=>.ret (σ.aD o.dst (.data (.pair a b) x))
     | none=>.fail
   | some (.arr n e)=>match dh σ e (List.replicate n e.zero) parts.toList with
     | some (l,σ)=>.ret (σ.aD o.dst (.data (.arr n e) l))
     | none=>.fail
   | none=>match find cx.jz t with
     | some fs=>match iG fs with
       | some z=>match fH σ fs z parts.toList with
         | some (.mix p q)=>.ret (σ.aD o.dst (.mix p q))
         | some (.data .unit _)=>.ret (σ.aD o.dst (.data .unit ()))
         | _=>.fail
       | none=>.fail
     | none=>.fail
   | _=>.fail
 | .buildSlice t len parts=>match find cx.T t with
   | some (.slice e)=>match x9 bf o.dst,len,parts.toList with
     | some d,0,[]=>σ.ay (nb+d) (.data (.slice e) []) 0 true fun ag σ=>.ret (σ.put d (.whole (nb+d) ag))
     | _,_,_=>bif Nat.ble (len*e.size) 65536 then(match dh σ e (List.replicate len e.zero) parts.toList with
     | some (l,σ)=>.ret (σ.aD o.dst (.data (.slice e) l))
     | none=>.fail) else .fail
   | none=>nB cx nb o.dst t len parts.toList σ
   | _=>.fail
 | .load t a=>fc cx o.dst t (bz σ a) σ
 | .store t a x=>match o.dst with|none=>fh cx bf t (bz σ a) (bz σ x) σ|some _=>.fail
 | .nilCheck x=>match bz σ x with
   | .ptr b ag p=>bif live σ b ag then .ret (σ.aD o.dst (.ptr b ag p)) else .fail
   | .cell t x=>.ret (σ.aD o.dst (.cell t x))
   | .fn f c=>.ret (σ.aD o.dst (.fn f c))
   | _=>.fail
 | .binOp op xt x y _=>(Dd σ (find cx.T xt) (bN cx.eo xt) op (bz σ x) (bz σ y)).bind fun v=>.ret (σ.aD o.dst v)
 | .unOp op _ x=>(un op (bz σ x)).bind fun v=>.ret (σ.aD o.dst v)
 | .convert src dst x=>dI cx nb o.dst src dst (bz σ x) σ
 | .makeFunc (.func f) first caps=>match first.toList,qo (caps.toList.map (bz σ)) with
   | [],some cs=>.ret (σ.aD o.dst (.fn f cs))
   | _,_=>.fail
 | .slice t x lo hi none=>fo cx o.dst t (bz σ x) lo hi σ
 | .fieldAddr s x k=>cF cx o.dst s (bz σ x) k σ
 | .field xt x k=>match bz σ x with
   | .data u y=>bif qm (find cx.T xt) u then(match fG (.data u y) k with
     | some (_,v)=>.ret (σ.aD o.dst v)
     | none=>.fail) else .fail
   | _=>.fail
 | .indexAddr t x i=>match bz σ i with
   | .data (.int _) i=>bif bN bf 5000000 then fq cx o.dst t (bz σ x) i σ else cu cx o.dst t (bz σ x) i σ
   | _=>.fail
 | .index t x i=>match bz σ i with
   | .data (.int _) i=>fu cx o.dst t (bz σ x) i σ
   | _=>.fail
 | .makeSlice t l c=>match o.dst,find cx.T t,bz σ l,bz σ c with
   | some d,some (.slice e),.data (.int _) l,.data (.int _) c =>
     .need (inside 0 l c) (.need (fits c)
      (σ.ay (nb+d) (.data (.slice e) (wJ l e.zero)) 0 true fun ag σ=>.ret (σ.put d (.whole (nb+d) ag))))
   | _,_,_,_=>.fail
 | .extract t k=>match bz σ t with
   | .jT vs=>match nth vs k with
     | some v=>.ret (σ.aD o.dst v)
     | none=>.fail
   | _=>.fail
 | .call c=>jD cx nb bf inl o.dst o.type c σ
 | .makeInterface u x=>iq cx o.dst o.type u (bz σ x) σ
 | _=>.fail
def lN(g:Option (Nat×Bool))(j:Nat)(want:Bool):Bool :=
 match g with|some (i,b)=>Nat.beq i j&&(b==want)|none=>false
def under(j:Nat)(want:Bool):(inner:List Nat)→List (Nat×Oper)→List (Nat×Oper)×List (Nat×Oper)
 | _,[]=>([],[])
 | inner,(i,o)::r =>
   bif lN o.guard j want then let x:=under j want (i::inner) r;((i,{ o with guard:=none })::x.1,x.2)
   else bif (match o.guard with|some (k,_)=>inner.any (Nat.beq k)|none=>false) then let x:=under j want (i::inner) r;((i,o)::x.1,x.2)
   else([],(i,o)::r)
def sF(cx:Ctx):List (Nat×Oper)→Bool
 | []=>false
 | (_,o)::r=>(match o.op with
   | .call c=>match c.callee with
     | .value (.func f)=>match find cx.gE f with|some _=>false|none=>true
     | .value _=>true
     | .builtin .append=>true
     | _=>false
   | .store ..=>true
   | _=>false)||sF cx r
def St.dS(σ:St):St:={ σ with mem:=fun i=>match σ.mem i with|some b=>some { b with lk:=true }|none=>none }
def St.undef(σ:St):List (Nat×Oper)→St
 | []=>σ
 | (_,o)::r=>(σ.undef r).aD o.dst .undef
def fV(d:Nat):List (Nat×Oper)→Bool
 | []=>false
 | (_,o)::r=>(match o.dst with|some k=>Nat.beq k d|none=>false)||fV d r
def lO(σ:St)(pk:Oper)(dj:Nat)(want:Bool):Option au :=
 match pk.op with
 | .pick (.tmp c) a b=>bif Nat.beq c dj then some (bz σ (bif want then a else b)) else none
 | _=>none
def gQ(all:Array Oper):Nat→List (Nat×Oper)→St→Tree St
 | 0,_,_=>.fail
 | n+1,[],σ=>.ret σ
 | n+1,(i,o)::r,σ =>
   match o.guard with
   | none=>(gP cx nb bf inl o σ).bind fun σ=>gQ all n r σ
   | some (j,want) =>
     let g:=under j want [] ((i,o)::r)
     match(all[j]?).bind (·.dst) with
     | none=>.fail
     | some dj=>match σ.slots dj,g.2 with
       | .data .bool c,(_,pk)::rest=>bif fV dj g.1 then .fail else match pk.guard with
         | some _=>.fail
         | none =>
           let c':=bif want then c else nt c
           bif sF cx g.1 then
            (Tree.node c' ((gQ all n g.1 σ).bind fun σ=>match lO σ pk dj want with
              | some v=>.ret (σ.aD pk.dst v)
              | none=>.fail)
             (match lO (σ.undef g.1) pk dj (!want) with
              | some v=>.ret ((σ.undef g.1).aD pk.dst v)
              | none=>.fail)).bind fun σ=>gQ all n rest σ
           else match find cx.T pk.type,pk.dst with
            | some t,some dp=>(Tree.node c' ((gQ all n g.1 σ.dS).bind fun τ=>match(lO τ pk dj want).bind (BS t) with
              | some x=>.ret x
              | none=>.fail)
             (match(lO (σ.undef g.1) pk dj (!want)).bind (BS t) with
              | some x=>.ret x
              | none=>.fail)).join fun x=>gQ all n rest ((σ.undef g.1).put dp (.data t x))
            | _,_=>.fail
       | _,_=>.fail
def number:Nat→List Oper→List (Nat×Oper)
 | _,[]=>[]
 | k,o::r=>(k,o)::number (k+1) r
def s5(ops:Array Oper)(σ:St):Tree St:=gQ cx nb bf inl ops (2*ops.size+1) (number 0 ops.toList) σ
def cH:Op→List Operand
 | .move x|.assign x|.box _ x|.load _ x|.nilCheck x|.unOp _ _ x|.convert _ _ x|.fieldAddr _ x _|.field _ x _|.extract x _=>[x]
 | .pick c a b=>[c,a,b]
 | .build _ ps|.buildSlice _ _ ps=>ps.toList.map (·.2)
 | .store _ a x=>[a,x]
 | .binOp _ _ x y _=>[x,y]
 | .makeFunc _ f c=>f.toList++c.toList
 | .slice _ x lo hi _=>x::(lo.toList++hi.toList)
 | .indexAddr _ x i|.index _ x i=>[x,i]
 | .makeSlice _ l c=>[l,c]
 | .call c=>(match c.callee with|.value f=>[f]|.invoke r _=>[r]|_=>[])++c.args.toList
 | .makeInterface _ x=>[x]
 | _=>[]
def tmpsOf:List Operand→List Nat
 | []=>[]
 | .tmp t::r=>t::tmpsOf r
 | _::r=>tmpsOf r
def gp(o:Oper)(σ:St):Option Nat:=match o.op with
 | .call c=>match c.callee with
   | .value x=>match bz σ x with
     | .fn f _=>some f
     | _=>none
   | _=>none
 | _=>none
def Ib:Option Nat→Option Nat→Bool
 | some a,some b=>Nat.beq a b
 | none,none=>true
 | _,_=>false
def cls(g:Option Nat)(o:Oper):Nat:=match o.op with
 | .assign _|.move _|.makeSlice ..|.convert ..=>1
 | .box e _=>match find cx.jz e with
   | some _=>3
   | none=>1
 | .alloc e=>match find cx.T e with
   | some (.slice _)=>3
   | some _=>1
   | none=>match find cx.jz e with
     | some _=>3
     | none=>1
 | .build ..|.buildSlice ..|.store ..=>2
 | .call c=>match c.callee with
   | .builtin .len|.builtin .min|.builtin .max=>0
   | .builtin .append=>2
   | .builtin _=>3
   | .value _=>match g with
     | some f=>match find cx.x6 f with
       | some (.clone _)=>2
       | some (.own _ _ _ _)=>2
       | s=>match find cx.gE f with
         | some c=>bif c.R.flat then 0 else 2
         | none=>match s,find cx.cO f with
           | none,some _=>2
           | _,_=>3
     | none=>3
   | .invoke ..=>2
 | .makeInterface ..=>2
 | _=>0
structure Fp where
 rd:List Nat
 wr:List Nat
 sG:Bool
 fn:Option Nat
def jE(σ:St):au→List Nat
 | .ptr b _ _=>[b]
 | .whole b _=>[b]
 | .part b _ _ _=>[b]
 | .win b _ _ _ _ _ _=>[b]
 | .fn _ caps=>caps.map (·.1)
 | .mix a b=>jE σ a++jE σ b
 | _=>[]
def refsOf(σ:St):List Operand→List Nat
 | []=>[]
 | x::r=>jE σ (bz σ x)++refsOf σ r
def Ic(o:Oper)(σ:St):List Nat:=match o.op with
 | .move x|.assign x=>match bz σ x with
   | .ptr _ _ _=>[]
   | v=>jE σ v
 | _=>refsOf σ (cH o.op)
def reach(o:Oper)(σ:St)(g:Option Nat):List Nat:=match o.op,g with
 | .call c,some f=>match find cx.cO f with
   | some k=>match dm σ k.ps k.A k.U (c.args.toList.map (bz σ)) with
     | some (_,_,N,M)=>aK N M
     | none=>[]
   | none=>[]
 | _,_=>[]
def own(o:Oper):List Nat:=match o.dst with|some d=>[nb+d]|none=>[]
def kX(o:Oper)(σ:St):Fp :=
 let g:=gp o σ
 let rd:=own nb o++(Ic o σ++reach cx o σ g)
 match cls cx g o with
 | 0=>⟨rd,[],false,g⟩
 | 1=>⟨rd,own nb o,false,g⟩
 | 2=>⟨rd,rd,false,g⟩
 | _=>⟨[],[],true,g⟩
def St.only(σ:St)(ts rd:List Nat):St:={ slots:=fun t=>bif bN ts t then σ.slots t else .undef,mem:=fun b=>bif bN rd b then σ.mem b else none }
def lay(σ:St)(d:Option Nat)(wr:List Nat)(τ:St):St :=
 { slots:=match d with|some d=>fun t=>bif Nat.beq t d then τ.slots d else σ.slots t|none=>σ.slots
   mem:=fun b=>bif bN wr b then τ.mem b else σ.mem b }
def oV(_:Nat)(_:List au)(_:St):Tree (au×St):=.fail
def Di(fp:Fp)(o:Oper)(σ:St):Tree St:=bif Ib (gp o σ) fp.fn then gP cx nb bf oV o σ else .fail
def dU(fp:Fp)(o:Oper)(σ:St):Tree St :=
 bif fp.sG then gP cx nb bf inl o σ
 else(Di cx nb bf fp o (σ.only (tmpsOf (cH o.op)) fp.rd)).bind fun τ=>.ret (lay σ o.dst fp.wr τ)
abbrev mJ:=Nat×Oper×Fp×Nat
def maskAt:List mJ→Nat→Nat
 | [],_=>0
 | (i,_,_,m)::r,k=>bif Nat.beq i k then m else maskAt r k
def jv(done:List mJ):List Edge→Nat
 | []=>0
 | e::r=>bif Region.binds .any e then(jv done r ||| 2 ^ e.on) ||| maskAt done e.on else jv done r
def mask(done:List mJ)(o:Oper):Nat:=jv done o.after.toList
def BX(a b:List Nat):Bool:=a.all fun x=>!bN b x
def apart(x y:Oper)(f g:Fp):Bool :=
 !f.sG&&!g.sG&&BX f.wr g.rd&&BX g.wr f.rd &&
 (match x.dst with|some d=>!bN (tmpsOf (cH y.op)) d&&(match y.dst with|some e=>!Nat.beq d e|none=>true)|none=>true) &&
 (match y.dst with|some e=>!bN (tmpsOf (cH x.op)) e|none=>true)
def loose(o:Oper)(f:Fp)(m:Nat):List mJ→Bool
 | []=>true
 | (k,ok,fk,_)::r=>(Nat.testBit m k||apart ok o fk f)&&loose o f m r
def s6:List (Nat×Oper)→List mJ→St→Tree St
 | [],_,σ=>.ret σ
 | (i,o)::r,done,σ=>match o.guard with
   | some _=>.fail
   | none =>
     let f:=kX cx nb o σ
     let m:=mask done o
     bif loose o f m done&&(o.after.all fun e=>!Region.binds .any e||Nat.blt e.on i) then
      (dU cx nb bf inl f o σ).bind fun σ=>s6 r ((i,o,f,m)::done) σ
     else .fail
def vM(all:Array Oper)(o:Oper):List Nat:=match o.guard with
 | some (g,_)=>match(all[g]?).bind (·.dst) with|some d=>[d]|none=>[]
 | none=>[]
def oA(all:Array Oper)(o:Oper):List Nat:=vM all o++tmpsOf (cH o.op)
def kY(o:Oper)(k:Nat):Bool:=match o.guard with|some (g,_)=>!Nat.beq g k|none=>true
def mK(all:Array Oper)(i j:Nat)(x y:Oper)(f g:Fp):Bool :=
 !f.sG&&!g.sG&&BX f.wr g.rd&&BX g.wr f.rd&&kY x j&&kY y i &&
 (match x.dst with|some d=>!bN (oA all y) d&&(match y.dst with|some e=>!Nat.beq d e|none=>true)|none=>true) &&
 (match y.dst with|some e=>!bN (oA all x) e|none=>true)
def oB(all:Array Oper)(i:Nat)(o:Oper)(f:Fp)(m:Nat):List mJ→Bool
 | []=>true
 | (k,ok,fk,_)::r=>(Nat.testBit m k||mK all k i ok o fk f)&&oB all i o f m r
def dB(i:Nat)(sk:Nat→Bool):Nat→Bool:=fun k=>Nat.beq k i||sk k
def jf(all:Array Oper):List (Nat×Oper)→List mJ→St→(Nat→Bool)→Tree St
 | [],_,σ,_=>.ret σ
 | (i,o)::r,done,σ,sk =>
   let f:=kX cx nb o σ
   let m:=mask done o
   bif oB all i o f m done&&(o.after.all fun e=>!Region.binds .any e||Nat.blt e.on i) then
    match o.guard with
    | none=>(dU cx nb bf inl f o σ).bind fun σ=>jf all r ((i,o,f,m)::done) σ sk
    | some (g,want)=>match(all[g]?).bind (·.dst) with
      | none=>.fail
      | some dg=>bif sk g then jf all r ((i,o,f,m)::done) (σ.aD o.dst .undef) (dB i sk)
        else match σ.slots dg with
         | .data .bool c=>.node c
          (bif want then(dU cx nb bf inl f o (σ.put dg (.data .bool true))).bind fun σ=>jf all r ((i,o,f,m)::done) σ sk
           else jf all r ((i,o,f,m)::done) ((σ.put dg (.data .bool true)).aD o.dst .undef) (dB i sk))
          (bif want then jf all r ((i,o,f,m)::done) ((σ.put dg (.data .bool false)).aD o.dst .undef) (dB i sk)
           else(dU cx nb bf inl f o (σ.put dg (.data .bool false))).bind fun σ=>jf all r ((i,o,f,m)::done) σ sk)
         | _=>.fail
   else .fail
def eZ:List Oper→Bool
 | []=>true
 | o::r=>(match o.dst with|some d=>!bN (qp r) d|none=>true)&&eZ r
where qp:List Oper→List Nat
 | []=>[]
 | o::r=>match o.dst with|some d=>d::qp r|none=>qp r
def kZ(ops:Array Oper)(σ:St):Tree St :=
 bif ops.any fun o=>o.guard.isSome then(bif eZ ops.toList then jf cx nb bf inl ops (number 0 ops.toList) [] σ (fun _=>false) else .fail)
 else s6 cx nb bf inl (number 0 ops.toList) [] σ
end
end Go.Ge
namespace Go.Ge
def rounds{S R:Type}(f:S→Option (S⊕R)):Nat→S→Option R
 | 0,_=>none
 | n+1,s=>(f s).bind fun x=>match x with|.inl s=>rounds f n s|.inr r=>some r
theorem qT{S R:Type}{f:S→Option (S⊕R)}:∀{n:Nat} {s:S} {r:R},rounds f n s=some r→∀m,n≤m→rounds f m s=some r:=by
 intro n;induction n with
 | zero=>intro s r h;cases h
 | succ n ih =>
   intro s r h m hm;obtain⟨k,rfl⟩:∃k,m=k+1:=⟨m-1,by omega⟩;simp only[rounds] at h⊢;cases hf:f s with
   | none=>rw[hf] at h;cases h
   | some x =>
     rw[hf] at h;cases x with
     | inl s'=>exact ih h k (by omega)
     | inr r'=>exact h
open Classical in
def yb{S R:Type}(f:S→Option (S⊕R))(s:S):Option R :=
 if h:∃n r,rounds f n s=some r then some (Classical.choose (zK h)) else none
theorem mb{S R:Type}{f:S→Option (S⊕R)}{n:Nat}{s:S}{r:R}(h:rounds f n s=some r):yb f s=some r:=by
 have hex:∃n r,rounds f n s=some r:=⟨n,r,h⟩;unfold yb;rw[dif_pos hex];have h2:=zK (zK hex);have a:=qT h (max n (Classical.choose hex)) (by omega);have b:=qT h2 (max n (Classical.choose hex)) (by omega);rw[a] at b;exact b.symm
class Lp where
 loop:{S R:Type}→(S→Option (S⊕R))→S→Option R
 ok:∀{S R:Type} (f:S→Option (S⊕R)) (s:S),loop f s=yb f s
theorem Lp.one(i j:Lp):i=j:=by
 obtain⟨l,h⟩:=i;obtain⟨m,k⟩:=j;have:@l=@m:=by funext S R f s;rw[h,k]
 subst this;rfl
@[reducible] noncomputable def Lp.Ie:Lp where
 loop:=fun f s=>match rounds f 100000 s with|some r=>some r|none=>yb f s
 ok:=fun f s=>by
  generalize 100000=k;cases hk:rounds f k s with
  | some r=>exact(mb hk).symm
  | none=>rfl
section
variable [Lp]
def Loop{S R:Type}(f:S→Option (S⊕R))(s:S):Option R:=Lp.loop f s
theorem gR{S R:Type}{f:S→Option (S⊕R)}{n:Nat}{s:S}{r:R}(h:rounds f n s=some r):Loop f s=some r:=(Lp.ok f s).trans (mb h)
theorem gS{S R:Type}{f:S→Option (S⊕R)}{s:S}{r:R}(h:Loop f s=some r):∃n,rounds f n s=some r:=by
 replace h:=(Lp.ok f s).symm.trans h;unfold yb at h;split at h
 ·rename_i hex;have h2:=zK (zK hex);exact⟨_,by rw[h2];exact h⟩
 ·cases h
theorem e7{S R:Type}(f:S→Option (S⊕R))(s:S):Loop f s=(f s).bind fun x=>match x with|.inl s=>Loop f s|.inr r=>some r:=by
 cases hf:f s with
 | none =>
   cases hl:Loop f s with
   | none=>rfl
   | some r =>
     obtain⟨n,hn⟩:=gS hl;cases n with
     | zero=>cases hn
     | succ n=>simp[rounds,hf] at hn
 | some x =>
   cases x with
   | inr r=>exact gR (n:=1) (by simp[rounds,hf])
   | inl s' =>
     show Loop f s=Loop f s'
     cases hl:Loop f s' with
     | some r =>
       obtain⟨n,hn⟩:=gS hl;exact gR (n:=n+1) (by simp[rounds,hf,hn])
     | none =>
       cases zH:Loop f s with
       | none=>rfl
       | some r =>
         obtain⟨n,hn⟩:=gS zH;cases n with
         | zero=>cases hn
         | succ n =>
           simp[rounds,hf] at hn;rw[gR hn] at hl;cases hl
end
inductive Sh where
 | d (t:Ty)
 | k (v:au)
 | m (a b:Sh)
def Sh.ty:Sh→Ty
 | .d t=>t
 | .k _=>.unit
 | .m a b=>.pair a.ty b.ty
def sH:List oz→List oz→Bool
 | [],[]=>true
 | .wK k o::p,.wK k' o'::q=>Nat.beq k k'&&Nat.beq o o'&&sH p q
 | _,_=>false
def sI:List (Nat×Nat)→List (Nat×Nat)→Bool
 | [],[]=>true
 | (a,b)::r,(c,d)::s=>Nat.beq a c&&Nat.beq b d&&sI r s
 | _,_=>false
theorem zV:∀{p q:List oz},sH p q=true→p=q:=by
 intro p;induction p with
 | nil=>intro q h;cases q<;>first|rfl|cases h
 | cons s p ih =>
   intro q h;cases s with
   | idx i n=>cases q<;>cases h
   | wK k o =>
     cases q with
     | nil=>cases h
     | cons s' q =>
       cases s' with
       | idx i n=>cases h
       | wK k' o' =>
         simp only[sH,cA] at h;rw[cK h.1.1,cK h.1.2,ih h.2]
theorem zW:∀{p q:List (Nat×Nat)},sI p q=true→p=q:=by
 intro p;induction p with
 | nil=>intro q h;cases q<;>first|rfl|cases h
 | cons s p ih =>
   intro q h;obtain⟨a,b⟩:=s;cases q with
   | nil=>cases h
   | cons s' q =>
     obtain⟨c,d⟩:=s';simp only[sI,cA] at h;rw[cK h.1.1,cK h.1.2,ih h.2]
def lP(V:Nat→Bool)(eR σ:St):au→au→Bool
 | .ptr b v p,.ptr b' v' p'=>Nat.beq b b'&&sH p p'&&(bif V b then(match eR.mem b,σ.mem b with|some x,some y=>Nat.beq x.ag v&&Nat.beq y.ag v'|_,_=>false) else Nat.beq v v')
 | .whole b v,.whole b' v'=>Nat.beq b b'&&(match eR.mem b,σ.mem b with|some x,some y=>Nat.beq x.ag v&&Nat.beq y.ag v'&&y.buf|_,_=>false)
 | .fn f c,.fn f' c'=>Nat.beq f f'&&sI c c'
 | .ij,.ij=>true
 | .iQ,.iQ=>true
 | .jV b v,.jV b' v'=>Nat.beq b b'&&Nat.beq v v'
 | _,_=>false
def EX:au→Sh
 | .data t _=>.d t
 | .mix a b=>.m (EX a) (EX b)
 | v=>.k v
def Sh.out(V:Nat→Bool)(eR σ:St):(s:Sh)→au→Option s.ty.den
 | .d t,v=>BS t v
 | .k u,v=>bif lP V eR σ u v then some () else none
 | .m a b,.mix v w=>match Sh.out V eR σ a v,Sh.out V eR σ b w with
   | some x,some y=>some (x,y)
   | _,_=>none
 | .m _ _,_=>none
def bump(M V:Nat→Bool):au→au
 | .whole b v=>bif M b then .whole b (v+1) else .whole b v
 | .ptr b v p=>bif M b&&V b then .ptr b (v+1) p else .ptr b v p
 | v=>v
def Sh.iH(M V:Nat→Bool):(s:Sh)→s.ty.den→au
 | .d t,x=>.data t x
 | .k v,_=>bump M V v
 | .m a b,x=>.mix (a.iH M V x.1) (b.iH M V x.2)
structure yc where
 S:List (Nat×Nat)
 M:List Nat
 fz:Bool
structure ld where
 marks:List (Option yc)
 GU:List Nat
structure Carry where
 S:List (Nat×Sh)
 M:List (Nat×Sh×aR)
 V:Nat→Bool
def HL:List (Nat×Sh)→Ty
 | []=>.unit
 | (_,s)::r=>.pair s.ty (HL r)
def GV:List (Nat×Sh×aR)→Ty
 | []=>.unit
 | (_,s,_)::r=>.pair s.ty (GV r)
def Carry.ty(c:Carry):Ty:=.pair (HL c.S) (GV c.M)
def EY(V:Nat→Bool)(eR σ:St):(l:List (Nat×Sh))→Option (HL l).den
 | []=>some ()
 | (i,s)::r=>match Sh.out V eR σ s (σ.slots i),EY V eR σ r with
   | some x,some y=>some (x,y)
   | _,_=>none
def qU(fz mv:Bool)(bx b:aR):Bool:=(fz||(bx.ro==b.ro))&&Nat.beq bx.tid b.tid&&(bx.buf==b.buf)&&(bx.buf||mv||Nat.beq bx.ag b.ag)
def EZ(V:Nat→Bool)(fz:Bool)(eR σ:St):(l:List (Nat×Sh×aR))→Option (GV l).den
 | []=>some ()
 | (i,s,b)::r=>match σ.mem i with
   | some bx=>bif qU fz (V i) bx b then(match Sh.out V eR σ s bx.val,EZ V fz eR σ r with
     | some x,some y=>some (x,y)
     | _,_=>none) else none
   | none=>none
def Carry.out(c:Carry)(fz:Bool)(eR σ:St):Option c.ty.den :=
 match EY c.V eR σ c.S,EZ c.V fz eR σ c.M with
 | some x,some y=>some (x,y)
 | _,_=>none
def wM(M V:Nat→Bool):(l:List (Nat×Sh))→(HL l).den→Nat→Option au
 | [],_,_=>none
 | (i,s)::r,x,t=>bif Nat.beq t i then some (s.iH M V x.1) else wM M V r x.2 t
def s7(fz:Bool)(M V:Nat→Bool):(l:List (Nat×Sh×aR))→(GV l).den→Nat→Option aR
 | [],_,_=>none
 | (i,s,b)::r,x,t=>bif Nat.beq t i then some { b with val:=s.iH M V x.1,ro:=b.ro||fz,ag:=bif b.buf||V t then b.ag+1 else b.ag } else s7 fz M V r x.2 t
def jF:List (Nat×Sh×aR)→Nat→Bool
 | [],_=>false
 | (i,_,_)::r,t=>Nat.beq t i||jF r t
def Carry.iH(c:Carry)(fz lock:Bool)(wr:List Nat)(eR:St)(x:c.ty.den):St :=
 { slots:=fun t=>match wM (jF c.M) c.V c.S x.1 t with
    | some v=>v
    | none=>bif bN wr t then .undef else eR.slots t
   mem:=fun b=>match s7 fz (jF c.M) c.V c.M x.2 b with
    | some bx=>some bx
    | none=>match eR.mem b with
      | some bx=>some { bx with lk:=bx.lk||lock }
      | none=>none }
def settle:List (Nat×Sh)→St→Option St
 | [],σ=>some σ
 | (i,.d t)::r,σ=>match kU σ t (σ.slots i) with
   | some (x,σ)=>settle r (σ.put i (.data t x))
   | none=>none
 | _::r,σ=>settle r σ
def Carry.s8(c:Carry)(fz:Bool)(eR σ:St):Option c.ty.den :=
 bif fz then(match settle c.S σ with
  | some σ=>c.out true eR σ
  | none=>none)
 else c.out false eR σ
def Carry.lock(c:Carry)(σ:St):St :=
 { σ with mem:=fun b=>match σ.mem b with
  | some bx=>some (bif jF c.M b then bx else { bx with lk:=true })
  | none=>none }
def gT:List Oper→List Nat
 | []=>[]
 | o::r=>match o.dst with|some d=>d::gT r|none=>gT r
def writes:Code→List Nat
 | .region _ ops _=>gT ops.toList
 | .seq a b=>writes a++writes b
 | .cond _ a b=>writes a++writes b
 | .block _ a=>writes a
 | .loop a=>writes a
 | .scope a=>writes a
 | _=>[]
def jg:Code→List Nat
 | .seq a b=>jg a++(jg b).filter fun e=>!bN (jg a) e
 | .cond _ a b=>jg a++(jg b).filter fun e=>!bN (jg a) e
 | .block i a=>(jg a).filter fun e=>!Nat.beq e (i+2)
 | .loop a=>jg a
 | .scope a=>jg a
 | .ret=>[1]
 | .exit i=>[i+2]
 | _=>[]
def marks:Code→Nat
 | .seq a b=>marks a+marks b
 | .cond _ a b=>marks a+marks b+1
 | .block _ a=>marks a
 | .loop a=>marks a+1
 | .scope a=>marks a
 | _=>0
def rU:List Nat→Nat→Option Nat
 | [],_=>none
 | e::r,k=>bif Nat.beq e k then some 0 else(rU r k).map (·+1)
def zX:List Nat→List Nat→List Nat
 | [],l=>l
 | b::r,l=>bif bN l b then zX r l else zX r (l++[b])
section
variable (cx:Ctx)
def I3(σ:St):List (Nat×Nat)→Option (List (Nat×Sh))
 | []=>some []
 | (i,ty)::r=>match I3 σ r with
   | none=>none
   | some l=>bif Nat.beq ty 999999 then(match σ.slots i with
     | .whole b v=>some ((i,.k (.whole b v))::l)
     | _=>some l) else match σ.slots i with
     | .data t _=>some ((i,.d t)::l)
     | .undef|.gk=>match find cx.T ty with
       | some t=>some ((i,.d t)::l)
       | none=>none
     | v=>some ((i,.k v)::l)
def nC(σ:St):List Nat→List Nat
 | []=>[]
 | b::r=>(match σ.mem b with|some bx=>(match bx.val with|.mix u v=>jE σ (.mix u v)|.whole c _=>[c]|.fn f c=>jE σ (.fn f c)|_=>[])|none=>[])++nC σ r
def wN(σ:St):List Nat→List Nat
 | []=>[]
 | i::r =>
   let r0:=jE σ (σ.slots i)
   let r1:=nC σ r0
   let r2:=nC σ r1
   zX (r0++(r1++(r2++nC σ r2))) (wN σ r)
def Ig(σ:St):List Nat→Option (List (Nat×Sh×aR))
 | []=>some []
 | b::r=>match σ.mem b,Ig σ r with
   | some bx,some l=>bif bx.lk then none else some ((b,EX bx.val,bx)::l)
   | _,_=>none
def GW:au→Option Nat
 | .whole b _=>some b
 | .part b _ _ _=>some b
 | _=>none
def oW:List Nat→St→Option St
 | [],σ=>some σ
 | m::r,σ=>bif Nat.ble 2000000 m then(match GW (σ.slots (m-2000000)) with
  | some b=>match σ.mem b with
    | some bx=>match bx.val with
      | .data (.slice e) _=>match kU σ (.slice e) (σ.slots (m-2000000)) with
        | some (x,σ)=>oW r (σ.put (m-2000000) (.data (.slice e) x))
        | none=>none
      | _=>none
    | none=>none
  | none=>oW r σ) else oW r σ
def Ih(nb:Nat)(bf:List Nat)(σ:St)(b:Nat):Bool:=bN (bf.map (nb+·)) b&&(match σ.mem b with|some x=>!x.buf&&!sD x.val|none=>false)
def sJ(nb:Nat)(bf:List Nat)(σ:St)(p:yc):Option Carry :=
 match I3 cx σ p.S,Ig σ (wN σ p.M) with
 | some s,some m=>some ⟨s,m,Ih nb bf σ⟩
 | _,_=>none
variable (nb:Nat) (bf:List Nat) (inl:Nat→List au→St→Tree (au×St))
def oX{α:Type}:List Nat→Nat→(Nat→Tree α)→Tree α
 | [],_,_=>.fail
 | [e],_,f=>f e
 | e::r,i,f=>.node (EU i 0) (f e) (oX r (i-1) f)
variable [Lp]
def again{S:Type}(f:S→Tree (Nat×S)):Nat→S→Tree (Nat×S)
 | 0,_=>.fail
 | n+1,s=>(f s).bind fun r=>bif Nat.beq r.1 0 then again f n r.2 else .ret r
def zY(p:yc):Option Nat:=match p.M with
 | [m]=>bif Nat.ble 6000000 m then some (m-6000000) else none
 | _=>none
def qq(f:St→Tree (Nat×St))(c:Nat):Nat→Nat→St→Tree (Nat×St)
 | 0,_,_=>.fail
 | n+1,j,σ=>match σ.slots c with
   | .data (.int .i64) x=>.need (cX x j) ((f (σ.put c (.data (.int .i64) (j:Int)))).bind fun r=>bif Nat.beq r.1 0 then qq f c n (j+1) r.2 else .ret r)
   | _=>.fail
def eL:Code→List (Option yc)→St→Tree (Nat×St)
 | .skip,_,σ=>.ret (0,σ)
 | .label _,_,σ=>.ret (0,σ)
 | .ret,_,σ=>.ret (1,σ)
 | .exit i,_,σ=>.ret (i+2,σ)
 | .region _ ops dr,_,σ=>(bif dr then kZ cx nb bf inl ops σ else s5 cx nb bf inl ops σ).bind fun σ=>.ret (0,σ)
 | .seq a b,pl,σ=>(eL a pl σ).bind fun r=>bif Nat.beq r.1 0 then eL b (pl.drop (marks a)) r.2 else .ret r
 | .block i a,pl,σ=>(eL a pl σ).bind fun r=>.ret (bif Nat.beq r.1 (i+2) then 0 else r.1,r.2)
 | .scope a,pl,σ=>eL a pl σ
 | .cond c a b,pl,σ=>match bz σ c,pl with
   | .data .bool c,none::pl=>.node c (eL a pl σ) (eL b (pl.drop (marks a)) σ)
   | .data .bool c,some p::pl=>match oW p.M σ with
    | none=>.fail
    | some σ=>match sJ cx nb bf σ p with
     | none=>.fail
     | some k =>
       let t:=Tree.node c (eL a pl (k.lock σ)) (eL b (pl.drop (marks a)) (k.lock σ))
       let wr:=writes a++writes b
       match jg a++(jg b).filter (fun e=>!bN (jg a) e) with
       | []=>(t.bind fun r=>bif Nat.beq r.1 0 then Tree.Dc (k.s8 p.fz σ r.2) else .fail).join fun x=>.ret (0,k.iH p.fz false wr σ x)
       | es=>(t.bind fun r=>match rU (0::es) r.1,k.s8 p.fz σ r.2 with
        | some i,some x=>.ret (i,x)
        | _,_=>.fail).join fun x=>oX (0::es) x.1 fun e=>.ret (e,k.iH p.fz false wr σ x.2)
   | _,_=>.fail
 | .loop a,pl,σ=>match pl with
   | some p::pl=>match zY p with
    | some c=>qq (fun σ=>eL a pl σ) c 100 0 σ
    | none=>match oW p.M σ with
    | none=>.fail
    | some σ=>match sJ cx nb bf σ p with
     | none=>.fail
     | some k=>match k.out false σ σ with
       | none=>.fail
       | some x0 =>
         let wr:=writes a
         let es:=jg a
         let body (x:k.ty.den):Option (k.ty.den⊕(Nat×k.ty.den)):=((eL a pl (k.iH false true wr σ x)).bind fun r=>bif Nat.beq r.1 0 then(match k.out false σ r.2 with
           | some y=>.ret (.inl y)
           | none=>.fail)
          else match rU es r.1,k.s8 p.fz σ r.2 with
           | some i,some y=>.ret (.inr (i,y))
           | _,_=>.fail).run
         match es with
         | [e]=>.look (Loop (fun x=>BP (body x)) x0) fun x=>.ret (e,k.iH p.fz false wr σ x)
         | es=>.look (Loop body x0) fun x=>oX es x.1 fun e=>.ret (e,k.iH p.fz false wr σ x.2)
   | none::pl=>again (fun σ=>eL a pl σ) 100000 σ
   | _=>.fail
 | _,_,_=>.fail
end
variable [Lp]
def vN(mem:Nat→Option aR)(args:List au):St:={ slots:=fun t=>(args[t]?).getD .undef,mem }
def qs(cx:Ctx)(σ:St):ResultVar→Tree au
 | .tmp t=>.ret (σ.slots t)
 | .cell a ty=>(fc cx (some 0) ty (σ.slots a) σ).bind fun τ=>.ret (τ.slots 0)
def oY(cx:Ctx)(σ:St):List ResultVar→Tree au
 | []=>.ret .nl
 | r::rs=>(qs cx σ r).bind fun v=>(oY cx σ rs).bind fun l=>.ret (.mix v l)
def results1(cx:Ctx)(σ:St):List ResultVar→Tree au
 | [r]=>qs cx σ r
 | rs=>(oY cx σ rs).bind fun l=>.ret (.jT l)
def ep(mem:Nat→Option aR):St:={ slots:=fun _=>.undef,mem }
def Gk(cx:Ctx):List TypeId→Option (List Ty)
 | []=>some []
 | t::r=>match find cx.T t,Gk cx r with
   | some u,some l=>some (u::l)
   | _,_=>none
def joinTy(cx:Ctx)(res:List TypeId):List Nat→Option (Bool×List Ty)
 | []=>none
 | m::r=>bif Nat.ble 7000000 m&&Nat.ble m 7999999 then(bif Nat.beq m 7999999 then(Gk cx res).map fun l=>(true,l) else(find cx.T (m-7000000)).map fun R=>(false,[R])) else joinTy cx res r
def spread(jT:Bool)(v:au):Nat→au :=
 match jT,v with
 | false,v=>fun t=>bif Nat.beq t 0 then v else .undef
 | true,.jT m=>fun t=>match nth m t with|some u=>u|none=>.undef
 | true,_=>fun _=>.undef
def s9:au→Nat
 | .mix _ b=>s9 b+1
 | _=>0
def yd(jT:Bool)(v:au)(n:Nat):Bool :=
 match jT,v with
 | false,_=>Nat.beq n 1
 | true,.jT m=>Nat.beq (s9 m) n
 | true,_=>false
def GX(slots:Nat→au):Nat→Nat→au
 | _,0=>.nl
 | i,n+1=>.mix (slots i) (GX slots (i+1) n)
def wO(jT:Bool)(n:Nat)(slots:Nat→au):au :=
 match jT with
 | false=>slots 0
 | true=>.jT (GX slots 0 n)
def Dj(jT:Bool)(v:au)(mem:Nat→Option aR):St:={ slots:=spread jT v,mem }
def Bm:List Ty→Nat→List (Nat×Sh)
 | [],_=>[]
 | t::r,i=>(i,.d t)::Bm r (i+1)
def Bn(R:Bool×List Ty)(args:List au)(mem:Nat→Option aR)(F:(Nat→Option aR)→Tree (au×(Nat→Option aR))):Tree (au×(Nat→Option aR)) :=
 match Ig (ep mem) (wN (vN mem args) (List.range args.length)) with
 | none=>.fail
 | some m =>
   let k:Carry:=⟨Bm R.2 0,m,fun _=>false⟩
   let wr:=List.range R.2.length
   ((F (k.lock (ep mem)).mem).bind fun r=>bif yd R.1 r.1 R.2.length then Tree.Dc (k.out false (ep mem) (Dj R.1 r.1 r.2)) else .fail).join fun x =>
    .ret (wO R.1 R.2.length (k.iH false false wr (ep mem) x).slots,(k.iH false false wr (ep mem) x).mem)
def tc(cx:Ctx)(nb:Nat)(p:ld)(inl:Nat→List au→St→Tree (au×St))(fn:Func)(c:Code)(args:List au)(mem:Nat→Option aR):Tree (au×(Nat→Option aR)) :=
 (eL cx nb p.GU inl c p.marks (vN mem args)).bind fun r =>
  bif Nat.beq r.1 0||Nat.beq r.1 1 then(results1 cx r.2 fn.results.toList).bind fun v=>.ret (v,r.2.mem) else .fail
def mc(cx:Ctx):Nat→(nb:Nat)→(cI:Nat→ld)→Nat→List au→(Nat→Option aR)→Tree (au×(Nat→Option aR))
 | 0,_,_,_,_,_=>.fail
 | n+1,nb,cI,f,args,mem=>match find cx.fns f with
   | some fn=>match fn.body with
     | some c=>match joinTy cx fn.resultTypes.toList (cI f).GU with
       | none=>tc cx nb (cI f) (fun g xs σ=>(mc cx n ((nb+g+1)*1000) cI g xs σ.mem).bind fun r=>.ret (r.1,{ σ with mem:=r.2 })) fn c args mem
       | some R=>Bn R args mem (tc cx nb (cI f) (fun g xs σ=>(mc cx n ((nb+g+1)*1000) cI g xs σ.mem).bind fun r=>.ret (r.1,{ σ with mem:=r.2 })) fn c args)
     | none=>.fail
   | none=>.fail
def qt:(A:Ty)→A.den→List au
 | .pair t r,x=>.data t x.1::qt r x.2
 | _,_=>[]
def oZ:au→List au
 | .mix a b=>a::oZ b
 | _=>[]
def o5:(R:Ty)→au→List au
 | .pair _ .unit,v=>[v]
 | _,.jT v=>oZ v
 | _,v=>[v]
def o6(k:Nat):Nat:=777000000+k
def E0(k:Nat):Nat:=778000000+k
def fW(k:Nat):Nat→List (Nat×Nat)
 | 0=>[]
 | n+1=>(o6 k,0)::fW (k+1) n
def iu(k:Nat):Nat→List (Nat×Nat)
 | 0=>[]
 | n+1=>(E0 k,0)::iu (k+1) n
def o7:List Bool→OT→(A:Ty)→A.den→Nat→List au
 | [],_,_,_,_=>[]
 | false::ps,U,A,x,k=>match A,x with
   | .pair t A,x=>.data t x.1::o7 ps U A x.2 k
   | _,_=>[]
 | true::ps,U,A,x,k=>match U with
   | .pair o U=>.ptr (o6 k) 0 []::o7 ps U A x (k+o.nr)
   | _=>[]
def ye(mem:Nat→Option aR):(U:OT)→Nat→Option (U.den×List (Nat×Nat)×List (Nat×Nat))
 | .pair o U,k=>match bV mem o (.ptr (o6 k) 0 []),ye mem U (k+o.nr) with
   | some (x,N,M),some (u,N',M')=>some ((x,u),N++N',M++M')
   | _,_=>none
 | .unit,_=>some ((),[],[])
 | _,_=>none
def wP:List (Nat×Nat)→List (Nat×Nat)→Bool
 | [],[]=>true
 | (a,b)::r,(c,d)::s=>Nat.beq a c&&Nat.beq b d&&wP r s
 | _,_=>false
def GY(cx:Ctx)(n:Nat)(cI:Nat→ld)(f:Nat)(ps:List Bool)(A:Ty)(U:OT)(R:Ty)(x:A.den×U.den):Option (R.den×U.den) :=
 ((mc cx n 0 cI f (o7 ps U A x.1 0) (dZ U x.2 (fW 0 U.nr) (iu 0 U.nb))).bind fun r=>match eX (ep r.2) R (o5 R r.1) with
  | some (y,σ)=>(match ye σ.mem U 0 with
    | some (u,N,M)=>bif wP N (fW 0 U.nr)&&sZ (aK N M)&&sZ (aK (fW 0 U.nr) (iu 0 U.nb)) then .ret (y,u) else .fail
    | none=>.fail)
  | none=>.fail).run
def sem(cx:Ctx)(n:Nat)(cI:Nat→ld)(f:Nat)(A R:Ty)(x:A.den):Option R.den :=
 ((mc cx n 0 cI f (qt A x) (fun _=>none)).bind fun r=>match dR (ep r.2) R (o5 R r.1) with
  | some y=>.ret y
  | none=>.fail).run
end Go.Ge
