/- A ghost interpreter of the model's code, and that it tells the truth: part 1. It says of a function of plain data what a call of it comes to. -/
import Derived.WalkKit
set_option linter.unusedVariables false
set_option linter.unusedSectionVars false
set_option linter.unusedSimpArgs false
abbrev aG:=@Option.some.inj
abbrev fu:=@Nat.eq_of_beq_eq_true
abbrev dW:=@Bool.and_eq_true
abbrev ec:=@Prod.mk.inj
abbrev ru:=@List.getElem?_eq_getElem
abbrev sS:=@Nat.mul_le_mul_right
abbrev o6:=@List.length_take
abbrev uo:=@List.getElem?_take
abbrev uV:=@List.length_append
abbrev mq:=@Nat.le_refl
abbrev bG:=@if_pos
abbrev bH:=@if_neg
abbrev ni:=@List.getElem?_drop
abbrev nj:=@Bool.not_eq_true'
abbrev gi:=@Nat.add_mul
abbrev kj:=@decide_eq_true
abbrev mu:=@decide_eq_false
abbrev jl:=@Nat.le_trans
abbrev fy:=@cond_true
abbrev wZ:=@List.head_eq_of_cons_eq
abbrev qm:=@List.append_assoc
abbrev o7:=@List.length_cons
abbrev sU:=@List.mem_cons_self
abbrev iA:=@cond_false
abbrev vR:=@List.mem_cons_of_mem
abbrev uq:=@Option.some.injEq
abbrev yc:=@List.mem_of_getElem?
abbrev sV:=@Nat.min_eq_left
abbrev yd:=@of_decide_eq_true
abbrev w8:=@List.length_drop
abbrev vS:=@List.length_nil
abbrev zf:=@decide_eq_true_eq
abbrev zg:=@Int.toNat_natCast
abbrev CK:=@Bool.or_eq_false_iff
abbrev ye:=@List.drop_drop
abbrev uW:=@Nat.zero_add
abbrev DX:=@Nat.lt_of_lt_of_le
abbrev GZ:=@List.mem_append_left
abbrev JB:=@Nat.le_of_ble_eq_true
abbrev yf:=@Nat.add_zero
abbrev yg:=@Nat.lt_or_ge
abbrev DY:=@List.all_eq_true
abbrev AR:=@Nat.add_assoc
abbrev RE:=@List.drop_append_of_le_length
abbrev w9:=@Nat.zero_le
abbrev K8:=@List.mem_append_right
abbrev CL:=@List.drop_left
abbrev nk:=@if_true
abbrev Ny:=@List.take_of_length_le
abbrev Nz:=@Classical.choose_spec
abbrev EK:=@Bool.or_eq_true
abbrev RF:=@List.getD_eq_getElem?_getD
abbrev A3:=@Nat.succ_mul
abbrev JC:=@List.size_toArray
abbrev G0:=@List.append_nil
abbrev PB:=@List.getElem?_eq_none
abbrev Um:=@List.getElem?_append_left
abbrev PC:=@List.getElem?_range
abbrev A4:=@Nat.mod_lt
abbrev NA:=@List.ext_getElem?
abbrev RG:=@List.take_append_drop
abbrev K9:=@Option.map_some
abbrev La:=@List.length_map
abbrev RH:=@List.getElem?_append
abbrev PD:=@List.length_range
abbrev YQ:=@List.eq_nil_of_length_eq_zero
abbrev RI:=@List.getElem?_map
abbrev YR:=@Array.getD_eq_getD_getElem?
abbrev Un:=@Array.length_toList
abbrev Xf:=@List.drop_of_length_le
abbrev RJ:=@List.take_length
abbrev RL:=@Option.bind_some
abbrev Uo:=@Bool.false_eq_true
abbrev YS:=@Classical.byContradiction
abbrev abQ:=@List.takeWhile_append_dropWhile
abbrev NB:=@Nat.le_of_eq
abbrev PE:=@Prod.mk.injEq
abbrev PF:=@List.map_cons
abbrev YT:=@List.getElem?_cons_succ
abbrev RM:=@List.take_take
abbrev NC:=@Nat.mul_one
abbrev abR:=@List.take_length_add_append
abbrev Xg:=@Bool.not_eq_false'
abbrev Xh:=@List.mem_singleton
abbrev Up:=@List.nil_append
abbrev YU:=@Array.getElem?_modify
abbrev YV:=@List.length_singleton
abbrev G1:=@if_false
abbrev Xi:=@List.take_add_one
abbrev adY:=@List.findIdx?_eq_some_iff_getElem
abbrev Uq:=@List.take_zero
abbrev YW:=@Array.toList_append
abbrev YX:=@List.map_congr_left
abbrev abS:=@List.getElem?_replicate
abbrev abT:=@List.getElem?_cons_zero
abbrev abU:=@decide_eq_false_iff_not
abbrev YY:=@Nat.eq_zero_or_pos
abbrev adZ:=@List.find?_eq_some_iff_getElem
abbrev RN:=@decide_true
abbrev ad0:=@List.take_append_of_le_length
abbrev Wh:=@Nat.div_lt_iff_lt_mul
abbrev Wi:=@List.length_replicate
abbrev YZ:=@Array.getElem?_setIfInBounds
abbrev OV:=@List.take_left
abbrev RO:=@Array.toList_map
abbrev Y0:=@List.getElem?_append_right
abbrev OW:=@Bool.false_or
abbrev OX:=@List.mem_cons
abbrev RP:=@Nat.div_add_mod
abbrev Y1:=@List.drop_eq_getElem_cons
abbrev Y2:=@List.findIdx?_eq_none_iff
abbrev OY:=@Nat.zero_mul
abbrev EL:=@Eq.trans
abbrev RQ:=@List.drop_zero
abbrev Wj:=@List.getElem?_set
abbrev Y3:=@Array.getElem?_eq_none
abbrev Wk:=@Nat.lt_of_not_le
abbrev Wl:=@Nat.lt_succ_self
abbrev Y4:=@Array.mem_of_getElem?
abbrev Y5:=@BitVec.eq_of_toNat_eq
abbrev RR:=@Nat.mul_comm
abbrev RS:=@Nat.beq_refl
abbrev Y6:=@List.mem_of_mem_drop
abbrev Y7:=@Int.toNat_of_nonneg
abbrev Y8:=@List.dropWhile_cons
abbrev Y9:=@List.take_succ_cons
abbrev Za:=@List.takeWhile_cons
abbrev Wm:=@List.drop_take
abbrev Lb:=@and_self
abbrev Wn:=@List.mapM_cons
abbrev RT:=@Int.le_refl
abbrev RU:=@Nat.sub_mul
abbrev Zb:=@decide_eq_true_iff
abbrev adm:=@Array.toList_setIfInBounds
abbrev adn:=@Int.fdiv_eq_ediv_of_nonneg
abbrev Wo:=@List.cons.inj
abbrev ado:=@Array.getElem?_append_left
abbrev adp:=@Int.tdiv_eq_ediv_of_nonneg
abbrev Zc:=@List.flatten_cons
abbrev Zd:=@Array.size_append
abbrev Ze:=@List.all_eq_false
abbrev Zf:=@List.pairwise_map
abbrev Zg:=@Nat.lt_trichotomy
abbrev RV:=@Array.ext'
abbrev adq:=@List.pairwise_iff_getElem
abbrev adr:=@List.getElem?_zip_eq_some
abbrev Lc:=@Ne.symm
abbrev Wp:=@Nat.add_comm
abbrev Zh:=@Nat.min_eq_right
abbrev Wq:=@decide_false
abbrev ads:=@Array.setIfInBounds_comm
abbrev adt:=@Bool.eq_false_or_eq_true
abbrev Zi:=@List.cons_append
abbrev Zj:=@List.all_reverse
abbrev Zk:=@Bool.not_eq_true
abbrev Zl:=@List.any_eq_true
abbrev Zm:=@List.mem_flatMap
abbrev Zn:=@Bool.eq_iff_iff
abbrev adu:=@List.getElem?_toArray
abbrev adw:=@List.length_filter_le
abbrev adx:=@List.singleton_append
abbrev Zo:=@Bool.or_false
abbrev Zp:=@Bool.or_assoc
abbrev Zq:=@Nat.le_of_lt
abbrev Zr:=@Nat.ne_of_gt
noncomputable section
namespace Go.Ge
inductive Ty where
 | int (k:IntKind)|bool|str|slice (e:Ty)|arr (n:Nat) (e:Ty)|pair (a b:Ty)|unit
 | alt (u:Nat) (a r:Ty)|AU
def Ty.den:Ty→Type
 | .int _=>Int
 | .bool=>Bool
 | .str=>List UInt8
 | .slice e=>List e.den
 | .arr _ e=>List e.den
 | .pair a b=>a.den×b.den
 | .unit=>Unit
 | .alt _ a r=>a.den⊕r.den
 | .AU=>Unit
def Al:IntKind→Nat
 | .i8=>0|.i16=>1|.i32=>2|.i64=>3|.u8=>4|.u16=>5|.u32=>6|.u64=>7
theorem yh{a b:IntKind}(h:Nat.beq (Al a) (Al b)=true):a=b:=by
 cases a<;>cases b<;>first|rfl|(exact absurd h (by decide))
def Ty.beq:Ty→Ty→Bool
 | .int k,.int k'=>Nat.beq (Al k) (Al k')
 | .bool,.bool=>true
 | .str,.str=>true
 | .slice e,.slice f=>Ty.beq e f
 | .arr n e,.arr m f=>Nat.beq n m&&Ty.beq e f
 | .pair a b,.pair c d=>Ty.beq a c&&Ty.beq b d
 | .unit,.unit=>true
 | .alt u a r,.alt v b s=>Nat.beq u v&&(Ty.beq a b&&Ty.beq r s)
 | .AU,.AU=>true
 | _,_=>false
theorem Ty.eq_of_beq:∀{a b:Ty},Ty.beq a b=true→a=b:=by
 intro a;induction a with
 | int k=>intro b h;cases b<;>first|(exact congrArg _ (yh h))|(cases h)
 | bool=>intro b h;cases b<;>first|rfl|(cases h)
 | str=>intro b h;cases b<;>first|rfl|(cases h)
 | slice e ih=>intro b h;cases b<;>first|(exact congrArg _ (ih h))|(cases h)
 | arr n e ih =>
   intro b h;cases b<;>first|(cases h;done)|skip
   simp only[Ty.beq,dW] at h;rw[fu h.1,ih h.2]
 | pair a b jm lG =>
   intro c h;cases c<;>first|(cases h;done)|skip
   simp only[Ty.beq,dW] at h;rw[jm h.1,lG h.2]
 | unit=>intro b h;cases b<;>first|rfl|(cases h)
 | alt u a r jm ihr =>
   intro c h;cases c<;>first|(cases h;done)|skip
   simp only[Ty.beq,dW] at h;rw[fu h.1,jm h.2.1,ihr h.2.2]
 | AU=>intro b h;cases b<;>first|rfl|(cases h)
def Ty.to(t u:Ty)(x:t.den):Option u.den :=
 if h:Ty.beq t u=true then some ((Ty.eq_of_beq h)▸x) else none
theorem Ty.beq_refl(t:Ty):Ty.beq t t=true:=by
 induction t with
 | int k=>cases k<;>rfl
 | bool=>rfl
 | str=>rfl
 | slice e ih=>exact ih
 | arr n e ih=>simp[Ty.beq,ih]
 | pair a b jm lG=>simp[Ty.beq,jm,lG]
 | unit=>rfl
 | alt u a r jm ihr=>simp[Ty.beq,jm,ihr]
 | AU=>rfl
theorem Ty.jU{t u:Ty}{x:t.den}{y:u.den}(h:Ty.to t u x=some y):∃e:t=u,y=e▸x:=by
 unfold Ty.to at h;split at h
 ·rename_i hb;exact⟨Ty.eq_of_beq hb,by simpa using h.symm⟩
 ·cases h
def toL(t u:Ty)(l:List t.den):Option (List u.den) :=
 if h:Ty.beq t u=true then some ((Ty.eq_of_beq h)▸l) else none
theorem ko{t u:Ty}{l:List t.den}{m:List u.den}(h:toL t u l=some m):∃e:t=u,m=e▸l:=by
 unfold toL at h;split at h
 ·rename_i hb;exact⟨Ty.eq_of_beq hb,by simpa using h.symm⟩
 ·cases h
def Ty.size:Ty→Nat
 | .int _|.bool|.str|.slice _=>1
 | .arr n e=>n*e.size
 | .pair a b=>a.size+b.size
 | .unit=>0
 | .alt _ _ r=>r.size
 | .AU=>1
def Ty.isAgg:Ty→Bool
 | .arr ..|.pair ..|.unit=>true
 | .alt _ _ r=>r.isAgg
 | _=>false
def Ty.zero:(t:Ty)→t.den
 | .int _=>(0:Int)
 | .bool=>false
 | .str=>([]:List UInt8)
 | .slice _=>[]
 | .arr n e=>List.replicate n e.zero
 | .pair a b=>(a.zero,b.zero)
 | .unit=>()
 | .alt _ _ r=>.inr r.zero
 | .AU=>()
def aq{α:Type}(c:Bool)(x y:α):α:=bif c then x else y
def aa{α β:Type}(o:Option α)(f:α→Option β):Option β:=o.bind f
def nt(b:Bool):Bool:=!b
def an(a b:Bool):Bool:=a&&b
def oor(a b:Bool):Bool:=a||b
def bI(a b:Int):Bool:=decide (a=b)
def eY(a b:Nat):Bool:=Nat.beq a b
def aX(a b:Int):Bool:=decide (a<b)
def cK(a b:Int):Bool:=decide (a≤b)
def bX(a b:List UInt8):Bool:=decide (a=b)
def ql(a b:List UInt8):Bool:=Op.bytesLess a b
def eqL(a b:List Int):Bool:=decide (a=b)
def eqB(a b:Bool):Bool:=a==b
def cM{S:Type}(o:Option (S⊕(Nat×S))):Option (S⊕S):=o.map fun r=>match r with|.inl x=>.inl x|.inr y=>.inr y.2
def aD(k:IntKind)(a b:Int):Int:=k.wrap (a+b)
def cL(k:IntKind)(a b:Int):Int:=k.wrap (a-b)
def iZ(k:IntKind)(a b:Int):Int:=k.wrap (a*b)
def DZ(k:IntKind)(a b:Int):Int:=k.wrap (a.tdiv b)
def fR(a b:Int):Int:=a.tmod b
def kT(k:IntKind)(a:Int):Int:=k.wrap a
def ia(k:IntKind)(x y:Int):Int:=k.wrap (BitVec.ofInt k.bits x &&& BitVec.ofInt k.bits y).toNat
def zb(k:IntKind)(x y:Int):Int:=k.wrap (BitVec.ofInt k.bits x ||| BitVec.ofInt k.bits y).toNat
def dX(k:IntKind)(x y:Int):Int:=k.wrap (BitVec.ofInt k.bits x ^^^ BitVec.ofInt k.bits y).toNat
def ady(k:IntKind)(x y:Int):Int:=k.wrap (BitVec.ofInt k.bits x &&& ~~~BitVec.ofInt k.bits y).toNat
def ad1(a b:Int):Int:=bif decide (b<a) then b else a
def imax(a b:Int):Int:=bif decide (a<b) then b else a
def mU(k:IntKind)(a b:Int):Int:=k.wrap (a*2 ^ (min b.toNat k.bits))
def jS(k:IntKind)(a b:Int):Int:=a.fdiv (2 ^ (min b.toNat k.bits))
def plus(a b:Int):Int:=a+b
def minus(a b:Int):Int:=a-b
def len{α:Type}(l:List α):Int:=l.length
def app{α:Type}(l m:List α):List α:=l++m
def one{α:Type}(x:α):List α:=[x]
def idx{α:Type}(l:List α)(i:Int):Option α:=if 0≤i then l[i.toNat]? else none
def nq{α:Type}(l:List α)(i:Int)(x:α):List α:=l.set i.toNat x
def jV{α:Type}(n:Int)(x:α):List α:=List.replicate n.toNat x
def sub{α:Type}(l:List α)(lo n:Int):List α:=(l.drop lo.toNat).take n.toNat
def iB{α:Type}(l:List α)(n:Int):List α:=l.take n.toNat
def over{α:Type}(l:List α)(lo:Int)(c:List α):List α:=l.take lo.toNat++c++l.drop (lo.toNat+c.length)
def pick{α β γ:Type}(f:α→γ)(g:β→γ)(x:α⊕β):γ:=match x with|.inl a=>f a|.inr b=>g b
def u8(b:UInt8):Int:=(b.toNat:Int)
def az(s:List UInt8):List Int:=s.map fun b=>(b.toNat:Int)
def aT(l:List Int):List UInt8:=l.map fun n=>UInt8.ofNat n.toNat
def fits(n:Int):Bool:=decide (n≤4294967296)
def inside(a b n:Int):Bool:=decide (0≤a)&&decide (a≤b)&&decide (b≤n)
def within(i n:Int):Bool:=decide (0≤i)&&decide (i<n)
inductive Tree (α:Type):Type 1 where
 | ret (a:α)
 | fail
 | node (c:Bool) (t e:Tree α)
 | look {T:Type} (o:Option T) (k:T→Tree α)
namespace Tree
def bind{α β:Type}:Tree α→(α→Tree β)→Tree β
 | .ret a,f=>f a
 | .fail,_=>.fail
 | .node c t e,f=>.node c (t.bind f) (e.bind f)
 | .look o k,f=>.look o fun x=>(k x).bind f
def run{α:Type}:Tree α→Option α
 | .ret a=>some a
 | .fail=>none
 | .node c t e=>aq c t.run e.run
 | .look o k=>aa o fun x=>(k x).run
def join{T β:Type}(t:Tree T)(k:T→Tree β):Tree β :=
 match t with
 | .ret x=>k x
 | .node c (.ret x) (.ret y)=>k (aq c x y)
 | t=>.look t.run k
def need{α:Type}(c:Bool)(t:Tree α):Tree α:=.node c t .fail
def Zs{α:Type}:Option α→Tree α
 | some a=>.ret a
 | none=>.fail
end Tree
inductive D0 where
 | GX (k off:Nat)
 | idx (i:Int) (size:Nat)
inductive aO where
 | undef
 | data (t:Ty) (x:t.den)
 | nr
 | qL
 | sg
 | vY (b aA:Nat)
 | cell (t:Ty) (x:t.den)
 | ptr (b aA:Nat) (p:List D0)
 | whole (b aA:Nat)
 | part (b aA:Nat) (lo n:Int)
 | win (b aA:Nat) (q:List D0) (e:Ty) (k:Nat) (lo n:Int)
 | fn (f:Nat) (caps:List (Nat×Nat))
 | mix (a b:aO)
 | D1 (vs:aO)
 | nl
structure bE where
 val:aO
 tid:TypeId
 buf:Bool
 ro:Bool
 lk:Bool
 aA:Nat
structure St where
 slots:Nat→aO
 mem:Nat→Option bE
structure bO where
 A:Ty
 R:Ty
 spec:A.den→Option R.den
structure ur where
 ps:List Bool
 A:Ty
 U:Ty
 R:Ty
 spec:A.den×U.den→Option (R.den×U.den)
inductive mw where
 | dat (t:Ty)
 | buf (e:Ty) (eT:Nat)
 | one
 | self
inductive Xj where
 | Zt (T:Nat)
 | str (T E:Nat)
 | clone (e:Ty)
 | own (e A:Ty) (res:Bool) (spec:List e.den→A.den→Option (List e.den))
structure Ctx where
 T:List (Nat×Ty)
 oX:List Nat
 yj:List Nat
 fns:List (Nat×Func)
 bF:List (Nat×bO)
 aJ:List (Nat×ur)
 qn:List (Nat×List mw)
 Rz:List (Nat×Xj)
 els:List (Nat×Nat)
 inv:List (String×bO)
def RW{α:Type}:List (String×α)→String→Option α
 | [],_=>none
 | (i,a)::r,k=>bif decide (i=k) then some a else RW r k
def find{α:Type}:List (Nat×α)→Nat→Option α
 | [],_=>none
 | (i,a)::r,k=>bif Nat.beq i k then some a else find r k
def St.put(σ:St)(d:Nat)(v:aO):St:={ σ with slots:=fun t=>bif Nat.beq t d then v else σ.slots t }
def St.aP(σ:St)(d:Option Nat)(v:aO):St:=match d with|some d=>σ.put d v|none=>σ
def St.bT(σ:St)(b:Nat)(x:bE):St:={ σ with mem:=fun i=>bif Nat.beq i b then some x else σ.mem i }
def St.aL{β:Type}(σ:St)(b:Nat)(val:aO)(tid:TypeId)(buf:Bool)(k:Nat→St→Tree β):Tree β :=
 match σ.mem b with
 | some bx=>bif bx.lk then .fail else k (bx.aA+1) (σ.bT b { val,tid,buf,ro:=false,lk:=false,aA:=bx.aA+1 })
 | none=>k 0 (σ.bT b { val,tid,buf,ro:=false,lk:=false,aA:=0 })
def cC:List Nat→Nat→Bool
 | [],_=>false
 | i::r,t=>Nat.beq t i||cC r t
def Ld:Value→aO
 | .int k n=>bif decide (k.min≤n)&&decide (n≤k.max) then .data (.int k) n else .undef
 | .bool b=>.data .bool b
 | .string s=>bif Nat.ble s.data.toList.length 4294967296 then .data .str s.data.toList else .undef
 | .pointer none=>.qL
 | .nilIface=>.sg
 | .slice none 0 0=>.nr
 | _=>.undef
def cc(σ:St):Operand→aO
 | .tmp t=>σ.slots t
 | .const v=>Ld v
 | .func f=>.fn f []
 | .global _=>.undef
def ja:Ty→Nat→Option Nat
 | .pair _ _,0=>some 0
 | .pair a b,k+1=>(ja b k).map (a.size+·)
 | _,_=>none
def cD:aO→Nat
 | .data t _=>t.size
 | .mix a b=>cD a+cD b
 | .nl=>0
 | _=>1
def oq:(t:Ty)→t.den→Nat→Option (Nat×aO)
 | .pair a _,x,0=>some (0,.data a x.1)
 | .pair a b,x,k+1=>match oq b x.2 k with|some r=>some (a.size+r.1,r.2)|none=>none
 | _,_,_=>none
def lH:aO→Nat→Option (Nat×aO)
 | .data t x,k=>oq t x k
 | .mix a _,0=>some (0,a)
 | .mix a b,k+1=>match lH b k with|some r=>some (cD a+r.1,r.2)|none=>none
 | _,_=>none
def toD(t:Ty):aO→Option t.den
 | .data u x=>Ty.to u t x
 | .nr=>match t with|.slice _=>some []|_=>none
 | _=>none
def toS(t:Ty):aO→Option t.den
 | .data u x=>Ty.to u t x
 | _=>none
def KI:(t:Ty)→t.den→Nat→(aO→Tree aO)→Tree t.den
 | .pair a b,x,0,f=>(f (.data a x.1)).bind fun v=>match toS a v with
   | some y=>.ret (y,x.2)
   | none=>.fail
 | .pair a b,x,k+1,f=>(KI b x.2 k f).bind fun y=>.ret (x.1,y)
 | _,_,_,_=>.fail
def G2:aO→Nat→(aO→Tree aO)→Tree aO
 | .data t x,k,f=>(KI t x k f).bind fun y=>.ret (.data t y)
 | .mix a b,0,f=>(f a).bind fun v=>.ret (.mix v b)
 | .mix a b,k+1,f=>(G2 b k f).bind fun v=>.ret (.mix a v)
 | _,_,_=>.fail
def Xk:List D0→aO→Tree aO
 | [],v=>.ret v
 | .GX k off::p,v=>match lH v k with
   | some (o,u)=>bif Nat.beq o off then Xk p u else .fail
   | none=>.fail
 | .idx i size::p,v=>match v with
   | .data (.arr _ e) l=>bif Nat.beq size e.size then .look (idx (α:=e.den) l i) fun x=>Xk p (.data e x) else .fail
   | _=>.fail
def Xl(buf:Bool)(p:List D0)(v:aO):Tree aO :=
 match buf with
 | false=>Xk p v
 | true=>match p,v with
   | .idx i size::p,.data (.slice e) l=>bif Nat.beq size e.size then .look (idx (α:=e.den) l i) fun x=>Xk p (.data e x) else .fail
   | _,_=>.fail
def xd:List D0→aO→aO→Tree aO
 | [],_,u=>.ret u
 | .GX k off::p,v,u=>G2 v k fun w=>xd p w u
 | .idx i size::p,v,u=>match v with
   | .data (.arr n e) l=>.look (idx (α:=e.den) l i) fun x=>(xd p (.data e x) u).bind fun w=>match toS e w with
     | some y=>.ret (.data (.arr n e) (nq (α:=e.den) l i y))
     | none=>.fail
   | _=>.fail
def KJ(buf:Bool)(p:List D0)(v u:aO):Tree aO :=
 match buf with
 | false=>xd p v u
 | true=>match p,v with
   | .idx i size::p,.data (.slice e) l=>.look (idx (α:=e.den) l i) fun x=>(xd p (.data e x) u).bind fun w=>match toS e w with
     | some y=>.ret (.data (.slice e) (nq (α:=e.den) l i y))
     | none=>.fail
   | _,_=>.fail
namespace Tree
theorem run_bind{α β:Type}(t:Tree α)(f:α→Tree β):(t.bind f).run=t.run.bind fun a=>(f a).run:=by
 induction t with
 | ret a=>rfl
 | fail=>rfl
 | node c t e Lf ihe=>cases c<;>simp[bind,run,Lf,ihe,aq]
 | look o k ih=>cases o<;>simp[bind,run,ih,aa]
theorem A5{T β:Type}(t:Tree T)(k:T→Tree β):(t.join k).run=t.run.bind fun a=>(k a).run:=by
 unfold join;split
 ·rfl
 ·rename_i c x y;cases c<;>rfl
 ·rfl
end Tree
end Go.Ge
namespace Go.Ge
def uX:Ty→Nat→Option Ty
 | .pair a _,0=>some a
 | .pair _ b,k+1=>uX b k
 | _,_=>none
def Ty.flat:Ty→Bool
 | .slice _=>false
 | .arr _ e=>e.flat
 | .pair a b=>a.flat&&b.flat
 | .alt _ a r=>a.flat&&r.flat
 | _=>true
def bE.row(bx:bE):Option (Ty×Nat) :=
 match bx.buf,bx.val with
 | true,.data (.slice e) l=>some (e,List.length (α:=e.den) l)
 | false,.data (.arr n e) _=>some (e,n)
 | _,_=>none
def fS(e:Ty)(σ:St):aO→Option (List e.den)
 | .data (.slice u) l=>toL u e l
 | .nr=>some []
 | .whole b aA=>match σ.mem b with
   | some bx=>bif Nat.beq bx.aA aA&&bx.buf then(match bx.val with|.data (.slice u) l=>toL u e l|_=>none) else none
   | none=>none
 | .part b aA lo n=>match σ.mem b with
   | some bx=>bif Nat.beq bx.aA aA then(match bx.buf,bx.val with
     | true,.data (.slice u) l=>toL u e (sub (α:=u.den) l lo n)
     | false,.data (.arr _ u) l=>toL u e (sub (α:=u.den) l lo n)
     | _,_=>none) else none
   | none=>none
 | _=>none
def live(σ:St)(b aA:Nat):Bool:=match σ.mem b with|some bx=>Nat.beq bx.aA aA|none=>false
def qo(σ:St):(t:Ty)→aO→Option t.den
 | .slice e,v=>(fS e σ v:Option (List e.den))
 | .pair a b,v=>match v with
   | .data u x=>Ty.to u (.pair a b) x
   | .mix p q=>(match qo σ a p,qo σ b q with
     | some x,some y=>some (x,y)
     | _,_=>none)
   | _=>none
 | .alt n a r,v=>match v with
   | .data u x=>Ty.to u (.alt n a r) x
   | .sg=>match qo σ r .sg with
     | some x=>some (.inr x)
     | none=>none
   | _=>none
 | .AU,v=>match v with
   | .data u x=>Ty.to u .AU x
   | .sg=>some ()
   | _=>none
 | t,v=>match v with
   | .data u x=>Ty.to u t x
   | _=>none
def freeze(σ:St)(b:Nat):Option St :=
 match σ.mem b with
 | some bx=>bif bx.ro then some σ else bif bx.lk then none else some (σ.bT b { bx with ro:=true })
 | none=>none
def gj(σ:St):aO→Option St
 | .whole b _=>freeze σ b
 | .part b _ _ _=>freeze σ b
 | .mix v w=>match gj σ v with
   | some σ=>gj σ w
   | none=>none
 | _=>some σ
def yl(σ:St)(t:Ty)(v:aO):Option (t.den×St) :=
 match v with
 | .data u x=>match Ty.to u t x with|some y=>some (y,σ)|none=>none
 | v=>match qo σ t v,gj σ v with
   | some x,some σ=>some (x,σ)
   | _,_=>none
def gT(σ:St):(A:Ty)→List aO→Option A.den
 | .unit,[]=>some ()
 | .pair t r,v::vs=>match qo σ t v,gT σ r vs with
   | some x,some y=>some (x,y)
   | _,_=>none
 | _,_=>none
def jW(σ:St):(A:Ty)→List aO→Option (A.den×St)
 | .unit,[]=>some ((),σ)
 | .pair t r,v::vs=>match yl σ t v with
   | some (x,σ)=>match jW σ r vs with
     | some (y,σ)=>some ((x,y),σ)
     | none=>none
   | none=>none
 | _,_=>none
def A6:(R:Ty)→R.den→aO
 | .pair t r,x=>.mix (.data t x.1) (A6 r x.2)
 | _,_=>.nl
def uY(R:Ty)(x:R.den):aO :=
 match R,x with
 | .pair t .unit,x=>.data t x.1
 | R,x=>.D1 (A6 R x)
def nth:aO→Nat→Option aO
 | .mix a _,0=>some a
 | .mix _ b,k+1=>nth b k
 | _,_=>none
def bitsOf(op:BinOp)(k:IntKind)(x y:Int):Option Int :=
 match op with
 | .and=>some (ia k x y)
 | .or=>some (zb k x y)
 | .xor=>some (dX k x y)
 | .andNot=>some (ady k x y)
 | _=>none
def Ty.eqv:(t:Ty)→t.den→t.den→Option Bool
 | .int _,x,y=>some (bI x y)
 | .bool,x,y=>some (eqB x y)
 | .str,x,y=>some (bX x y)
 | .pair a b,x,y=>match Ty.eqv a x.1 y.1,Ty.eqv b x.2 y.2 with
   | some p,some q=>some (an p q)
   | _,_=>none
 | .unit,_,_=>some true
 | .arr _ e,x,y=>match e,x,y with
   | .int _,x,y=>some (eqL x y)
   | _,_,_=>none
 | _,_,_=>none
def Ty.EM:Ty→Nat
 | .pair a b=>a.EM+b.EM+1
 | .arr _ e=>e.EM+1
 | _=>1
def Ur(op:BinOp)(k:IntKind)(a b:Int):Tree aO :=
 match op with
 | .add=>.ret (.data (.int k) (aD k a b))
 | .sub=>.ret (.data (.int k) (cL k a b))
 | .mul=>.ret (.data (.int k) (iZ k a b))
 | .quo=>.node (bI b 0) .fail (.ret (.data (.int k) (DZ k a b)))
 | .rem=>.node (bI b 0) .fail (.ret (.data (.int k) (fR a b)))
 | .eql=>.ret (.data .bool (bI a b))
 | .neq=>.ret (.data .bool (nt (bI a b)))
 | .lss=>.ret (.data .bool (aX a b))
 | .leq=>.ret (.data .bool (cK a b))
 | .gtr=>.ret (.data .bool (aX b a))
 | .geq=>.ret (.data .bool (cK b a))
 | op=>match bitsOf op k a b with
   | some c=>.ret (.data (.int k) c)
   | none=>.fail
def Us(op:BinOp)(x y:List UInt8):Tree aO :=
 match op with
 | .add=>.need (fits (plus (len x) (len y))) (.ret (.data .str (app x y)))
 | .eql=>.ret (.data .bool (bX x y))
 | .neq=>.ret (.data .bool (nt (bX x y)))
 | .lss=>.ret (.data .bool (ql x y))
 | .leq=>.ret (.data .bool (oor (ql x y) (bX x y)))
 | .gtr=>.ret (.data .bool (nt (oor (ql x y) (bX x y))))
 | .geq=>.ret (.data .bool (nt (ql x y)))
 | _=>.fail
def isEq:BinOp→Option Bool
 | .eql=>some true
 | .neq=>some false
 | _=>none
def EN:BinOp→Option Bool
 | .shl=>some true
 | .shr=>some false
 | _=>none
def G3(o:Option Ty)(t:Ty):Bool:=match o with|some u=>Ty.beq u t|none=>false
def bin(tt:Option Ty)(pt:Bool)(op:BinOp)(x y:aO):Tree aO :=
 match x,y with
 | .data (.int k) a,.data (.int k') b =>
   match EN op with
   | some left=>.node (aX b 0) .fail (.ret (.data (.int k) (bif left then mU k a b else jS k a b)))
   | none=>bif Nat.beq (Al k) (Al k') then Ur op k a b else .fail
 | .data .str a,.data .str b=>Us op a b
 | .data .bool a,.data .bool b=>bif G3 tt .bool then(match isEq op with
   | some true=>.ret (.data .bool (eqB a b))
   | some false=>.ret (.data .bool (nt (eqB a b)))
   | none=>.fail) else .fail
 | .data (.pair a b) x,.data t y=>bif G3 tt (.pair a b)&&Nat.ble (Ty.pair a b).EM 9000 then(match Ty.to t (.pair a b) y,isEq op with
   | some y,some e=>match Ty.eqv (.pair a b) x y with
     | some c=>.ret (.data .bool (bif e then c else nt c))
     | none=>.fail
   | _,_=>.fail) else .fail
 | .data (.arr n e) x,.data t y=>bif G3 tt (.arr n e)&&Nat.ble (Ty.arr n e).EM 9000 then(match Ty.to t (.arr n e) y,isEq op with
   | some y,some q=>match Ty.eqv (.arr n e) x y with
     | some c=>.ret (.data .bool (bif q then c else nt c))
     | none=>.fail
   | _,_=>.fail) else .fail
 | .qL,.qL=>match pt,isEq op with|true,some e=>.ret (.data .bool e)|_,_=>.fail
 | _,_=>.fail
def Zu(σ:St)(tt:Option Ty)(pt:Bool)(op:BinOp)(x y:aO):Tree aO :=
 match x,y with
 | .ptr b aA _,.qL=>bif live σ b aA&&pt then(match isEq op with|some e=>.ret (.data .bool (!e))|none=>.fail) else .fail
 | .qL,.ptr b aA _=>bif live σ b aA&&pt then(match isEq op with|some e=>.ret (.data .bool (!e))|none=>.fail) else .fail
 | x,y=>bin tt pt op x y
def PG(least:Bool)(x y:aO):Tree aO :=
 match x,y with
 | .data (.int k) a,.data (.int k') b=>bif Nat.beq (Al k) (Al k') then .ret (.data (.int k) (bif least then ad1 a b else imax a b)) else .fail
 | _,_=>.fail
def un(op:UnOp)(x:aO):Tree aO :=
 match op,x with
 | .not,.data .bool b=>.ret (.data .bool (nt b))
 | .neg,.data (.int k) n=>.ret (.data (.int k) (cL k 0 n))
 | .xor,.data (.int k) n=>.ret (.data (.int k) (dX k (bif k.signed then -1 else k.max) n))
 | _,_=>.fail
def Lg:(t:Ty)→t.den→Nat→(u:Ty)→u.den→Option t.den
 | .pair a b,x,0,u,y=>match Ty.to u a y with|some y=>some (y,x.2)|none=>none
 | .pair a b,x,k+1,u,y=>match Lg b x.2 k u y with|some z=>some (x.1,z)|none=>none
 | _,_,_,_,_=>none
def fT(σ:St)(t:Ty)(x:t.den):List (Nat×Operand)→Option (t.den×St)
 | []=>some (x,σ)
 | (k,o)::r=>match uX t k with
   | some u=>match yl σ u (cc σ o) with
     | some (y,σ)=>match Lg t x k u y with
       | some x=>fT σ t x r
       | none=>none
     | none=>none
   | none=>none
def fK(σ:St)(e:Ty)(l:List e.den):List (Nat×Operand)→Option (List e.den×St)
 | []=>some (l,σ)
 | (k,o)::r=>match yl σ e (cc σ o) with
   | some (y,σ)=>bif Nat.blt k l.length then fK σ e (l.set k y) r else none
   | none=>none
def lenOf(σ:St):aO→Option Int
 | .data .str s=>some (len (α:=UInt8) s)
 | .data (.slice e) l=>some (len (α:=e.den) l)
 | .data (.arr n _) _=>bif Nat.ble n 4294967296 then some n else none
 | .nr=>some 0
 | .whole b aA=>match σ.mem b with
   | some bx=>bif Nat.beq bx.aA aA&&bx.buf then(match bx.val with|.data (.slice u) l=>some (len (α:=u.den) l)|_=>none) else none
   | none=>none
 | .part b aA _ n=>bif live σ b aA then some n else none
 | _=>none
def Wr(o:Option Ty):aO→Bool
 | .data .str _=>G3 o .str
 | .data (.slice e) _=>G3 o (.slice e)
 | .data (.arr n e) _=>G3 o (.arr n e)
 | .nr|.whole ..|.part ..=>match o with|some (.slice _)=>true|_=>false
 | _=>false
def bounds(σ:St)(n:Int)(lo hi:Option Operand):Option (Int×Int) :=
 match lo,hi with
 | none,none=>some (0,n)
 | some a,none=>match cc σ a with|.data (.int _) x=>some (x,n)|_=>none
 | none,some b=>match cc σ b with|.data (.int _) y=>some (0,y)|_=>none
 | some a,some b=>match cc σ a,cc σ b with|.data (.int _) x,.data (.int _) y=>some (x,y)|_,_=>none
def isRef:aO→Bool
 | .ptr ..|.whole ..|.part ..|.fn ..|.qL|.sg|.vY ..|.mix ..|.cell ..|.nr=>true
 | _=>false
section
variable (cx:Ctx) (nb:Nat) (bf:List Nat) (inl:Nat→List aO→St→Tree (aO×St))
def jb(d:Option Nat)(ty:TypeId)(v:aO)(σ:St):Tree St :=
 match v with
 | .undef=>bif cC cx.oX ty then .ret (σ.aP d .undef) else .fail
 | .nr=>match d,find cx.T ty with
   | some d,some (.slice e)=>bif cC bf d then σ.aL (nb+d) (.data (.slice e) []) 0 true fun aA σ=>.ret (σ.put d (.whole (nb+d) aA))
     else .ret (σ.put d (.data (.slice e) []))
   | _,_=>.ret (σ.aP d .nr)
 | v=>.ret (σ.aP d v)
def nu(d:Option Nat)(c a b:aO)(σ:St):Tree St :=
 match c with
 | .data .bool c=>match a,b with
   | .data t x,.data u y=>match Ty.to u t y with
     | some y=>.ret (σ.aP d (.data t (aq c x y)))
     | none=>.fail
   | a,b=>.node c (.ret (σ.aP d a)) (.ret (σ.aP d b))
 | _=>.fail
def Zv:(t:Ty)→t.den→aO
 | .pair a b,x=>.mix (.data a x.1) (Zv b x.2)
 | t,x=>.data t x
def Zw:aO→aO
 | .data t x=>Zv t x
 | v=>v
def Xm:Ty→aO→Bool
 | .slice _,.whole ..=>true
 | t,.data u _=>Ty.beq u t
 | _,_=>false
def RX:Ty→aO→Bool
 | .pair a b,.mix p q=>Xm a p&&RX b q
 | t,.data u _=>Ty.beq u t
 | _,_=>false
def Zx(u:Ty):aO→Bool
 | .whole b aA=>Xm u (.whole b aA)
 | .mix p q=>RX u (.mix p q)
 | _=>false
def Zy:aO→Bool
 | .data (.pair _ _) _=>true
 | .mix ..=>true
 | _=>false
def zh(ty:TypeId):aO→Bool
 | .mix p q=>match find cx.T ty with|some u=>RX u (.mix p q)|none=>false
 | _=>false
def xe(ty:TypeId):aO→Bool
 | .data u _=>G3 (find cx.T ty) u
 | .whole ..=>match find cx.T ty with|some (.slice _)=>true|_=>false
 | .ptr ..|.qL|.fn ..=>cC cx.oX ty
 | _=>false
def kr(d:Option Nat)(ty:TypeId)(a:aO)(σ:St):Tree St :=
 match a with
 | .cell u x=>bif G3 (find cx.T ty) u then .ret (σ.aP d (.data u x)) else .fail
 | .ptr b aA p=>match σ.mem b with
   | some bx=>bif Nat.beq bx.aA aA then(Xl bx.buf p bx.val).bind fun v=>bif xe cx ty v||zh cx ty v then .ret (σ.aP d v) else .fail else .fail
   | none=>.fail
 | _=>.fail
def storeAt(b aA:Nat)(p:List D0)(fit:aO→Bool)(v:aO)(σ:St):Tree St :=
 match σ.mem b with
 | some bx=>bif Nat.beq bx.aA aA&&!bx.lk&&!bx.ro then
    (Xl bx.buf p bx.val).bind fun old=>bif fit old then(KJ bx.buf p bx.val v).bind fun c=>.ret (σ.bT b { bx with val:=c }) else .fail
   else .fail
 | none=>.fail
def ry(b aA:Nat)(p:List D0)(n:Nat)(v:aO)(σ:St):Tree St :=
 match σ.mem b with
 | some bx=>bif Nat.beq bx.aA aA&&!bx.lk&&!bx.ro&&!bx.buf&&Zy bx.val then
    (Xk p (Zw bx.val)).bind fun old=>bif Nat.beq (cD old) n then(xd p (Zw bx.val) v).bind fun c=>bif Zy c then .ret (σ.bT b { bx with val:=c }) else .fail else .fail
   else .fail
 | none=>.fail
def Xn(u:Ty):aO→Bool
 | .data t _=>Ty.beq t u
 | _=>false
def Ws:aO→Bool
 | .undef=>true
 | _=>false
def kI(ty:TypeId)(a v:aO)(σ:St):Tree St :=
 match a with
 | .ptr b aA p=>match σ.mem b with
   | some bx=>bif Nat.beq bx.aA aA then(Xl bx.buf p bx.val).bind fun old=>match old with
      | .data u _=>bif G3 (find cx.T ty) u then(bif cC bf 8000000&&Zx u v then ry b aA p u.size v σ else match yl σ u v with
       | some (y,σ)=>storeAt b aA p (Xn u) (.data u y) σ
       | none=>.fail) else .fail
      | _=>bif xe cx ty v&&isRef v then storeAt b aA p (fun old=>(xe cx ty old&&isRef old)||Ws old) v σ else .fail
     else .fail
   | none=>.fail
 | _=>.fail
def kJ(d:Option Nat)(ty:TypeId)(x:aO)(lo hi:Option Operand)(σ:St):Tree St :=
 match find cx.T ty,x with
 | some .str,.data .str s=>match bounds σ (len (α:=UInt8) s) lo hi with
   | some (a,b)=>.need (inside a b (len (α:=UInt8) s)) (.ret (σ.aP d (.data .str (sub (α:=UInt8) s a (minus b a)))))
   | none=>.fail
 | some (.slice u),.data (.slice e) l=>bif Ty.beq u e then(match bounds σ (len (α:=e.den) l) lo hi with
   | some (a,b)=>.need (inside a b (len (α:=e.den) l)) (.ret (σ.aP d (.data (.slice e) (sub (α:=e.den) l a (minus b a)))))
   | none=>.fail) else .fail
 | some (.slice u),.part c aA l n=>match σ.mem c with
   | some bx=>bif Nat.beq bx.aA aA&&(match bx.row with|some (e,_)=>Ty.beq u e|none=>false) then(match bounds σ n lo hi with
     | some (a,b)=>.need (inside a b n) (.ret (σ.aP d (.part c aA (plus l a) (minus b a))))
     | none=>.fail) else .fail
   | none=>.fail
 | some (.slice u),.whole c aA=>match σ.mem c with
   | some bx=>bif Nat.beq bx.aA aA&&bx.buf then(match bx.val with
     | .data (.slice e) l=>bif Ty.beq u e then(match lo,hi with
       | none,none=>.ret (σ.aP d (.whole c aA))
       | lo,hi=>match bounds σ (len (α:=e.den) l) lo hi with
         | some (a,b)=>.need (inside a b (len (α:=e.den) l)) (.ret (σ.aP d (.part c aA a (minus b a))))
         | none=>.fail) else .fail
     | _=>.fail) else .fail
   | none=>.fail
 | some (.arr m u),.ptr c aA (s::q)=>bif live σ c aA&&Nat.ble m 4294967296 then(match bounds σ m lo hi with
   | some (a,b)=>.need (inside a b m) (.ret (σ.aP d (.win c aA (s::q) u m a (minus b a))))
   | none=>.fail) else .fail
 | some (.arr m u),.ptr c aA []=>match σ.mem c with
   | some bx=>bif Nat.beq bx.aA aA&&!bx.buf then(match bx.val with
     | .data (.arr n e) _=>bif Nat.beq m n&&Ty.beq u e&&Nat.ble n 4294967296 then(match bounds σ n lo hi with
       | some (a,b)=>.need (inside a b n) (.ret (σ.aP d (.part c aA a (minus b a))))
       | none=>.fail) else .fail
     | _=>.fail) else .fail
   | none=>.fail
 | _,_=>.fail
def zi(σ:St)(b aA:Nat):Option (Ty×Int):=match σ.mem b with
 | some bx=>bif Nat.beq bx.aA aA then(match bx.buf,bx.val with
   | true,.data (.slice e) l=>some (e,len (α:=e.den) l)
   | false,.data (.arr n e) _=>some (e,n)
   | _,_=>none) else none
 | none=>none
def OZ(ty:TypeId):Option Nat :=
 match find cx.T ty with
 | some _=>none
 | none=>match find cx.els ty with
   | some e=>bif cC cx.oX e then some e else none
   | none=>none
def Lh(d:Option Nat)(b aA:Nat)(σ:St)(i:Int):Nat→Nat→Tree St
 | 0,_=>.fail
 | m+1,k=>.node (bI i k) (.ret (σ.aP d (.ptr b aA [.GX k k]))) (Lh d b aA σ i m (k+1))
def KK:List D0→Bool
 | [.GX _ off]=>Nat.beq off 0
 | _=>false
def dN(d:Option Nat)(ty:TypeId)(x:aO)(i:Int)(σ:St):Tree St :=
 match find cx.T ty,x with
 | some (.slice u),.data (.slice e) l=>bif Ty.beq u e then .look (idx (l:List e.den) i) fun y=>.ret (σ.aP d (.cell e y)) else .fail
 | some (.arr m u),.cell (.arr n e) l=>bif Ty.beq u e&&Nat.beq m n then .look (idx (l:List e.den) i) fun y=>.ret (σ.aP d (.cell e y)) else .fail
 | some (.slice u),.whole b aA=>match zi σ b aA with
   | some (e,n)=>bif Ty.beq u e then .need (within i n) (.ret (σ.aP d (.ptr b aA [.idx i e.size]))) else .fail
   | none=>.fail
 | some (.slice u),.part b aA lo n=>match zi σ b aA with
   | some (e,_)=>bif Ty.beq u e then .need (within i n) (.ret (σ.aP d (.ptr b aA [.idx (plus lo i) e.size]))) else .fail
   | none=>.fail
 | some (.arr m u),.ptr b aA p=>bif live σ b aA then .need (within i m) (.ret (σ.aP d (.ptr b aA (p++[.idx i u.size])))) else .fail
 | none,.win b aA q _ _ lo n=>match OZ cx ty with
   | some _=>bif KK q&&decide (lo=0)&&live σ b aA then Lh d b aA σ i n.toNat 0 else .fail
   | none=>.fail
 | _,_=>.fail
def kK(d:Option Nat)(ty:TypeId)(x:aO)(i:Int)(σ:St):Tree St :=
 match x,OZ cx ty with
 | .win b aA q _ _ lo n,some _=>bif KK q&&decide (lo=0)&&live σ b aA then(match i with
  | .ofNat k=>bif decide ((k:Int)<n) then .ret (σ.aP d (.ptr b aA [.GX k k])) else .fail
  | .negSucc _=>.fail) else .fail
 | x,_=>dN cx d ty x i σ
def kL(d:Option Nat)(ty:TypeId)(x:aO)(i:Int)(σ:St):Tree St :=
 match find cx.T ty,x with
 | some .str,.data .str s=>.look (idx (s:List UInt8) i) fun b=>.ret (σ.aP d (.data (.int .u8) (u8 b)))
 | some (.arr m u),.data (.arr n e) l=>bif Ty.beq u e&&Nat.beq m n then .look (idx (l:List e.den) i) fun y=>.ret (σ.aP d (.data e y)) else .fail
 | _,_=>.fail
def mw.size:mw→Nat
 | .dat t=>t.size
 | _=>1
def zj:List mw→Nat→Option Nat
 | [],_=>none
 | _::_,0=>some 0
 | f::r,k+1=>match zj r k with|some o=>some (f.size+o)|none=>none
def eB(d:Option Nat)(s:TypeId)(x:aO)(k:Nat)(σ:St):Tree St :=
 match x with
 | .cell u y=>bif G3 (find cx.T s) u then(match lH (.data u y) k with
   | some (_,.data t z)=>.ret (σ.aP d (.cell t z))
   | _=>.fail) else .fail
 | .ptr b aA p=>bif live σ b aA then(match find cx.T s with
   | some t=>match ja t k,uX t k with
     | some off,some _=>.ret (σ.aP d (.ptr b aA (p++[.GX k off])))
     | _,_=>.fail
   | none=>match find cx.qn s with
     | some fs=>match zj fs k with
       | some off=>.ret (σ.aP d (.ptr b aA (p++[.GX k off])))
       | none=>.fail
     | none=>.fail) else .fail
 | _=>.fail
def gx(d:Option Nat)(src dst:TypeId)(x:aO)(σ:St):Tree St :=
 match find cx.T src,find cx.T dst,x with
 | some (.int _),some (.int k),.data (.int _) n=>.ret (σ.aP d (.data (.int k) (kT k n)))
 | some .str,some .str,.data .str s=>.ret (σ.aP d (.data .str s))
 | some .str,some (.slice (.int .u8)),.data .str s=>match d with
   | some d=>.need (fits (len (α:=UInt8) s)) (σ.aL (nb+d) (.data (.slice (.int .u8)) (az s)) 0 true fun aA σ=>.ret (σ.put d (.whole (nb+d) aA)))
   | none=>.fail
 | some (.slice (.int .u8)),some .str,x=>match fS (.int .u8) σ x with
   | some l=>.ret (σ.aP d (.data .str (aT l)))
   | none=>.fail
 | _,_,_=>.fail
def uZ(e:Ty)(σ:St)(x:aO):Option (List e.den):=match x with
 | .data .str t=>toL (.int .u8) e (az t)
 | x=>fS e σ x
def ad2(ty t:Nat):Bool:=Nat.beq t 0||(match find cx.els ty with|some e=>Nat.beq e t|none=>false)
def gJ(d:Option Nat)(ty:TypeId)(s x:aO)(σ:St):Tree St :=
 match d,find cx.T ty with
 | some d,some (.slice e) =>
   match uZ e σ x with
   | some m=>match s with
     | .nr=>.need (fits (len (α:=e.den) m)) (σ.aL (nb+d) (.data (.slice e) m) 0 true fun aA σ=>.ret (σ.put d (.whole (nb+d) aA)))
     | .whole b aA=>match σ.mem b,fS e σ (.whole b aA) with
       | some bx,some l=>bif bx.lk||!ad2 cx ty bx.tid then .fail else
         .need (fits (plus (len (α:=e.den) l) (len (α:=e.den) m))) (.ret ((σ.bT b { bx with val:=.data (.slice e) (app (α:=e.den) l m),aA:=aA+1 }).put d (.whole b (aA+1))))
       | _,_=>.fail
     | _=>.fail
   | none=>.fail
 | _,_=>.fail
def jz(e:Ty)(m:List e.den)(b aA:Nat)(q:List D0)(Zt:Nat→Ty→Bool)(lo:Int)(σ:St):Tree St :=
 match σ.mem b with
 | some bx=>bif Nat.beq bx.aA aA&&!bx.lk&&!bx.ro then
    (match bx.buf with
    | true=>match q,bx.val with
      | [],.data (.slice u) l=>match toL e u m with
        | some m=>.ret (σ.bT b { bx with val:=.data (.slice u) (over (α:=u.den) l lo m) })
        | none=>.fail
      | _,_=>.fail
    | false=>(Xk q bx.val).bind fun old=>match old with
      | .data (.arr k u) l=>bif Zt k u then(match toL e u m with
        | some m=>(xd q bx.val (.data (.arr k u) (over (α:=u.den) l lo m))).bind fun c=>.ret (σ.bT b { bx with val:=c })
        | none=>.fail) else .fail
      | _=>.fail)
   else .fail
 | none=>.fail
def G4(e:Ty)(m:Int→List e.den)(t:aO)(σ:St):Tree (Int×St) :=
 match t with
 | .part b aA lo n=>(jz e (m n) b aA [] (fun _ _=>true) lo σ).bind fun σ=>.ret (n,σ)
 | .whole b aA=>match lenOf σ t with|some n=>(jz e (m n) b aA [] (fun _ _=>true) 0 σ).bind fun σ=>.ret (n,σ)|none=>.fail
 | .win b aA q u k lo n=>(jz e (m n) b aA q (fun k' u'=>Nat.beq k k'&&Ty.beq u u') lo σ).bind fun σ=>.ret (n,σ)
 | _=>.fail
def ym(d:Option Nat)(ty:TypeId)(t x:aO)(σ:St):Tree St :=
 match find cx.T ty with
 | some (.slice e)=>match uZ e σ x with
   | none=>.fail
   | some m=>(G4 e (fun n=>iB (α:=e.den) m n) t σ).bind fun r=>.ret (r.2.aP d (.data (.int .i64) (len (iB (α:=e.den) m r.1))))
 | _=>.fail
def yo(ty:TypeId)(t:aO)(σ:St):Tree St :=
 match find cx.T ty with
 | some (.slice e)=>(G4 e (fun n=>jV n e.zero) t σ).bind fun r=>.ret r.2
 | _=>.fail
def o8:(U:Ty)→U.den→List Nat→Nat→Option aO
 | .pair t U,u,ns,c=>match ns with
   | b::ns=>bif Nat.beq c b then some (.data t u.1) else o8 U u.2 ns c
   | []=>none
 | _,_,_,_=>none
def uu(U:Ty)(u:U.den)(ns:List Nat)(σ:St):St :=
 { σ with mem:=fun c=>match o8 U u ns c with
  | some v=>(match σ.mem c with|some bx=>some { bx with val:=v }|none=>none)
  | none=>σ.mem c }
def rz(σ:St):List Bool→(A U:Ty)→List aO→Option (A.den×U.den×List Nat)
 | [],A,U,vs=>match A,U,vs with
   | .unit,.unit,[]=>some ((),(),[])
   | _,_,_=>none
 | false::ps,A,U,vs=>match A,vs with
   | .pair t A,v::vs=>match toD t v,rz σ ps A U vs with
     | some x,some (y,u,ns)=>some ((x,y),u,ns)
     | _,_=>none
   | _,_=>none
 | true::ps,A,U,vs=>match U,vs with
   | .pair t U,.ptr b aA []::vs=>match σ.mem b with
     | some bx=>bif Nat.beq bx.aA aA&&!bx.buf&&!bx.lk&&!bx.ro&&Nat.beq bx.tid 0 then(match toS t bx.val,rz σ ps A U vs with
       | some x,some (y,u,ns)=>bif cC ns b then none else some (y,(x,u),b::ns)
       | _,_=>none) else none
     | none=>none
   | _,_=>none
def KL:aO→Bool
 | .whole ..=>true
 | _=>false
def Cl(s:Xj)(d:Option Nat)(args:List aO)(σ:St):Tree St :=
 match s,args with
 | .Zt T,[.ptr b aA []]=>match σ.mem b with
   | some bx=>match bx.val with
     | .mix (.vY b' v') (.mix u (.data .unit _))=>bif Nat.beq bx.aA aA&&!bx.buf&&!bx.lk&&!bx.ro&&Nat.beq bx.tid T&&Nat.blt 0 T&&Nat.beq b' b&&Nat.beq v' aA&&KL u then .ret (σ.aP d (.D1 .nl)) else .fail
     | _=>.fail
   | none=>.fail
 | .str T E,[.ptr b aA []]=>match σ.mem b with
   | some bx=>match bx.val with
     | .mix (.vY _ _) (.mix (.whole h hv) (.data .unit _))=>bif Nat.beq bx.aA aA&&!bx.buf&&Nat.beq bx.tid T&&Nat.blt 0 T&&!Nat.beq h b then(match σ.mem h with
       | some hx=>bif Nat.beq hx.aA hv&&hx.buf&&!hx.lk&&Nat.beq hx.tid E&&Nat.blt 0 E then(match hx.val with
         | .data (.slice (.int .u8)) l=>.ret ((σ.bT h { hx with val:=.data (.slice (.int .u8)) [],aA:=hx.aA+1 }).aP d (.data .str (aT l)))
         | _=>.fail) else .fail
       | none=>.fail) else .fail
     | _=>.fail
   | none=>.fail
 | _,_=>.fail
def RY(d:Option Nat):Option Nat:=match d with|some d=>bif cC bf d then some d else none|none=>none
def kM(e:Ty)(d:Option Nat)(args:List aO)(σ:St):Tree St :=
 match d,args with
 | some d,[x]=>match yl σ (.slice e) x with
   | some (l,σ)=>bif Nat.blt 0 e.size then .need (fits (len (α:=e.den) l)) (σ.aL (nb+d) (.data (.slice e) l) 0 true fun aA σ=>.ret (σ.put d (.whole (nb+d) aA))) else .fail
   | none=>.fail
 | _,_=>.fail
def zk(e:Ty)(σ:St):aO→Option (Nat×Nat×bE×List e.den)
 | .whole b aA=>match σ.mem b with
   | some bx=>bif Nat.beq bx.aA aA&&bx.buf&&!bx.lk&&!bx.ro&&Nat.beq bx.tid 0 then(match bx.val with
     | .data (.slice u) l=>(match toL u e l with|some l=>some (b,aA,bx,l)|none=>none)
     | _=>none) else none
   | none=>none
 | .part b aA lo n=>match σ.mem b with
   | some bx=>bif Nat.beq bx.aA aA&&bx.buf&&!bx.lk&&!bx.ro&&Nat.beq bx.tid 0&&decide (lo=0) then(match bx.val with
     | .data (.slice u) l=>(match toL u e l with|some l=>some (b,aA,bx,sub (α:=e.den) l lo n)|none=>none)
     | _=>none) else none
   | none=>none
 | _=>none
def rA(e A:Ty)(res:Bool)(spec:List e.den→A.den→Option (List e.den))(d:Option Nat)(args:List aO)(σ:St):Tree St :=
 match args with
 | v::vs=>match jW σ A vs with
   | some (x,σ)=>match zk e σ v with
     | some (b,aA,bx,l)=>.look (spec l x) fun l'=>match res,d with
       | true,some d=>.ret ((σ.bT b { bx with val:=.data (.slice e) l',aA:=aA+1 }).put d (.whole b (aA+1)))
       | false,d=>bif KL v then .ret ((σ.bT b { bx with val:=.data (.slice e) l' }).aP d (.D1 .nl)) else .fail
       | _,_=>.fail
     | none=>.fail
   | none=>.fail
 | []=>.fail
def xg(d:Option Nat)(f:Nat):Option Xj :=
 match find cx.Rz f with
 | some (.clone e)=>match RY bf d with|some _=>some (.clone e)|none=>none
 | some (.own e A r s)=>some (.own e A r s)
 | _=>none
def xh(d:Option Nat)(f:Nat)(args:List aO)(σ:St):Tree St :=
 match find cx.bF f with
 | some c=>match c.R.flat with
   | true=>match gT σ c.A args with
     | some x=>.look (c.spec x) fun y=>.ret (σ.aP d (uY c.R y))
     | none=>.fail
   | false=>match jW σ c.A args with
     | some (x,σ)=>.look (c.spec x) fun y=>.ret (σ.aP d (uY c.R y))
     | none=>.fail
 | none=>match find cx.Rz f with
  | some s=>Cl s d args σ
  | none=>match find cx.aJ f with
   | some c=>(match rz σ c.ps c.A c.U args with
     | some (x,u,ns)=>.look (c.spec (x,u)) fun y=>.ret ((uu c.U y.2 ns σ).aP d (uY c.R y.1))
     | none=>(inl f args σ).bind fun r=>.ret (r.2.aP d r.1))
   | none=>(inl f args σ).bind fun r=>.ret (r.2.aP d r.1)
def uv(d:Option Nat)(f:Nat)(args:List aO)(σ:St):Tree St :=
 match xg cx bf d f with
 | some (.clone e)=>kM nb e d args σ
 | some (.own e A r s)=>rA e A r s d args σ
 | _=>xh cx inl d f args σ
def RZ:(t:Ty)→(u:Nat)→Option ((a:Ty)×(a.den→t.den))
 | .alt n a r,u=>bif Nat.beq n u then some ⟨a,.inl⟩ else match RZ r u with
   | some ⟨b,f⟩=>some ⟨b,fun x=>.inr (f x)⟩
   | none=>none
 | _,_=>none
def qM(d:Option Nat)(ty u:TypeId)(x:aO)(σ:St):Tree St :=
 match find cx.T ty with
 | some t=>match RZ t u with
   | some ⟨a,f⟩=>match yl σ a x with
     | some (y,σ)=>.ret (σ.aP d (.data t (f y)))
     | none=>.fail
   | none=>.fail
 | none=>.fail
def qN(d:Option Nat)(name:String)(args:List aO)(σ:St):Tree St :=
 match RW cx.inv name with
 | some c=>match jW σ c.A args with
   | some (x,σ)=>.look (c.spec x) fun y=>.ret (σ.aP d (uY c.R y))
   | none=>.fail
 | none=>.fail
def u5(d:Option Nat)(ty:TypeId)(c:Call)(σ:St):Tree St :=
 match c.callee with
 | .builtin b=>match b,c.args.toList.map (cc σ),c.argTypes.toList with
   | .len,[x],[t]=>bif Wr (find cx.T t) x then(match lenOf σ x with
     | some n=>.ret (σ.aP d (.data (.int .i64) n))
     | none=>.fail) else(match OZ cx t,x with
     | some _,.win b aA _ _ _ _ n=>bif live σ b aA&&decide (n≤64) then .ret (σ.aP d (.data (.int .i64) n)) else .fail
     | _,_=>.fail)
   | .append,[s,x],[t,u]=>match find cx.T u with
     | some .str|some (.slice _)=>gJ cx nb d t s x σ
     | _=>.fail
   | .copy,[t,x],[tt,tx]=>match find cx.T tx with
     | some .str|some (.slice _)=>ym cx d tt t x σ
     | _=>.fail
   | .clear,[t],[tt]=>match d with|none=>yo cx tt t σ|some _=>.fail
   | .min,[x,y],_=>PG true x y |>.bind fun v=>.ret (σ.aP d v)
   | .max,[x,y],_=>PG false x y |>.bind fun v=>.ret (σ.aP d v)
   | _,_,_=>.fail
 | .value f=>match cc σ f with
   | .fn f caps=>bif caps.all (fun b=>live σ b.1 b.2) then uv cx nb bf inl d f (c.args.toList.map (cc σ)++caps.map fun b=>.ptr b.1 b.2 []) σ else .fail
   | _=>.fail
 | .invoke r name=>qN cx d name (cc σ r::c.args.toList.map (cc σ)) σ
def G5:List aO→Option (List (Nat×Nat))
 | []=>some []
 | .ptr b aA []::r=>(G5 r).map ((b,aA)::·)
 | _=>none
def KM(σ:St)(b:Nat):Nat:=match σ.mem b with|some bx=>bx.aA+1|none=>0
def mkObj(b aA:Nat):List mw→Nat→St→Tree (aO×St)
 | [],_,σ=>.ret (.data .unit (),σ)
 | .dat t::r,j,σ=>(mkObj b aA r (j+1) σ).bind fun x=>.ret (.mix (.data t t.zero) x.1,x.2)
 | .one::r,j,σ=>(mkObj b aA r (j+1) σ).bind fun x=>.ret (.mix .qL x.1,x.2)
 | .self::r,j,σ=>(mkObj b aA r (j+1) σ).bind fun x=>.ret (.mix (.vY b aA) x.1,x.2)
 | .buf e eT::r,j,σ=>bif Nat.blt 0 e.size then σ.aL (b*1000+999-j) (.data (.slice e) []) eT true fun v σ=>(mkObj b aA r (j+1) σ).bind fun x=>.ret (.mix (.whole (b*1000+999-j) v) x.1,x.2) else .fail
def rB:List mw→Option aO
 | []=>some (.data .unit ())
 | .dat t::r=>match rB r with|some v=>some (.mix (.data t t.zero) v)|none=>none
 | .buf _ _::r=>match rB r with|some v=>some (.mix .nr v)|none=>none
 | .one::r=>match rB r with|some v=>some (.mix .qL v)|none=>none
 | .self::_=>none
def lI(σ:St)(fs:List mw):aO→List (Nat×Operand)→Option aO
 | v,[]=>some v
 | v,(k,x)::r=>match lH v k,zj fs k,fs[k]? with
   | some (o,.data t _),some o',some f=>bif Nat.beq o o'&&Nat.beq t.size f.size then(match toS t (cc σ x) with
     | some y=>match(G2 v k fun _=>.ret (.data t y)).run with
       | some v=>lI σ fs v r
       | none=>none
     | none=>none) else none
   | _,_,_=>none
def mz(b:Nat):List mw→Nat→aO→St→Tree (aO×St)
 | [],_,.data .unit x,σ=>.ret (.data .unit x,σ)
 | .dat _::r,j,.mix (.data u y) v,σ=>(mz b r (j+1) v σ).bind fun x=>.ret (.mix (.data u y) x.1,x.2)
 | .one::r,j,.mix .qL v,σ=>(mz b r (j+1) v σ).bind fun x=>.ret (.mix .qL x.1,x.2)
 | .buf e eT::r,j,.mix .nr v,σ=>bif Nat.blt 0 e.size then σ.aL (b*1000+999-j) (.data (.slice e) []) eT true fun aA σ=>(mz b r (j+1) v σ).bind fun x=>.ret (.mix (.whole (b*1000+999-j) aA) x.1,x.2) else .fail
 | _,_,_,_=>.fail
def A7(σ:St):Nat→List (Nat×Operand)→Option aO
 | _,[]=>some (.data .unit ())
 | k,(j,x)::r=>bif Nat.beq j k then(match cc σ x,A7 σ (k+1) r with
   | .qL,some v=>some (.mix .qL v)
   | .ptr b aA p,some v=>some (.mix (.ptr b aA p) v)
   | .fn f c,some v=>some (.mix (.fn f c) v)
   | _,_=>none) else none
def Cm(d:Option Nat)(t:TypeId)(len:Nat)(parts:List (Nat×Operand))(σ:St):Tree St :=
 match d,OZ cx t,A7 σ 0 parts with
 | some d,some _,some v=>bif Nat.beq len parts.length&&Nat.blt 0 len&&Nat.ble len 64 then
  σ.aL (nb+d) v 0 false fun aA σ=>.ret (σ.put d (.win (nb+d) aA [.GX 0 0] .bool len 0 len)) else .fail
 | _,_,_=>.fail
def EO(d:Option Nat)(elem:TypeId)(x:aO)(σ:St):Tree St :=
 match d,x with
 | some _,.undef=>.fail
 | some _,.D1 _=>.fail
 | some d,v=>match find cx.qn elem with
   | some fs=>(mz (nb+d) fs 0 v σ).bind fun r=>r.2.aL (nb+d) r.1 elem false fun aA σ=>.ret (σ.put d (.ptr (nb+d) aA []))
   | none=>σ.aL (nb+d) v 0 false fun aA σ=>.ret (σ.put d (.ptr (nb+d) aA []))
 | none,_=>.fail
def uR(d:Nat)(t:Ty)(σ:St):Tree St :=
 match RY bf (some d),t with
 | some _,.slice e=>bif Nat.blt 0 e.size then σ.aL ((nb+d)*1000+999) (.data (.slice e) []) 0 true fun v σ =>
  σ.aL (nb+d) (.whole ((nb+d)*1000+999) v) 0 false fun aA σ=>.ret (σ.put d (.ptr (nb+d) aA [])) else .fail
 | _,t=>σ.aL (nb+d) (.data t t.zero) 0 false fun aA σ=>.ret (σ.put d (.ptr (nb+d) aA []))
def o9(o:Oper)(σ:St):Tree St :=
 match o.op with
 | .move x|.assign x=>jb cx nb bf o.dst o.type (cc σ x) σ
 | .pick c a b=>nu o.dst (cc σ c) (cc σ a) (cc σ b) σ
 | .alloc elem=>match o.dst,find cx.T elem with
   | some d,some t=>uR nb bf d t σ
   | some d,none=>match find cx.qn elem with
     | some fs=>(mkObj (nb+d) (KM σ (nb+d)) fs 0 σ).bind fun r=>r.2.aL (nb+d) r.1 elem false fun aA σ=>.ret (σ.put d (.ptr (nb+d) aA []))
     | none=>bif cC cx.oX elem then σ.aL (nb+d) .undef 0 false fun aA σ=>.ret (σ.put d (.ptr (nb+d) aA [])) else .fail
   | _,_=>.fail
 | .box elem x=>EO cx nb o.dst elem (cc σ x) σ
 | .build t parts=>match find cx.T t with
   | some (.pair a b)=>match fT σ (.pair a b) (Ty.pair a b).zero parts.toList with
     | some (x,σ)=>.ret (σ.aP o.dst (.data (.pair a b) x))
     | none=>.fail
   | some (.arr n e)=>match fK σ e (List.replicate n e.zero) parts.toList with
     | some (l,σ)=>.ret (σ.aP o.dst (.data (.arr n e) l))
     | none=>.fail
   | none=>match find cx.qn t with
     | some fs=>match rB fs with
       | some z=>match lI σ fs z parts.toList with
         | some (.mix p q)=>.ret (σ.aP o.dst (.mix p q))
         | some (.data .unit _)=>.ret (σ.aP o.dst (.data .unit ()))
         | _=>.fail
       | none=>.fail
     | none=>.fail
   | _=>.fail
 | .buildSlice t len parts=>match find cx.T t with
   | some (.slice e)=>match RY bf o.dst,len,parts.toList with
     | some d,0,[]=>σ.aL (nb+d) (.data (.slice e) []) 0 true fun aA σ=>.ret (σ.put d (.whole (nb+d) aA))
     | _,_,_=>bif Nat.ble (len*e.size) 65536 then(match fK σ e (List.replicate len e.zero) parts.toList with
     | some (l,σ)=>.ret (σ.aP o.dst (.data (.slice e) l))
     | none=>.fail) else .fail
   | none=>Cm cx nb o.dst t len parts.toList σ
   | _=>.fail
 | .load t a=>kr cx o.dst t (cc σ a) σ
 | .store t a x=>match o.dst with|none=>kI cx bf t (cc σ a) (cc σ x) σ|some _=>.fail
 | .nilCheck x=>match cc σ x with
   | .ptr b aA p=>bif live σ b aA then .ret (σ.aP o.dst (.ptr b aA p)) else .fail
   | .cell t x=>.ret (σ.aP o.dst (.cell t x))
   | .fn f c=>.ret (σ.aP o.dst (.fn f c))
   | _=>.fail
 | .binOp op xt x y _=>(Zu σ (find cx.T xt) (cC cx.yj xt) op (cc σ x) (cc σ y)).bind fun v=>.ret (σ.aP o.dst v)
 | .unOp op _ x=>(un op (cc σ x)).bind fun v=>.ret (σ.aP o.dst v)
 | .convert src dst x=>gx cx nb o.dst src dst (cc σ x) σ
 | .makeFunc (.func f) first caps=>match first.toList,G5 (caps.toList.map (cc σ)) with
   | [],some cs=>.ret (σ.aP o.dst (.fn f cs))
   | _,_=>.fail
 | .slice t x lo hi none=>kJ cx o.dst t (cc σ x) lo hi σ
 | .fieldAddr s x k=>eB cx o.dst s (cc σ x) k σ
 | .field xt x k=>match cc σ x with
   | .data u y=>bif G3 (find cx.T xt) u then(match lH (.data u y) k with
     | some (_,v)=>.ret (σ.aP o.dst v)
     | none=>.fail) else .fail
   | _=>.fail
 | .indexAddr t x i=>match cc σ i with
   | .data (.int _) i=>bif cC bf 5000000 then kK cx o.dst t (cc σ x) i σ else dN cx o.dst t (cc σ x) i σ
   | _=>.fail
 | .index t x i=>match cc σ i with
   | .data (.int _) i=>kL cx o.dst t (cc σ x) i σ
   | _=>.fail
 | .makeSlice t l c=>match o.dst,find cx.T t,cc σ l,cc σ c with
   | some d,some (.slice e),.data (.int _) l,.data (.int _) c =>
     .need (inside 0 l c) (.need (fits c)
      (σ.aL (nb+d) (.data (.slice e) (jV l e.zero)) 0 true fun aA σ=>.ret (σ.put d (.whole (nb+d) aA))))
   | _,_,_,_=>.fail
 | .extract t k=>match cc σ t with
   | .D1 vs=>match nth vs k with
     | some v=>.ret (σ.aP o.dst v)
     | none=>.fail
   | _=>.fail
 | .call c=>u5 cx nb bf inl o.dst o.type c σ
 | .makeInterface u x=>qM cx o.dst o.type u (cc σ x) σ
 | _=>.fail
def zl(g:Option (Nat×Bool))(j:Nat)(want:Bool):Bool :=
 match g with|some (i,b)=>Nat.beq i j&&(b==want)|none=>false
def under(j:Nat)(want:Bool):(inner:List Nat)→List (Nat×Oper)→List (Nat×Oper)×List (Nat×Oper)
 | _,[]=>([],[])
 | inner,(i,o)::r =>
   bif zl o.guard j want then let x:=under j want (i::inner) r;((i,{ o with guard:=none })::x.1,x.2)
   else bif (match o.guard with|some (k,_)=>inner.any (Nat.beq k)|none=>false) then let x:=under j want (i::inner) r;((i,o)::x.1,x.2)
   else([],(i,o)::r)
def KN(cx:Ctx):List (Nat×Oper)→Bool
 | []=>false
 | (_,o)::r=>(match o.op with
   | .call c=>match c.callee with
     | .value (.func f)=>match find cx.bF f with|some _=>false|none=>true
     | .value _=>true
     | .builtin .append=>true
     | _=>false
   | .store ..=>true
   | _=>false)||KN cx r
def St.gU(σ:St):St:={ σ with mem:=fun i=>match σ.mem i with|some b=>some { b with lk:=true }|none=>none }
def St.undef(σ:St):List (Nat×Oper)→St
 | []=>σ
 | (_,o)::r=>(σ.undef r).aP o.dst .undef
def mA(d:Nat):List (Nat×Oper)→Bool
 | []=>false
 | (_,o)::r=>(match o.dst with|some k=>Nat.beq k d|none=>false)||mA d r
def zm(σ:St)(pk:Oper)(dj:Nat)(want:Bool):Option aO :=
 match pk.op with
 | .pick (.tmp c) a b=>bif Nat.beq c dj then some (cc σ (bif want then a else b)) else none
 | _=>none
def pe(all:Array Oper):Nat→List (Nat×Oper)→St→Tree St
 | 0,_,_=>.fail
 | n+1,[],σ=>.ret σ
 | n+1,(i,o)::r,σ =>
   match o.guard with
   | none=>(o9 cx nb bf inl o σ).bind fun σ=>pe all n r σ
   | some (j,want) =>
     let g:=under j want [] ((i,o)::r)
     match(all[j]?).bind (·.dst) with
     | none=>.fail
     | some dj=>match σ.slots dj,g.2 with
       | .data .bool c,(_,pk)::rest=>bif mA dj g.1 then .fail else match pk.guard with
         | some _=>.fail
         | none =>
           let c':=bif want then c else nt c
           bif KN cx g.1 then
            (Tree.node c' ((pe all n g.1 σ).bind fun σ=>match zm σ pk dj want with
              | some v=>.ret (σ.aP pk.dst v)
              | none=>.fail)
             (match zm (σ.undef g.1) pk dj (!want) with
              | some v=>.ret ((σ.undef g.1).aP pk.dst v)
              | none=>.fail)).bind fun σ=>pe all n rest σ
           else match find cx.T pk.type,pk.dst with
            | some t,some dp=>(Tree.node c' ((pe all n g.1 σ.gU).bind fun τ=>match(zm τ pk dj want).bind (toD t) with
              | some x=>.ret x
              | none=>.fail)
             (match(zm (σ.undef g.1) pk dj (!want)).bind (toD t) with
              | some x=>.ret x
              | none=>.fail)).join fun x=>pe all n rest ((σ.undef g.1).put dp (.data t x))
            | _,_=>.fail
       | _,_=>.fail
def number:Nat→List Oper→List (Nat×Oper)
 | _,[]=>[]
 | k,o::r=>(k,o)::number (k+1) r
def Li(ops:Array Oper)(σ:St):Tree St:=pe cx nb bf inl ops (2*ops.size+1) (number 0 ops.toList) σ
def eE:Op→List Operand
 | .move x|.assign x|.box _ x|.load _ x|.nilCheck x|.unOp _ _ x|.convert _ _ x|.fieldAddr _ x _|.field _ x _|.extract x _=>[x]
 | .pick c a b=>[c,a,b]
 | .build _ ps|.buildSlice _ _ ps=>ps.toList.map (·.2)
 | .store _ a x=>[a,x]
 | .binOp _ _ x y _=>[x,y]
 | .makeFunc _ f c=>f.toList++c.toList
 | .slice _ x lo hi _=>x::(lo.toList++hi.toList)
 | .indexAddr _ x i|.index _ x i=>[x,i]
 | .makeSlice _ l c=>[l,c]
 | .call c=>(match c.callee with|.value f=>[f]|.invoke r _=>[r]|_=>[])++c.args.toList
 | .makeInterface _ x=>[x]
 | _=>[]
def tmpsOf:List Operand→List Nat
 | []=>[]
 | .tmp t::r=>t::tmpsOf r
 | _::r=>tmpsOf r
def nw(o:Oper)(σ:St):Option Nat:=match o.op with
 | .call c=>match c.callee with
   | .value x=>match cc σ x with
     | .fn f _=>some f
     | _=>none
   | _=>none
 | _=>none
def ae8:Option Nat→Option Nat→Bool
 | some a,some b=>Nat.beq a b
 | none,none=>true
 | _,_=>false
def cls(g:Option Nat)(o:Oper):Nat:=match o.op with
 | .assign _|.move _|.makeSlice ..|.convert ..=>1
 | .box e _=>match find cx.qn e with
   | some _=>3
   | none=>1
 | .alloc e=>match find cx.T e with
   | some (.slice _)=>3
   | some _=>1
   | none=>match find cx.qn e with
     | some _=>3
     | none=>1
 | .build ..|.buildSlice ..|.store ..=>2
 | .call c=>match c.callee with
   | .builtin .len|.builtin .min|.builtin .max=>0
   | .builtin .append=>2
   | .builtin _=>3
   | .value _=>match g with
     | some f=>match find cx.Rz f with
       | some (.clone _)=>2
       | some (.own _ _ _ _)=>2
       | _=>match find cx.bF f with
         | some c=>bif c.R.flat then 0 else 2
         | none=>3
     | none=>3
   | .invoke ..=>2
 | .makeInterface ..=>2
 | _=>0
structure Fp where
 rd:List Nat
 wr:List Nat
 KO:Bool
 fn:Option Nat
def u6(σ:St):aO→List Nat
 | .ptr b _ _=>[b]
 | .whole b _=>[b]
 | .part b _ _ _=>[b]
 | .win b _ _ _ _ _ _=>[b]
 | .fn _ caps=>caps.map (·.1)
 | .mix a b=>u6 σ a++u6 σ b
 | _=>[]
def refsOf(σ:St):List Operand→List Nat
 | []=>[]
 | x::r=>u6 σ (cc σ x)++refsOf σ r
def ae9(o:Oper)(σ:St):List Nat:=match o.op with
 | .move x|.assign x=>match cc σ x with
   | .ptr _ _ _=>[]
   | v=>u6 σ v
 | _=>refsOf σ (eE o.op)
def own(o:Oper):List Nat:=match o.dst with|some d=>[nb+d]|none=>[]
def yp(o:Oper)(σ:St):Fp :=
 let rd:=own nb o++ae9 o σ
 let g:=nw o σ
 match cls cx g o with
 | 0=>⟨rd,[],false,g⟩
 | 1=>⟨rd,own nb o,false,g⟩
 | 2=>⟨rd,rd,false,g⟩
 | _=>⟨[],[],true,g⟩
def St.only(σ:St)(ts rd:List Nat):St:={ slots:=fun t=>bif cC ts t then σ.slots t else .undef,mem:=fun b=>bif cC rd b then σ.mem b else none }
def lay(σ:St)(d:Option Nat)(wr:List Nat)(τ:St):St :=
 { slots:=match d with|some d=>fun t=>bif Nat.beq t d then τ.slots d else σ.slots t|none=>σ.slots
   mem:=fun b=>bif cC wr b then τ.mem b else σ.mem b }
def A8(_:Nat)(_:List aO)(_:St):Tree (aO×St):=.fail
def Zz(fp:Fp)(o:Oper)(σ:St):Tree St:=bif ae8 (nw o σ) fp.fn then o9 cx nb bf A8 o σ else .fail
def gV(fp:Fp)(o:Oper)(σ:St):Tree St :=
 bif fp.KO then o9 cx nb bf inl o σ
 else(Zz cx nb bf fp o (σ.only (tmpsOf (eE o.op)) fp.rd)).bind fun τ=>.ret (lay σ o.dst fp.wr τ)
abbrev A9:=Nat×Oper×Fp×Nat
def maskAt:List A9→Nat→Nat
 | [],_=>0
 | (i,_,_,m)::r,k=>bif Nat.beq i k then m else maskAt r k
def uS(done:List A9):List Edge→Nat
 | []=>0
 | e::r=>bif Region.binds .any e then(uS done r ||| 2 ^ e.on) ||| maskAt done e.on else uS done r
def mask(done:List A9)(o:Oper):Nat:=uS done o.after.toList
def Xo(a b:List Nat):Bool:=a.all fun x=>!cC b x
def apart(x y:Oper)(f g:Fp):Bool :=
 !f.KO&&!g.KO&&Xo f.wr g.rd&&Xo g.wr f.rd &&
 (match x.dst with|some d=>!cC (tmpsOf (eE y.op)) d&&(match y.dst with|some e=>!Nat.beq d e|none=>true)|none=>true) &&
 (match y.dst with|some e=>!cC (tmpsOf (eE x.op)) e|none=>true)
def loose(o:Oper)(f:Fp)(m:Nat):List A9→Bool
 | []=>true
 | (k,ok,fk,_)::r=>(Nat.testBit m k||apart ok o fk f)&&loose o f m r
def Lj:List (Nat×Oper)→List A9→St→Tree St
 | [],_,σ=>.ret σ
 | (i,o)::r,done,σ=>match o.guard with
   | some _=>.fail
   | none =>
     let f:=yp cx nb o σ
     let m:=mask done o
     bif loose o f m done&&(o.after.all fun e=>!Region.binds .any e||Nat.blt e.on i) then
      (gV cx nb bf inl f o σ).bind fun σ=>Lj r ((i,o,f,m)::done) σ
     else .fail
def O0(all:Array Oper)(o:Oper):List Nat:=match o.guard with
 | some (g,_)=>match(all[g]?).bind (·.dst) with|some d=>[d]|none=>[]
 | none=>[]
def D2(all:Array Oper)(o:Oper):List Nat:=O0 all o++tmpsOf (eE o.op)
def yq(o:Oper)(k:Nat):Bool:=match o.guard with|some (g,_)=>!Nat.beq g k|none=>true
def Ba(all:Array Oper)(i j:Nat)(x y:Oper)(f g:Fp):Bool :=
 !f.KO&&!g.KO&&Xo f.wr g.rd&&Xo g.wr f.rd&&yq x j&&yq y i &&
 (match x.dst with|some d=>!cC (D2 all y) d&&(match y.dst with|some e=>!Nat.beq d e|none=>true)|none=>true) &&
 (match y.dst with|some e=>!cC (D2 all x) e|none=>true)
def D3(all:Array Oper)(i:Nat)(o:Oper)(f:Fp)(m:Nat):List A9→Bool
 | []=>true
 | (k,ok,fk,_)::r=>(Nat.testBit m k||Ba all k i ok o fk f)&&D3 all i o f m r
def gm(i:Nat)(sk:Nat→Bool):Nat→Bool:=fun k=>Nat.beq k i||sk k
def tL(all:Array Oper):List (Nat×Oper)→List A9→St→(Nat→Bool)→Tree St
 | [],_,σ,_=>.ret σ
 | (i,o)::r,done,σ,sk =>
   let f:=yp cx nb o σ
   let m:=mask done o
   bif D3 all i o f m done&&(o.after.all fun e=>!Region.binds .any e||Nat.blt e.on i) then
    match o.guard with
    | none=>(gV cx nb bf inl f o σ).bind fun σ=>tL all r ((i,o,f,m)::done) σ sk
    | some (g,want)=>match(all[g]?).bind (·.dst) with
      | none=>.fail
      | some dg=>bif sk g then tL all r ((i,o,f,m)::done) (σ.aP o.dst .undef) (gm i sk)
        else match σ.slots dg with
         | .data .bool c=>.node c
          (bif want then(gV cx nb bf inl f o (σ.put dg (.data .bool true))).bind fun σ=>tL all r ((i,o,f,m)::done) σ sk
           else tL all r ((i,o,f,m)::done) ((σ.put dg (.data .bool true)).aP o.dst .undef) (gm i sk))
          (bif want then tL all r ((i,o,f,m)::done) ((σ.put dg (.data .bool false)).aP o.dst .undef) (gm i sk)
           else(gV cx nb bf inl f o (σ.put dg (.data .bool false))).bind fun σ=>tL all r ((i,o,f,m)::done) σ sk)
         | _=>.fail
   else .fail
def jX:List Oper→Bool
 | []=>true
 | o::r=>(match o.dst with|some d=>!cC (G6 r) d|none=>true)&&jX r
where G6:List Oper→List Nat
 | []=>[]
 | o::r=>match o.dst with|some d=>d::G6 r|none=>G6 r
def yu(ops:Array Oper)(σ:St):Tree St :=
 bif ops.any fun o=>o.guard.isSome then(bif jX ops.toList then tL cx nb bf inl ops (number 0 ops.toList) [] σ (fun _=>false) else .fail)
 else Lj cx nb bf inl (number 0 ops.toList) [] σ
end
end Go.Ge
namespace Go.Ge
def rounds{S R:Type}(f:S→Option (S⊕R)):Nat→S→Option R
 | 0,_=>none
 | n+1,s=>(f s).bind fun x=>match x with|.inl s=>rounds f n s|.inr r=>some r
theorem Iy{S R:Type}{f:S→Option (S⊕R)}:∀{n:Nat} {s:S} {r:R},rounds f n s=some r→∀m,n≤m→rounds f m s=some r:=by
 intro n;induction n with
 | zero=>intro s r h;cases h
 | succ n ih =>
   intro s r h m hm;obtain⟨k,rfl⟩:∃k,m=k+1:=⟨m-1,by omega⟩;simp only[rounds] at h⊢;cases hf:f s with
   | none=>rw[hf] at h;cases h
   | some x =>
     rw[hf] at h;cases x with
     | inl s'=>exact ih h k (by omega)
     | inr r'=>exact h
open Classical in
def R1{S R:Type}(f:S→Option (S⊕R))(s:S):Option R :=
 if h:∃n r,rounds f n s=some r then some (Classical.choose (Nz h)) else none
theorem Am{S R:Type}{f:S→Option (S⊕R)}{n:Nat}{s:S}{r:R}(h:rounds f n s=some r):R1 f s=some r:=by
 have hex:∃n r,rounds f n s=some r:=⟨n,r,h⟩;unfold R1;rw[dif_pos hex];have h2:=Nz (Nz hex);have a:=Iy h (max n (Classical.choose hex)) (by omega);have b:=Iy h2 (max n (Classical.choose hex)) (by omega);rw[a] at b;exact b.symm
class Lp where
 loop:{S R:Type}→(S→Option (S⊕R))→S→Option R
 ok:∀{S R:Type} (f:S→Option (S⊕R)) (s:S),loop f s=R1 f s
theorem Lp.one(i j:Lp):i=j:=by
 obtain⟨l,h⟩:=i;obtain⟨m,k⟩:=j;have:@l=@m:=by funext S R f s;rw[h,k]
 subst this;rfl
@[reducible] noncomputable def Lp.R4:Lp where
 loop:=fun f s=>match rounds f 100000 s with|some r=>some r|none=>R1 f s
 ok:=fun f s=>by
  generalize 100000=k;cases hk:rounds f k s with
  | some r=>exact(Am hk).symm
  | none=>rfl
section
variable [Lp]
def Loop{S R:Type}(f:S→Option (S⊕R))(s:S):Option R:=Lp.loop f s
theorem pg{S R:Type}{f:S→Option (S⊕R)}{n:Nat}{s:S}{r:R}(h:rounds f n s=some r):Loop f s=some r:=(Lp.ok f s).trans (Am h)
theorem pn{S R:Type}{f:S→Option (S⊕R)}{s:S}{r:R}(h:Loop f s=some r):∃n,rounds f n s=some r:=by
 replace h:=(Lp.ok f s).symm.trans h;unfold R1 at h;split at h
 ·rename_i hex;have h2:=Nz (Nz hex);exact⟨_,by rw[h2];exact h⟩
 ·cases h
theorem jo{S R:Type}(f:S→Option (S⊕R))(s:S):Loop f s=(f s).bind fun x=>match x with|.inl s=>Loop f s|.inr r=>some r:=by
 cases hf:f s with
 | none =>
   cases hl:Loop f s with
   | none=>rfl
   | some r =>
     obtain⟨n,hn⟩:=pn hl;cases n with
     | zero=>cases hn
     | succ n=>simp[rounds,hf] at hn
 | some x =>
   cases x with
   | inr r=>exact pg (n:=1) (by simp[rounds,hf])
   | inl s' =>
     show Loop f s=Loop f s'
     cases hl:Loop f s' with
     | some r =>
       obtain⟨n,hn⟩:=pn hl;exact pg (n:=n+1) (by simp[rounds,hf,hn])
     | none =>
       cases KP:Loop f s with
       | none=>rfl
       | some r =>
         obtain⟨n,hn⟩:=pn KP;cases n with
         | zero=>cases hn
         | succ n =>
           simp[rounds,hf] at hn;rw[pg hn] at hl;cases hl
end
inductive Sh where
 | d (t:Ty)
 | k (v:aO)
 | m (a b:Sh)
def Sh.ty:Sh→Ty
 | .d t=>t
 | .k _=>.unit
 | .m a b=>.pair a.ty b.ty
def KQ:List D0→List D0→Bool
 | [],[]=>true
 | .GX k o::p,.GX k' o'::q=>Nat.beq k k'&&Nat.beq o o'&&KQ p q
 | _,_=>false
def KR:List (Nat×Nat)→List (Nat×Nat)→Bool
 | [],[]=>true
 | (a,b)::r,(c,d)::s=>Nat.beq a c&&Nat.beq b d&&KR r s
 | _,_=>false
theorem Ut:∀{p q:List D0},KQ p q=true→p=q:=by
 intro p;induction p with
 | nil=>intro q h;cases q<;>first|rfl|cases h
 | cons s p ih =>
   intro q h;cases s with
   | idx i n=>cases q<;>cases h
   | GX k o =>
     cases q with
     | nil=>cases h
     | cons s' q =>
       cases s' with
       | idx i n=>cases h
       | GX k' o' =>
         simp only[KQ,dW] at h;rw[fu h.1.1,fu h.1.2,ih h.2]
theorem Uu:∀{p q:List (Nat×Nat)},KR p q=true→p=q:=by
 intro p;induction p with
 | nil=>intro q h;cases q<;>first|rfl|cases h
 | cons s p ih =>
   intro q h;obtain⟨a,b⟩:=s;cases q with
   | nil=>cases h
   | cons s' q =>
     obtain⟨c,d⟩:=s';simp only[KR,dW] at h;rw[fu h.1.1,fu h.1.2,ih h.2]
def zn(V:Nat→Bool)(jA σ:St):aO→aO→Bool
 | .ptr b v p,.ptr b' v' p'=>Nat.beq b b'&&KQ p p'&&(bif V b then(match jA.mem b,σ.mem b with|some x,some y=>Nat.beq x.aA v&&Nat.beq y.aA v'|_,_=>false) else Nat.beq v v')
 | .whole b v,.whole b' v'=>Nat.beq b b'&&(match jA.mem b,σ.mem b with|some x,some y=>Nat.beq x.aA v&&Nat.beq y.aA v'&&y.buf|_,_=>false)
 | .fn f c,.fn f' c'=>Nat.beq f f'&&KR c c'
 | .qL,.qL=>true
 | .sg,.sg=>true
 | .vY b v,.vY b' v'=>Nat.beq b b'&&Nat.beq v v'
 | _,_=>false
def abW:aO→Sh
 | .data t _=>.d t
 | .mix a b=>.m (abW a) (abW b)
 | v=>.k v
def Sh.out(V:Nat→Bool)(jA σ:St):(s:Sh)→aO→Option s.ty.den
 | .d t,v=>toD t v
 | .k u,v=>bif zn V jA σ u v then some () else none
 | .m a b,.mix v w=>match Sh.out V jA σ a v,Sh.out V jA σ b w with
   | some x,some y=>some (x,y)
   | _,_=>none
 | .m _ _,_=>none
def bump(M V:Nat→Bool):aO→aO
 | .whole b v=>bif M b then .whole b (v+1) else .whole b v
 | .ptr b v p=>bif M b&&V b then .ptr b (v+1) p else .ptr b v p
 | v=>v
def Sh.qO(M V:Nat→Bool):(s:Sh)→s.ty.den→aO
 | .d t,x=>.data t x
 | .k v,_=>bump M V v
 | .m a b,x=>.mix (a.qO M V x.1) (b.qO M V x.2)
structure R5 where
 S:List (Nat×Nat)
 M:List Nat
 fz:Bool
structure vZ where
 marks:List (Option R5)
 ad3:List Nat
structure Carry where
 S:List (Nat×Sh)
 M:List (Nat×Sh×bE)
 V:Nat→Bool
def tyS:List (Nat×Sh)→Ty
 | []=>.unit
 | (_,s)::r=>.pair s.ty (tyS r)
def tyM:List (Nat×Sh×bE)→Ty
 | []=>.unit
 | (_,s,_)::r=>.pair s.ty (tyM r)
def Carry.ty(c:Carry):Ty:=.pair (tyS c.S) (tyM c.M)
def abX(V:Nat→Bool)(jA σ:St):(l:List (Nat×Sh))→Option (tyS l).den
 | []=>some ()
 | (i,s)::r=>match Sh.out V jA σ s (σ.slots i),abX V jA σ r with
   | some x,some y=>some (x,y)
   | _,_=>none
def Iz(fz mv:Bool)(bx b:bE):Bool:=(fz||(bx.ro==b.ro))&&Nat.beq bx.tid b.tid&&(bx.buf==b.buf)&&(bx.buf||mv||Nat.beq bx.aA b.aA)
def abY(V:Nat→Bool)(fz:Bool)(jA σ:St):(l:List (Nat×Sh×bE))→Option (tyM l).den
 | []=>some ()
 | (i,s,b)::r=>match σ.mem i with
   | some bx=>bif Iz fz (V i) bx b then(match Sh.out V jA σ s bx.val,abY V fz jA σ r with
     | some x,some y=>some (x,y)
     | _,_=>none) else none
   | none=>none
def Carry.out(c:Carry)(fz:Bool)(jA σ:St):Option c.ty.den :=
 match abX c.V jA σ c.S,abY c.V fz jA σ c.M with
 | some x,some y=>some (x,y)
 | _,_=>none
def PI(M V:Nat→Bool):(l:List (Nat×Sh))→(tyS l).den→Nat→Option aO
 | [],_,_=>none
 | (i,s)::r,x,t=>bif Nat.beq t i then some (s.qO M V x.1) else PI M V r x.2 t
def Ll(fz:Bool)(M V:Nat→Bool):(l:List (Nat×Sh×bE))→(tyM l).den→Nat→Option bE
 | [],_,_=>none
 | (i,s,b)::r,x,t=>bif Nat.beq t i then some { b with val:=s.qO M V x.1,ro:=b.ro||fz,aA:=bif b.buf||V t then b.aA+1 else b.aA } else Ll fz M V r x.2 t
def ya:List (Nat×Sh×bE)→Nat→Bool
 | [],_=>false
 | (i,_,_)::r,t=>Nat.beq t i||ya r t
def Carry.qO(c:Carry)(fz lock:Bool)(wr:List Nat)(jA:St)(x:c.ty.den):St :=
 { slots:=fun t=>match PI (ya c.M) c.V c.S x.1 t with
    | some v=>v
    | none=>bif cC wr t then .undef else jA.slots t
   mem:=fun b=>match Ll fz (ya c.M) c.V c.M x.2 b with
    | some bx=>some bx
    | none=>match jA.mem b with
      | some bx=>some { bx with lk:=bx.lk||lock }
      | none=>none }
def settle:List (Nat×Sh)→St→Option St
 | [],σ=>some σ
 | (i,.d t)::r,σ=>match yl σ t (σ.slots i) with
   | some (x,σ)=>settle r (σ.put i (.data t x))
   | none=>none
 | _::r,σ=>settle r σ
def Carry.Lm(c:Carry)(fz:Bool)(jA σ:St):Option c.ty.den :=
 bif fz then(match settle c.S σ with
  | some σ=>c.out true jA σ
  | none=>none)
 else c.out false jA σ
def Carry.lock(c:Carry)(σ:St):St :=
 { σ with mem:=fun b=>match σ.mem b with
  | some bx=>some (bif ya c.M b then bx else { bx with lk:=true })
  | none=>none }
def pq:List Oper→List Nat
 | []=>[]
 | o::r=>match o.dst with|some d=>d::pq r|none=>pq r
def writes:Code→List Nat
 | .region _ ops _=>pq ops.toList
 | .seq a b=>writes a++writes b
 | .cond _ a b=>writes a++writes b
 | .block _ a=>writes a
 | .loop a=>writes a
 | .scope a=>writes a
 | _=>[]
def tM:Code→List Nat
 | .seq a b=>tM a++(tM b).filter fun e=>!cC (tM a) e
 | .cond _ a b=>tM a++(tM b).filter fun e=>!cC (tM a) e
 | .block i a=>(tM a).filter fun e=>!Nat.beq e (i+2)
 | .loop a=>tM a
 | .scope a=>tM a
 | .ret=>[1]
 | .exit i=>[i+2]
 | _=>[]
def marks:Code→Nat
 | .seq a b=>marks a+marks b
 | .cond _ a b=>marks a+marks b+1
 | .block _ a=>marks a
 | .loop a=>marks a+1
 | .scope a=>marks a
 | _=>0
def JD:List Nat→Nat→Option Nat
 | [],_=>none
 | e::r,k=>bif Nat.beq e k then some 0 else(JD r k).map (·+1)
def Uv:List Nat→List Nat→List Nat
 | [],l=>l
 | b::r,l=>bif cC l b then Uv r l else Uv r (l++[b])
section
variable (cx:Ctx)
def mkS(σ:St):List (Nat×Nat)→Option (List (Nat×Sh))
 | []=>some []
 | (i,ty)::r=>match mkS σ r with
   | none=>none
   | some l=>bif Nat.beq ty 999999 then(match σ.slots i with
     | .whole b v=>some ((i,.k (.whole b v))::l)
     | _=>some l) else match σ.slots i with
     | .data t _=>some ((i,.d t)::l)
     | .undef|.nr=>match find cx.T ty with
       | some t=>some ((i,.d t)::l)
       | none=>none
     | v=>some ((i,.k v)::l)
def Cn(σ:St):List Nat→List Nat
 | []=>[]
 | b::r=>(match σ.mem b with|some bx=>(match bx.val with|.mix u v=>u6 σ (.mix u v)|.whole c _=>[c]|.fn f c=>u6 σ (.fn f c)|_=>[])|none=>[])++Cn σ r
def PJ(σ:St):List Nat→List Nat
 | []=>[]
 | i::r =>
   let r0:=u6 σ (σ.slots i)
   let r1:=Cn σ r0
   let r2:=Cn σ r1
   Uv (r0++(r1++(r2++Cn σ r2))) (PJ σ r)
def mkM(σ:St):List Nat→Option (List (Nat×Sh×bE))
 | []=>some []
 | b::r=>match σ.mem b,mkM σ r with
   | some bx,some l=>bif bx.lk then none else some ((b,abW bx.val,bx)::l)
   | _,_=>none
def ad5:aO→Option Nat
 | .whole b _=>some b
 | .part b _ _ _=>some b
 | _=>none
def EP:List Nat→St→Option St
 | [],σ=>some σ
 | m::r,σ=>bif Nat.ble 2000000 m then(match ad5 (σ.slots (m-2000000)) with
  | some b=>match σ.mem b with
    | some bx=>match bx.val with
      | .data (.slice e) _=>match yl σ (.slice e) (σ.slots (m-2000000)) with
        | some (x,σ)=>EP r (σ.put (m-2000000) (.data (.slice e) x))
        | none=>none
      | _=>none
    | none=>none
  | none=>EP r σ) else EP r σ
def afb(nb:Nat)(bf:List Nat)(σ:St)(b:Nat):Bool:=cC (bf.map (nb+·)) b&&(match σ.mem b with|some x=>!x.buf&&!KL x.val|none=>false)
def KT(nb:Nat)(bf:List Nat)(σ:St)(p:R5):Option Carry :=
 match mkS cx σ p.S,mkM σ (PJ σ p.M) with
 | some s,some m=>some ⟨s,m,afb nb bf σ⟩
 | _,_=>none
variable (nb:Nat) (bf:List Nat) (inl:Nat→List aO→St→Tree (aO×St))
def ER{α:Type}:List Nat→Nat→(Nat→Tree α)→Tree α
 | [],_,_=>.fail
 | [e],_,f=>f e
 | e::r,i,f=>.node (eY i 0) (f e) (ER r (i-1) f)
variable [Lp]
def again{S:Type}(f:S→Tree (Nat×S)):Nat→S→Tree (Nat×S)
 | 0,_=>.fail
 | n+1,s=>(f s).bind fun r=>bif Nat.beq r.1 0 then again f n r.2 else .ret r
def Uw(p:R5):Option Nat:=match p.M with
 | [m]=>bif Nat.ble 6000000 m then some (m-6000000) else none
 | _=>none
def G7(f:St→Tree (Nat×St))(c:Nat):Nat→Nat→St→Tree (Nat×St)
 | 0,_,_=>.fail
 | n+1,j,σ=>match σ.slots c with
   | .data (.int .i64) x=>.need (bI x j) ((f (σ.put c (.data (.int .i64) (j:Int)))).bind fun r=>bif Nat.beq r.1 0 then G7 f c n (j+1) r.2 else .ret r)
   | _=>.fail
def ic:Code→List (Option R5)→St→Tree (Nat×St)
 | .skip,_,σ=>.ret (0,σ)
 | .label _,_,σ=>.ret (0,σ)
 | .ret,_,σ=>.ret (1,σ)
 | .exit i,_,σ=>.ret (i+2,σ)
 | .region _ ops dr,_,σ=>(bif dr then yu cx nb bf inl ops σ else Li cx nb bf inl ops σ).bind fun σ=>.ret (0,σ)
 | .seq a b,pl,σ=>(ic a pl σ).bind fun r=>bif Nat.beq r.1 0 then ic b (pl.drop (marks a)) r.2 else .ret r
 | .block i a,pl,σ=>(ic a pl σ).bind fun r=>.ret (bif Nat.beq r.1 (i+2) then 0 else r.1,r.2)
 | .scope a,pl,σ=>ic a pl σ
 | .cond c a b,pl,σ=>match cc σ c,pl with
   | .data .bool c,none::pl=>.node c (ic a pl σ) (ic b (pl.drop (marks a)) σ)
   | .data .bool c,some p::pl=>match EP p.M σ with
    | none=>.fail
    | some σ=>match KT cx nb bf σ p with
     | none=>.fail
     | some k =>
       let t:=Tree.node c (ic a pl (k.lock σ)) (ic b (pl.drop (marks a)) (k.lock σ))
       let wr:=writes a++writes b
       match tM a++(tM b).filter (fun e=>!cC (tM a) e) with
       | []=>(t.bind fun r=>bif Nat.beq r.1 0 then Tree.Zs (k.Lm p.fz σ r.2) else .fail).join fun x=>.ret (0,k.qO p.fz false wr σ x)
       | es=>(t.bind fun r=>match JD (0::es) r.1,k.Lm p.fz σ r.2 with
        | some i,some x=>.ret (i,x)
        | _,_=>.fail).join fun x=>ER (0::es) x.1 fun e=>.ret (e,k.qO p.fz false wr σ x.2)
   | _,_=>.fail
 | .loop a,pl,σ=>match pl with
   | some p::pl=>match Uw p with
    | some c=>G7 (fun σ=>ic a pl σ) c 100 0 σ
    | none=>match EP p.M σ with
    | none=>.fail
    | some σ=>match KT cx nb bf σ p with
     | none=>.fail
     | some k=>match k.out false σ σ with
       | none=>.fail
       | some x0 =>
         let wr:=writes a
         let es:=tM a
         let body (x:k.ty.den):Option (k.ty.den⊕(Nat×k.ty.den)):=((ic a pl (k.qO false true wr σ x)).bind fun r=>bif Nat.beq r.1 0 then(match k.out false σ r.2 with
           | some y=>.ret (.inl y)
           | none=>.fail)
          else match JD es r.1,k.Lm p.fz σ r.2 with
           | some i,some y=>.ret (.inr (i,y))
           | _,_=>.fail).run
         match es with
         | [e]=>.look (Loop (fun x=>cM (body x)) x0) fun x=>.ret (e,k.qO p.fz false wr σ x)
         | es=>.look (Loop body x0) fun x=>ER es x.1 fun e=>.ret (e,k.qO p.fz false wr σ x.2)
   | none::pl=>again (fun σ=>ic a pl σ) 100000 σ
   | _=>.fail
 | _,_,_=>.fail
end
variable [Lp]
def u7(mem:Nat→Option bE)(args:List aO):St:={ slots:=fun t=>(args[t]?).getD .undef,mem }
def G8(cx:Ctx)(σ:St):ResultVar→Tree aO
 | .tmp t=>.ret (σ.slots t)
 | .cell a ty=>(kr cx (some 0) ty (σ.slots a) σ).bind fun τ=>.ret (τ.slots 0)
def ES(cx:Ctx)(σ:St):List ResultVar→Tree aO
 | []=>.ret .nl
 | r::rs=>(G8 cx σ r).bind fun v=>(ES cx σ rs).bind fun l=>.ret (.mix v l)
def results1(cx:Ctx)(σ:St):List ResultVar→Tree aO
 | [r]=>G8 cx σ r
 | rs=>(ES cx σ rs).bind fun l=>.ret (.D1 l)
def ku(mem:Nat→Option bE):St:={ slots:=fun _=>.undef,mem }
def joinTy(cx:Ctx):List Nat→Option Ty
 | []=>none
 | m::r=>bif Nat.ble 7000000 m then find cx.T (m-7000000) else joinTy cx r
def ZA(v:aO)(mem:Nat→Option bE):St:={ slots:=fun t=>bif Nat.beq t 0 then v else .undef,mem }
def Wt(R:Ty)(args:List aO)(mem:Nat→Option bE)(F:(Nat→Option bE)→Tree (aO×(Nat→Option bE))):Tree (aO×(Nat→Option bE)) :=
 match mkM (ku mem) (PJ (u7 mem args) (List.range args.length)) with
 | none=>.fail
 | some m =>
   let k:Carry:=⟨[(0,.d R)],m,fun _=>false⟩
   ((F (k.lock (ku mem)).mem).bind fun r=>Tree.Zs (k.out false (ku mem) (ZA r.1 r.2))).join fun x=>.ret ((k.qO false false [0] (ku mem) x).slots 0,(k.qO false false [0] (ku mem) x).mem)
def Ln(cx:Ctx)(nb:Nat)(p:vZ)(inl:Nat→List aO→St→Tree (aO×St))(fn:Func)(c:Code)(args:List aO)(mem:Nat→Option bE):Tree (aO×(Nat→Option bE)) :=
 (ic cx nb p.ad3 inl c p.marks (u7 mem args)).bind fun r =>
  bif Nat.beq r.1 0||Nat.beq r.1 1 then(results1 cx r.2 fn.results.toList).bind fun v=>.ret (v,r.2.mem) else .fail
def An(cx:Ctx):Nat→(nb:Nat)→(dV:Nat→vZ)→Nat→List aO→(Nat→Option bE)→Tree (aO×(Nat→Option bE))
 | 0,_,_,_,_,_=>.fail
 | n+1,nb,dV,f,args,mem=>match find cx.fns f with
   | some fn=>match fn.body with
     | some c=>match joinTy cx (dV f).ad3 with
       | none=>Ln cx nb (dV f) (fun g xs σ=>(An cx n ((nb+g+1)*1000) dV g xs σ.mem).bind fun r=>.ret (r.1,{ σ with mem:=r.2 })) fn c args mem
       | some R=>Wt R args mem (Ln cx nb (dV f) (fun g xs σ=>(An cx n ((nb+g+1)*1000) dV g xs σ.mem).bind fun r=>.ret (r.1,{ σ with mem:=r.2 })) fn c args)
     | none=>.fail
   | none=>.fail
def G9:(A:Ty)→A.den→List aO
 | .pair t r,x=>.data t x.1::G9 r x.2
 | _,_=>[]
def ET:aO→List aO
 | .mix a b=>a::ET b
 | _=>[]
def EU:(R:Ty)→aO→List aO
 | .pair _ .unit,v=>[v]
 | _,.D1 v=>ET v
 | _,v=>[v]
def gW(k:Nat):Nat:=777000000+k
def CW:List Bool→(A U:Ty)→A.den→Nat→List aO
 | [],_,_,_,_=>[]
 | false::ps,A,U,x,k=>match A,x with
   | .pair t A,x=>.data t x.1::CW ps A U x.2 k
   | _,_=>[]
 | true::ps,A,U,x,k=>match U with
   | .pair _ U=>.ptr (gW k) 0 []::CW ps A U x (k+1)
   | _=>[]
def JE:(U:Ty)→U.den→Nat→Nat→Option bE
 | .pair t U,u,k,b=>bif Nat.beq b (gW k) then some { val:=.data t u.1,tid:=0,buf:=false,ro:=false,lk:=false,aA:=0 } else JE U u.2 (k+1) b
 | _,_,_,_=>none
def R6(mem:Nat→Option bE):(U:Ty)→Nat→Option U.den
 | .pair t U,k=>match mem (gW k) with
   | some bx=>bif Nat.beq bx.aA 0&&!bx.buf&&!bx.ro then(match toS t bx.val,R6 mem U (k+1) with
     | some x,some u=>some (x,u)
     | _,_=>none) else none
   | none=>none
 | .unit,_=>some ()
 | _,_=>none
def abZ(cx:Ctx)(n:Nat)(dV:Nat→vZ)(f:Nat)(ps:List Bool)(A U R:Ty)(x:A.den×U.den):Option (R.den×U.den) :=
 ((An cx n 0 dV f (CW ps A U x.1 0) (JE U x.2 0)).bind fun r=>match jW (ku r.2) R (EU R r.1) with
  | some (y,σ)=>(match R6 σ.mem U 0 with
    | some u=>.ret (y,u)
    | none=>.fail)
  | none=>.fail).run
def sem(cx:Ctx)(n:Nat)(dV:Nat→vZ)(f:Nat)(A R:Ty)(x:A.den):Option R.den :=
 ((An cx n 0 dV f (G9 A x) (fun _=>none)).bind fun r=>match gT (ku r.2) R (EU R r.1) with
  | some y=>.ret y
  | none=>.fail).run
end Go.Ge
namespace Go.Ge
structure Gh where
 I:Nat→Nat→Prop
 loc:Nat→Option (Nat×Nat)
def bR(t:Ty)(cs:List Value):Value:=bif t.isAgg then .agg cs.toArray else cs.headD undef
def bt(w:World)(I:Nat→Nat→Prop):(t:Ty)→t.den→List Value→Prop
 | .int k,n,cs=>cs=[.int k n]∧k.min≤(show Int from n)∧(show Int from n)≤k.max
 | .bool,b,cs=>cs=[.bool b]
 | .str,s,cs=>cs=[.string ⟨List.toArray (α:=UInt8) s⟩]∧List.length (α:=UInt8) s≤maxLen
 | .slice e,l,cs=>((∃base,cs=[.slice base 0 0])∧l=([]:List e.den)) ∨
  ∃blk off cap,cs=[.slice (some ⟨blk,off,none⟩) (List.length (α:=e.den) l) cap]∧List.length (α:=e.den) l≤cap∧cap≤maxLen ∧
   ∀(i:Nat) (x:e.den),(show List e.den from l)[i]?=some x→∃es:List Value,es.length=e.size ∧
    (∀(j:Nat) v,es[j]?=some v→w.cell? ⟨blk,off+i*e.size+j,none⟩=some v∧I blk (off+i*e.size+j))∧bt w I e x es
 | .arr n e,l,cs=>List.length (α:=e.den) l=n∧cs.length=n*e.size ∧
  ∀(i:Nat) (x:e.den),(show List e.den from l)[i]?=some x→bt w I e x ((cs.drop (i*e.size)).take e.size)
 | .pair a b,x,cs=>∃c1 c2,cs=c1++c2∧bt w I a x.1 c1∧bt w I b x.2 c2
 | .unit,_,cs=>cs=[]
 | .alt u a r,x,cs=>match(show a.den⊕r.den from x) with
   | .inl y=>r.size=1∧∃c,cs=[.iface u (bR a c)]∧bt w I a y c
   | .inr z=>bt w I r z cs
 | .AU,_,cs=>cs=[.nilIface]
theorem bt.length{w:World}{I:Nat→Nat→Prop}:∀{t:Ty} {x:t.den} {cs:List Value},bt w I t x cs→cs.length=t.size:=by
 intro t;induction t with
 | int k=>intro x cs h;rw[h.1];rfl
 | bool=>intro x cs h;rw[h];rfl
 | str=>intro x cs h;rw[h.1];rfl
 | slice e ih=>intro x cs h;rcases h with ⟨⟨_,h⟩,_⟩|⟨_,_,_,h,_⟩<;>rw[h]<;>rfl
 | arr n e ih=>intro x cs h;exact h.2.1
 | pair a b jm lG=>intro x cs h;obtain⟨c1,c2,rfl,h1,h2⟩:=h;rw[uV,jm h1,lG h2];rfl
 | unit=>intro x cs h;rw[h];rfl
 | alt u a r jm ihr =>
   intro x cs h;rcases x with y|z
   ·obtain⟨h1,c,rfl,_⟩:=h;exact h1.symm
   ·exact ihr (show bt w I r z cs from h)
 | AU=>intro x cs h;rw[show cs=_ from h];rfl
theorem bt.mono{w w':World}{I I':Nat→Nat→Prop}(hI:∀b o,I b o→I' b o)(hw:∀b o,I b o→w'.cell? ⟨b,o,none⟩=w.cell? ⟨b,o,none⟩) :
  ∀{t:Ty} {x:t.den} {cs:List Value},bt w I t x cs→bt w' I' t x cs:=by
 intro t;induction t with
 | int k=>intro x cs h;exact h
 | bool=>intro x cs h;exact h
 | str=>intro x cs h;exact h
 | slice e ih =>
   intro x cs h;rcases h with h|⟨blk,off,cap,h1,h2,h3,h4⟩
   ·exact .inl h
   ·refine .inr ⟨blk,off,cap,h1,h2,h3,fun i y hy=>?_⟩;obtain⟨es,he,hc,hr⟩:=h4 i y hy;exact⟨es,he,fun j v hv=>by obtain⟨a,b⟩:=hc j v hv;exact⟨by rw[hw _ _ b];exact a,hI _ _ b⟩,ih hr⟩
 | arr n e ih=>intro x cs h;exact⟨h.1,h.2.1,fun i y hy=>ih (h.2.2 i y hy)⟩
 | pair a b jm lG=>intro x cs h;obtain⟨c1,c2,h0,h1,h2⟩:=h;exact⟨c1,c2,h0,jm h1,lG h2⟩
 | unit=>intro x cs h;exact h
 | alt u a r jm ihr =>
   intro x cs h;rcases x with y|z
   ·obtain⟨h1,c,h2,h3⟩:=h;exact⟨h1,c,h2,jm h3⟩
   ·exact ihr (show bt w I r z cs from h)
 | AU=>intro x cs h;exact h
theorem bt.one{w:World}{I:Nat→Nat→Prop}:∀{t:Ty} {x:t.den} {cs:List Value},bt w I t x cs→∀v∈cs,v.oneCell'=true:=by
 intro t;induction t with
 | int k=>intro x cs h v hv;rw[h.1] at hv;simp at hv;subst hv;rfl
 | bool=>intro x cs h v hv;rw[h] at hv;simp at hv;subst hv;rfl
 | str=>intro x cs h v hv;rw[h.1] at hv;simp at hv;subst hv;rfl
 | slice e ih=>intro x cs h v hv;rcases h with ⟨⟨_,h⟩,_⟩|⟨_,_,_,h,_⟩<;>rw[h] at hv<;>simp at hv<;>subst hv<;>rfl
 | arr n e ih =>
   intro x cs h v hv;obtain⟨h1,h2,h3⟩:=h;obtain⟨k,hk,hkv⟩:=List.getElem_of_mem hv;have he:0<e.size:=by
    rcases YY e.size with h0|h0
    ·rw[h0,Nat.mul_zero] at h2;omega
    ·exact h0
   have hdiv:k / e.size<n:=by rw[Wh he];omega
   have hx:∃y,(show List e.den from x)[k / e.size]?=some y:=⟨_,ru (by rw[h1];exact hdiv)⟩;obtain⟨y,hy⟩:=hx;refine ih (h3 _ y hy) v ?_;have hm:=A4 k he;have hkk:k / e.size*e.size+k % e.size=k:=by rw[RR];exact RP k e.size
   have:((cs.drop (k / e.size*e.size)).take e.size)[k % e.size]?=some v:=by
    rw[uo,bG hm,ni,hkk,ru hk,hkv]
   exact yc this
 | pair a b jm lG =>
   intro x cs h v hv;obtain⟨c1,c2,rfl,h1,h2⟩:=h;rcases List.mem_append.1 hv with hv|hv
   ·exact jm h1 v hv
   ·exact lG h2 v hv
 | unit=>intro x cs h v hv;rw[h] at hv;cases hv
 | alt u a r jm ihr =>
   intro x cs h v hv;rcases x with y|z
   ·obtain⟨h1,c,rfl,h3⟩:=h;simp at hv;subst hv;rfl
   ·exact ihr (show bt w I r z cs from h) v hv
 | AU=>intro x cs h v hv;rw[show cs=_ from h] at hv;simp at hv;subst hv;rfl
theorem rC{w:World}{I:Nat→Nat→Prop}:∀{t:Ty} {x:t.den} {cs:List Value},bt w I t x cs→(bR t cs).cells.toList=cs:=by
 intro t;induction t with
 | int k=>intro x cs h;unfold bR;rw[h.1];rfl
 | bool=>intro x cs h;unfold bR;rw[h];rfl
 | str=>intro x cs h;unfold bR;rw[h.1];rfl
 | slice e=>intro x cs h;unfold bR;rcases h with ⟨⟨_,h⟩,_⟩|⟨_,_,_,h,_⟩<;>rw[h]<;>rfl
 | arr n e=>intro x cs h;rfl
 | pair a b=>intro x cs h;rfl
 | unit=>intro x cs h;rfl
 | alt u a r jm ihr =>
   intro x cs h;rcases x with y|z
   ·obtain⟨h1,c,rfl,h3⟩:=h;unfold bR Ty.isAgg;cases r.isAgg<;>rfl
   ·exact ihr (show bt w I r z cs from h)
 | AU=>intro x cs h;unfold bR;rw[show cs=_ from h];rfl
inductive Mode where
 | cells|val|many
def u9(base:Option Addr)(cap:Nat):Prop:=cap=0∨∃blk off,base=some ⟨blk,off,none⟩
def ck:List D0→Nat
 | []=>0
 | .GX _ off::p=>off+ck p
 | .idx i size::p=>i.toNat*size+ck p
theorem Bb(p q:List D0):ck (p++q)=ck p+ck q:=by
 induction p with
 | nil=>simp[ck]
 | cons s p ih=>cases s<;>simp[ck,ih]<;>omega
section
variable (γ:Gh) (mem:Nat→Option bE) (w:World)
def EV(bx:bE)(b:Nat)(lo:Int)(base:Option Addr)(cap:Nat):Prop:=lo=0→bx.buf=true→(γ.loc b=none∧base=none∧cap=0)∨∃blk,γ.loc b=some (blk,cap)∧base=some ⟨blk,0,none⟩
def EW(I:Nat→Nat→Prop)(blk off:Nat)(cs:List Value):Prop:=∀(j:Nat) v,cs[j]?=some v→w.cell? ⟨blk,off+j,none⟩=some v∧I blk (off+j)
def lJ(b aA:Nat)(K:bE→Prop):Prop:=∃bx,mem b=some bx∧aA≤bx.aA∧(bx.aA=aA→K bx)
def b6:aO→Mode→List Value→Prop
 | .undef,.val,vs=>∃v,vs=[v]
 | .undef,.cells,vs=>∃v,vs=[v]∧v.oneCell'=true
 | .undef,.many,_=>False
 | .data t x,.cells,vs=>bt w γ.I t x vs
 | .data t x,.val,vs=>∃cs,bt w γ.I t x cs∧vs=[bR t cs]
 | .data _ _,.many,_=>False
 | .mix a b,.cells,vs=>∃c1 c2,vs=c1++c2∧b6 a .cells c1∧b6 b .cells c2
 | .mix a b,.val,vs=>∃c1 c2,vs=[.agg (c1++c2).toArray]∧b6 a .cells c1∧b6 b .cells c2
 | .mix a b,.many,vs=>∃v r,vs=v::r∧b6 a .val [v]∧b6 b .many r
 | .nl,.many,vs=>vs=[]
 | .nl,_,_=>False
 | .D1 u,.val,vs=>∃arr:Array Value,vs=[.tuple arr]∧b6 u .many arr.toList
 | .D1 _,_,_=>False
 | .qL,.many,_=>False
 | .qL,_,vs=>vs=[.pointer none]
 | .sg,.many,_=>False
 | .sg,_,vs=>vs=[.nilIface]
 | .vY _ _,.many,_=>False
 | .vY b aA,_,vs=>(∃v,vs=[v]∧v.oneCell'=true)∧lJ mem b aA fun _=>∃blk cap,γ.loc b=some (blk,cap)∧(vs=[.pointer none]∨vs=[.pointer (some ⟨blk,0,none⟩)])
 | .nr,.many,_=>False
 | .nr,_,vs=>vs=[.slice none 0 0]
 | .cell _ _,.many,_=>False
 | .cell t x,_,vs=>∃blk off cs,vs=[.pointer (some ⟨blk,off,none⟩)]∧bt w γ.I t x cs∧EW w γ.I blk off cs
 | .ptr _ _ _,.many,_=>False
 | .ptr b aA p,_,vs=>(∃v,vs=[v]∧v.oneCell'=true)∧lJ mem b aA fun _=>∃blk cap,γ.loc b=some (blk,cap)∧vs=[.pointer (some ⟨blk,ck p,none⟩)]
 | .whole _ _,.many,_=>False
 | .whole b aA,_,vs=>(∃v,vs=[v]∧v.oneCell'=true)∧lJ mem b aA fun bx=>∃e n,bx.buf=true∧bx.row=some (e,n) ∧
  ((γ.loc b=none∧vs=[.slice none 0 0])∨∃blk cap,γ.loc b=some (blk,cap)∧vs=[.slice (some ⟨blk,0,none⟩) n cap])
 | .part _ _ _ _,.many,_=>False
 | .part b aA lo n,_,vs=>(∃v,vs=[v]∧v.oneCell'=true)∧lJ mem b aA fun bx=>∃e k,bx.row=some (e,k)∧0≤lo∧0≤n∧lo+n≤k ∧
  ∃base cap,vs=[.slice base n.toNat cap]∧n.toNat≤cap∧cap≤maxLen∧(u9 base cap∧EV γ bx b lo base cap)∧(n=0∨∃blk c,γ.loc b=some (blk,c)∧base=some ⟨blk,lo.toNat*e.size,none⟩)
 | .win _ _ _ _ _ _ _,.many,_=>False
 | .win b aA q e k lo n,_,vs=>(∃v,vs=[v]∧v.oneCell'=true)∧lJ mem b aA fun _=>q≠[]∧∃blk c,γ.loc b=some (blk,c)∧0≤lo∧0≤n∧lo+n≤k ∧
  ∃base cap,vs=[.slice base n.toNat cap]∧n.toNat≤cap∧(n=0∨base=some ⟨blk,ck q+lo.toNat*e.size,none⟩)
 | .fn _ _,.many,_=>False
 | .fn f caps,_,vs=>∃arr:Array Value,vs=[.func (.func f) #[] arr]∧arr.size=caps.length ∧
  ∀(i:Nat) b aA,caps[i]?=some (b,aA)→lJ mem b aA fun _=>∃blk cap,γ.loc b=some (blk,cap)∧arr[i]?=some (.pointer (some ⟨blk,0,none⟩))
def kU(cur:Array Value)(fr:Nat×Nat):Prop:=∀off,off<cur.size→¬(fr.1≤off∧off<fr.2)
def Ty.isInt:Ty→Bool
 | .int _=>true
 | _=>false
structure ThB (e:Ty) (cur:Array Value) (fr:Nat×Nat):Prop where
 th:kU cur fr
 um:e.isInt=false→¬(fr.1≤cur.size∧cur.size<fr.2)
def cr(b:Nat)(bx:bE):Prop :=
 match bx.buf with
 | true=>∃(e:Ty) (l:List e.den),bx.val=.data (.slice e) l∧0<e.size ∧
  ((γ.loc b=none∧l=[])∨∃blk cap cur tid fr,γ.loc b=some (blk,cap)∧w.heap[blk]?=some (.cells cur tid fr)∧ThB e cur fr∧(bx.tid=0∨tid=bx.tid)∧l.length≤cap∧cap≤maxLen ∧
   cur.size=cap*e.size∧∀(i:Nat) (x:e.den),l[i]?=some x→bt w γ.I e x ((cur.toList.drop (i*e.size)).take e.size))
 | false=>∃blk cap cur tid fr,γ.loc b=some (blk,cap)∧w.heap[blk]?=some (.cells cur tid fr)∧kU cur fr∧(bx.tid=0∨tid=bx.tid)∧b6 γ mem w bx.val .cells cur.toList
end
def Ux(bx:bE):Nat→Prop:=fun off=>bx.ro=true∧(bx.buf=true→∀e n,bx.row=some (e,n)→off<n*e.size)
abbrev fo:=Nat→(Obj→Prop)→Prop
def v7:fo:=fun _ _=>False
def He(G:fo)(w:World):Prop:=∀b Q,G b Q→∃o,w.heap[b]?=some o∧Q o
structure qq where
 lo:Nat
 X:Nat→Prop
 G:fo
def qq.has(B:qq)(k:Nat):Prop:=B.lo≤k∨B.X k
def ld(G:fo)(n:Nat):qq:=⟨n,fun _=>False,G⟩
theorem pz{G:fo}{n k:Nat}:(ld G n).has k↔n≤k:=⟨fun h=>h.elim id False.elim,.inl⟩
structure va (B:qq) (w w':World):Prop where
 os:w'.os=w.os
 tape:w'.tape=w.tape
 output:w'.output=w.output
 size:w.heap.size≤w'.heap.size
 block:∀k,¬B.has k→w'.heap[k]?=w.heap[k]?
theorem va.refl(B:qq)(w:World):va B w w:=⟨rfl,rfl,rfl,mq _,fun _ _=>rfl⟩
theorem va.trans{B:qq}{a b c:World}(h:va B a b)(k:va B b c):va B a c :=
 ⟨k.os.trans h.os,k.tape.trans h.tape,k.output.trans h.output,jl h.size k.size,fun i hi=>(k.block i hi).trans (h.block i hi)⟩
theorem va.of{B:qq}{w w':World}(h:RowKit.Below B.lo w w'):va B w w':=⟨h.os,h.tape,h.output,h.size,fun k hk=>h.block k (Wk fun q=>hk (.inl q))⟩
theorem va.below{G:fo}{n:Nat}{w w':World}(h:va (ld G n) w w'):RowKit.Below n w w':=⟨h.os,h.tape,h.output,h.size,fun k hk=>h.block k fun q=>by have:=pz.1 q;omega⟩
theorem va.drew{B:qq}{a w:World}(h:va B a w):va B a w.drew:=⟨h.os,h.tape,h.output,h.size,h.block⟩
theorem va.alloc{B:qq}{a w:World}(h:va B a w)(hB:B.lo≤w.heap.size)(o:Obj):va B a (w.alloc o):=h.trans (.of ((RowKit.Below.refl _ _).alloc hB o))
structure bp (B:qq) (γ:Gh) (mem:Nat→Option bE) (w:World):Prop where
 base:B.lo≤w.heap.size
 boxes:∀b bx,mem b=some bx→cr γ mem w b bx
 inj:∀b c blk k k',mem b≠none→mem c≠none→γ.loc b=some (blk,k)→γ.loc c=some (blk,k')→b=c
 fresh:∀b blk k,mem b≠none→γ.loc b=some (blk,k)→B.has blk∧blk<w.heap.size
 tN:∀blk off,γ.I blk off→blk<w.heap.size
 sep:∀b bx blk k off,mem b=some bx→γ.loc b=some (blk,k)→γ.I blk off→Ux bx off
 aH:∀b Q,B.G b Q→¬B.has b∧∃o,w.heap[b]?=some o∧Q o
structure cF (B:qq) (N:Nat) (γ:Gh) (σ:St) (a:Act) (w:World):Prop where
 slots:∀t,b6 γ σ.mem w (σ.slots t) .val [a.tmps.getD t undef]
 size:a.tmps.size=N
 defers:a.defers=[]
 ok:bp B γ σ.mem w
structure Ext (B:qq) (γ:Gh) (mem:Nat→Option bE) (w:World) (γ':Gh) (mem':Nat→Option bE) (w':World):Prop where
 below:va B w w'
 I:∀b o,γ.I b o→γ'.I b o
 pE:∀b o,γ'.I b o→γ.I b o∨B.has b
 cells:∀b o,γ.I b o→w'.cell? ⟨b,o,none⟩=w.cell? ⟨b,o,none⟩
 boxes:∀b bx,mem b=some bx→∃gy,mem' b=some gy∧bx.aA≤gy.aA∧(gy.aA=bx.aA→γ'.loc b=γ.loc b∧gy.buf=bx.buf∧gy.row=bx.row)
theorem bp.EX{B:qq}{γ γ':Gh}{mem mem':Nat→Option bE}{w w':World}(h:bp B γ mem w)(x:Ext B γ mem w γ' mem' w'):∀b Q,B.G b Q→¬B.has b∧∃o,w'.heap[b]?=some o∧Q o:=fun b Q g=>by
 obtain⟨i,o,c,q⟩:=h.aH b Q g;exact⟨i,o,(x.below.block b i).trans c,q⟩
theorem bp.PK{B:qq}{γ:Gh}{mem:Nat→Option bE}{w:World}(h:bp B γ mem w):He B.G w:=fun b Q g=>(h.aH b Q g).2
theorem Ext.refl(B:qq)(γ:Gh)(mem:Nat→Option bE)(w:World):Ext B γ mem w γ mem w :=
 ⟨va.refl _ _,fun _ _ h=>h,fun _ _ h=>.inl h,fun _ _ _=>rfl,fun b bx h=>⟨bx,h,mq _,fun _=>⟨rfl,rfl,rfl⟩⟩⟩
theorem Ext.trans{B:qq}{γ γ' ab0:Gh}{mem mem' adz:Nat→Option bE}{w w' w'':World}(h:Ext B γ mem w γ' mem' w')(k:Ext B γ' mem' w' ab0 adz w'') :
  Ext B γ mem w ab0 adz w'' where
 below:=h.below.trans k.below
 I:=fun b o x=>k.I _ _ (h.I _ _ x)
 pE:=fun b o x=>by
  rcases k.pE b o x with y|y
  ·exact h.pE b o y
  ·exact .inr y
 cells:=fun b o x=>(k.cells _ _ (h.I _ _ x)).trans (h.cells _ _ x)
 boxes:=fun b bx x=>by
  obtain⟨gy,h1,h2,h3⟩:=h.boxes b bx x;obtain⟨afc,k1,k2,k3⟩:=k.boxes b gy h1;refine⟨afc,k1,jl h2 k2,fun e=>?_⟩;have e1:gy.aA=bx.aA:=by omega
  have e2:afc.aA=gy.aA:=by omega
  obtain⟨a1,a2,a3⟩:=h3 e1;obtain⟨b1,b2,b3⟩:=k3 e2;exact⟨b1.trans a1,b2.trans a2,b3.trans a3⟩
theorem lJ.ext{B:qq}{γ γ':Gh}{mem mem':Nat→Option bE}{w w':World}(h:Ext B γ mem w γ' mem' w'){b aA:Nat}{K K':bE→Prop}(ho:lJ mem b aA K)
  (hk:∀bx gy,mem b=some bx→mem' b=some gy→γ'.loc b=γ.loc b→gy.buf=bx.buf→gy.row=bx.row→K bx→K' gy):lJ mem' b aA K':=by
 obtain⟨bx,h1,h2,h3⟩:=ho;obtain⟨gy,k1,k2,k3⟩:=h.boxes b bx h1;refine⟨gy,k1,jl h2 k2,fun e=>?_⟩;have e1:bx.aA=aA:=by omega
 obtain⟨a1,a2,a3⟩:=k3 (by omega);exact hk bx gy h1 k1 a1 a2 a3 (h3 e1)
theorem EW.ext{w w':World}{I I':Nat→Nat→Prop}(hI:∀b o,I b o→I' b o)(hw:∀b o,I b o→w'.cell? ⟨b,o,none⟩=w.cell? ⟨b,o,none⟩){blk off:Nat}{cs:List Value}
  (h:EW w I blk off cs):EW w' I' blk off cs :=
 fun j v hv=>by obtain⟨a,b⟩:=h j v hv;exact⟨by rw[hw _ _ b];exact a,hI _ _ b⟩
theorem b6.ext{B:qq}{γ γ':Gh}{mem mem':Nat→Option bE}{w w':World}(h:Ext B γ mem w γ' mem' w'):∀{v:aO} {m:Mode} {vs:List Value},b6 γ mem w v m vs→b6 γ' mem' w' v m vs:=by
 intro v;induction v with
 | undef=>intro m vs r;cases m<;>exact r
 | data t x =>
   intro m vs r;cases m with
   | cells=>exact bt.mono h.I h.cells r
   | val=>obtain⟨cs,r1,r2⟩:=r;exact⟨cs,bt.mono h.I h.cells r1,r2⟩
   | many=>exact r
 | nr=>intro m vs r;cases m<;>exact r
 | qL=>intro m vs r;cases m<;>exact r
 | sg=>intro m vs r;cases m<;>exact r
 | vY b aA =>
   intro m vs r;cases m with
   | many=>exact r
   | cells=>exact⟨r.1,r.2.ext h fun bx gy _ _ hl _ _ k=>by rw[hl];exact k⟩
   | val=>exact⟨r.1,r.2.ext h fun bx gy _ _ hl _ _ k=>by rw[hl];exact k⟩
 | cell t x =>
   intro m vs r;cases m with
   | many=>exact r
   | cells=>obtain⟨blk,off,cs,r1,r2,r3⟩:=r;exact⟨blk,off,cs,r1,bt.mono h.I h.cells r2,r3.ext h.I h.cells⟩
   | val=>obtain⟨blk,off,cs,r1,r2,r3⟩:=r;exact⟨blk,off,cs,r1,bt.mono h.I h.cells r2,r3.ext h.I h.cells⟩
 | ptr b aA p =>
   intro m vs r;cases m with
   | many=>exact r
   | cells=>exact⟨r.1,r.2.ext h fun bx gy _ _ hl _ _ k=>by rw[hl];exact k⟩
   | val=>exact⟨r.1,r.2.ext h fun bx gy _ _ hl _ _ k=>by rw[hl];exact k⟩
 | whole b aA =>
   intro m vs r;cases m with
   | many=>exact r
   | cells=>exact⟨r.1,r.2.ext h fun bx gy _ _ hl hb hr k=>by rw[hl,hb,hr];exact k⟩
   | val=>exact⟨r.1,r.2.ext h fun bx gy _ _ hl hb hr k=>by rw[hl,hb,hr];exact k⟩
 | part b aA lo n =>
   intro m vs r;cases m with
   | many=>exact r
   | cells=>exact⟨r.1,r.2.ext h fun bx gy _ _ hl hb hr k=>by unfold EV at k⊢;rw[hl,hb,hr];exact k⟩
   | val=>exact⟨r.1,r.2.ext h fun bx gy _ _ hl hb hr k=>by unfold EV at k⊢;rw[hl,hb,hr];exact k⟩
 | win b aA q e k lo n =>
   intro m vs r;cases m with
   | many=>exact r
   | cells=>exact⟨r.1,r.2.ext h fun bx gy _ _ hl _ _ k=>by rw[hl];exact k⟩
   | val=>exact⟨r.1,r.2.ext h fun bx gy _ _ hl _ _ k=>by rw[hl];exact k⟩
 | fn f caps =>
   intro m vs r;cases m with
   | many=>exact r
   | cells=>obtain⟨arr,r1,r2,r3⟩:=r;exact⟨arr,r1,r2,fun i b aA hc=>(r3 i b aA hc).ext h fun bx gy _ _ hl _ _ k=>by rw[hl];exact k⟩
   | val=>obtain⟨arr,r1,r2,r3⟩:=r;exact⟨arr,r1,r2,fun i b aA hc=>(r3 i b aA hc).ext h fun bx gy _ _ hl _ _ k=>by rw[hl];exact k⟩
 | mix a b jm lG =>
   intro m vs r;cases m with
   | cells=>obtain⟨c1,c2,r0,r1,r2⟩:=r;exact⟨c1,c2,r0,jm r1,lG r2⟩
   | val=>obtain⟨c1,c2,r0,r1,r2⟩:=r;exact⟨c1,c2,r0,jm r1,lG r2⟩
   | many=>obtain⟨c1,c2,r0,r1,r2⟩:=r;exact⟨c1,c2,r0,jm r1,lG r2⟩
 | D1 u ih =>
   intro m vs r;cases m with
   | val=>obtain⟨arr,r1,r2⟩:=r;exact⟨arr,r1,ih r2⟩
   | cells=>exact r
   | many=>exact r
 | nl=>intro m vs r;cases m<;>exact r
end Go.Ge
