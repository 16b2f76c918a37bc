/- A ghost interpreter of the model's code, and that it tells the truth: part 1. It says of a function of plain data what a call of it comes to. -/
import Derived.WalkKit
set_option linter.unusedSectionVars false
abbrev aq:=List UInt8
abbrev ai:=Unit
abbrev aI:=@Option.some.inj
abbrev aM:=@if_neg
abbrev aQ:=@if_pos
abbrev cJ:=@decide_eq_false
abbrev fN:=@List.getElem?_eq_getElem
abbrev eT:=@Nat.eq_of_beq_eq_true
abbrev dv:=@Bool.and_eq_true
abbrev dI:=@decide_eq_true
abbrev fQ:=@List.length_append
abbrev fB:=@List.length_take
abbrev br:=@Prod.mk.inj
abbrev fq:=@List.getElem?_eq_some_iff
abbrev dY:=@List.mem_of_getElem?
abbrev dd:=@List.length_cons
abbrev cg:=@Nat.le_refl
abbrev fO:=@Nat.mul_le_mul_right
abbrev fi:=@List.getElem?_take
abbrev eB:=@List.length_nil
abbrev gM:=@of_decide_eq_true
abbrev gi:=@decide_eq_decide
abbrev mY:=@List.mem_append_right
abbrev jL:=@Bool.not_eq_true'
abbrev mZ:=@List.mem_append_left
abbrev fP:=@List.mem_cons
abbrev nX:=@List.mem_cons_of_mem
abbrev mn:=@List.getElem?_drop
abbrev mo:=@List.mem_cons_self
abbrev kQ:=@decide_eq_true_eq
abbrev kR:=@List.append_assoc
abbrev kx:=@List.length_drop
abbrev gj:=@Nat.le_trans
abbrev qY:=@Option.map_eq_some_iff
abbrev vk:=@Array.getElem?_eq_some_iff
abbrev eC:=@cond_true
abbrev gx:=@Nat.add_mul
abbrev ur:=@List.head_eq_of_cons_eq
abbrev wM:=@List.drop_eq_getElem_cons
abbrev uu:=@List.take_append_drop
abbrev pb:=@Nat.min_eq_left
abbrev wN:=@List.length_eq_zero_iff
abbrev qZ:=@Int.toNat_natCast
abbrev pO:=@List.mem_append
abbrev sq:=@Option.some.injEq
abbrev iT:=@cond_false
abbrev vl:=@Bool.or_eq_false_iff
abbrev ra:=@List.all_eq_true
abbrev qI:=@List.length_map
abbrev Bb:=@List.pairwise_iff_getElem
abbrev sW:=@List.nil_append
abbrev Bc:=@Option.bind_eq_some_iff
abbrev nY:=@Nat.zero_le
abbrev wO:=@List.mem_singleton
abbrev Bd:=@List.take_of_length_le
abbrev pQ:=@List.mem_map
abbrev Ii:=@List.takeWhile_append_dropWhile
abbrev wP:=@List.getElem?_map
abbrev sX:=@List.map_cons
abbrev Ev:=@Classical.byContradiction
abbrev wQ:=@List.take_length
abbrev wc:=@Bool.or_eq_true
abbrev we:=@List.mem_filter
abbrev sr:=@Nat.zero_add
abbrev vm:=@List.drop_drop
abbrev sY:=@Nat.lt_or_ge
abbrev re:=@Int.le_refl
abbrev zi:=@List.cons_append
abbrev Ij:=@List.getElem?_append_right
abbrev xN:=@List.append_nil
abbrev xO:=@List.map_append
abbrev wR:=@List.drop_zero
abbrev CO:=@List.mem_of_mem_take
abbrev GS:=@decide_eq_false_iff_not
abbrev ky:=@if_true
abbrev Be:=@List.take_add_one
abbrev B6:=@Nat.lt_of_lt_of_le
abbrev GU:=@List.drop_of_length_le
abbrev Ik:=@Option.isSome_iff_exists
abbrev GV:=@Nat.le_of_ble_eq_true
abbrev xP:=@Nat.add_assoc
abbrev Ew:=@List.filter_eq_self
abbrev wS:=@Nat.add_zero
abbrev B7:=@Array.toList_inj
abbrev Oj:=@List.getD_eq_getElem?_getD
abbrev Ol:=@List.getElem?_append_left
abbrev Bf:=@List.drop_left
abbrev Ll:=@Classical.choose_spec
abbrev B8:=@List.mem_range
abbrev Lm:=@List.length_singleton
abbrev Il:=@List.map_congr_left
abbrev Im:=@List.dropWhile_cons
abbrev zm:=@Nat.succ_mul
abbrev GW:=@List.size_toArray
abbrev TN:=@List.take_append_of_le_length
abbrev Io:=@decide_eq_true_iff
abbrev Ex:=@Option.map_some
abbrev Ey:=@Bool.eq_iff_iff
abbrev TO:=@Array.getD_eq_getD_getElem?
abbrev Om:=@List.getElem?_eq_none
abbrev On:=@List.getElem?_append
abbrev Ln:=@of_decide_eq_false
abbrev MQ:=@List.drop_append_of_le_length
abbrev Bq:=@List.ext_getElem?
abbrev Br:=@List.nodup_append
abbrev zn:=@List.nodup_cons
abbrev FU:=@List.mem_of_mem_drop
abbrev yN:=@Bool.false_or
abbrev pR:=@if_false
abbrev Qx:=@List.eq_nil_of_length_eq_zero
abbrev FV:=@Bool.not_eq_false'
abbrev FW:=@List.pairwise_cons
abbrev Bs:=@List.take_take
abbrev FX:=@List.flatMap_cons
abbrev Ip:=@Array.length_toList
abbrev Iq:=@List.getElem?_range
abbrev Ir:=@List.length_pos_iff
abbrev Is:=@List.takeWhile_cons
abbrev wT:=@Nat.mod_lt
abbrev tn:=@Eq.trans
abbrev FY:=@Option.bind_some
abbrev FZ:=@List.any_eq_true
abbrev Iu:=@Bool.false_eq_true
abbrev MR:=@List.mem_iff_getElem?
abbrev MS:=@List.length_filter_le
abbrev Iv:=@List.filter_append
abbrev Qy:=@List.mem_of_find?_eq_some
abbrev F0:=@List.drop_left'
abbrev Bt:=@Nat.le_of_eq
abbrev F1:=@List.take_left'
abbrev CP:=@Prod.mk.injEq
abbrev Qz:=@List.getElem?_cons_succ
abbrev MT:=@List.getElem_of_mem
abbrev MU:=@List.length_reverse
abbrev Iw:=@List.mem_flatMap
abbrev Ix:=@List.drop_length
abbrev Bu:=@Nat.mul_one
abbrev Bw:=@decide_true
abbrev QA:=@Array.getElem?_eq_none
abbrev VX:=@List.take_length_add_append
abbrev CQ:=@Nat.beq_refl
abbrev MV:=@List.mem_filterMap
abbrev QB:=@List.length_replicate
abbrev QC:=@Array.getElem?_modify
abbrev QD:=@List.singleton_append
abbrev QE:=@List.dropLast_eq_take
abbrev MW:=@Nat.lt_trichotomy
abbrev Zp:=@List.findIdx?_eq_some_iff_getElem
abbrev Iy:=@List.take_left
abbrev VY:=@List.filterMap_cons_some
abbrev QF:=@Array.toList_append
abbrev VZ:=@List.getElem?_replicate
abbrev Iz:=@List.all_cons
abbrev QG:=@Nat.eq_zero_or_pos
abbrev MX:=@List.cons.injEq
abbrev QH:=@List.find?_eq_none
abbrev V0:=@List.length_eq_one_iff
abbrev QI:=@List.length_range
abbrev QJ:=@List.all_eq_false
abbrev QK:=@List.pairwise_map
abbrev V1:=@Nat.div_lt_iff_lt_mul
abbrev Zq:=@Array.getElem?_setIfInBounds
abbrev MY:=@List.take_zero
abbrev V2:=@List.eq_nil_or_concat
abbrev QL:=@Nat.lt_of_not_le
abbrev QM:=@Array.toList_map
abbrev QN:=@Nat.lt_succ_self
abbrev QO:=@List.mem_reverse
abbrev Zr:=@Option.ne_none_iff_exists'
abbrev V3:=@List.take_succ_cons
abbrev QP:=@Nat.div_add_mod
abbrev QQ:=@List.foldl_cons
abbrev Zs:=@List.sublist_append_right
abbrev QR:=@UInt8.toNat_inj
abbrev Zt:=@List.getElem?_zip_eq_some
abbrev Zu:=@List.findIdx?_eq_none_iff
abbrev QS:=@List.find?_some
abbrev MZ:=@Nat.zero_mul
abbrev M0:=@List.map_map
abbrev Zv:=@List.getLast_eq_getLastD
abbrev Zw:=@List.getElem?_cons_zero
abbrev Zx:=@List.filter_cons_of_pos
abbrev Zy:=@List.filter_cons_of_neg
abbrev Zz:=@Int.eq_ofNat_of_zero_le
abbrev V4:=@List.getElem?_set
abbrev V5:=@Decidable.not_not
abbrev M3:=@Sum.inl.inj
abbrev adM:=@List.set_eq_take_append_cons_drop
abbrev QT:=@Bool.not_true
abbrev QU:=@Bool.true_and
abbrev QV:=@Bool.or_false
abbrev QW:=@List.cons.inj
abbrev ZA:=@Array.getElem?_toList
abbrev ZB:=@Array.mem_of_getElem?
abbrev ZC:=@BitVec.eq_of_toNat_eq
abbrev ZD:=@List.concat_eq_append
abbrev adN:=@List.mk_mem_zipIdx_iff_getElem?
abbrev QX:=@Nat.mul_comm
abbrev adO:=@List.find?_eq_some_iff_getElem
abbrev ZE:=@List.pairwise_append
abbrev ZF:=@Int.toNat_of_nonneg
abbrev V6:=@List.drop_take
abbrev IA:=@and_self
abbrev F2:=@Ne.symm
abbrev IB:=@Prod.ext
abbrev V7:=@List.mapM_cons
abbrev adP:=@List.dropLast_concat_getLast
abbrev V8:=@Bool.and_false
abbrev QY:=@Nat.sub_mul
abbrev ZG:=@List.filterMap_map
abbrev ZH:=@BitVec.toNat_ofInt
abbrev ZI:=@List.getElem?_tail
abbrev ZJ:=@List.getLastD_cons
abbrev adQ:=@Array.toList_setIfInBounds
abbrev adR:=@Int.fdiv_eq_ediv_of_nonneg
abbrev V9:=@Bool.or_assoc
abbrev adS:=@Array.getElem?_append_left
abbrev ZK:=@List.flatten_cons
abbrev ZL:=@Array.size_append
abbrev ZM:=@List.getElem_take
abbrev QZ:=@Array.ext'
abbrev Q0:=@beq_iff_eq
abbrev adT:=@List.getElem?_eq_none_iff
abbrev Wa:=@Nat.add_comm
abbrev adU:=@List.sublist_append_left
abbrev F3:=@not_or
abbrev adV:=@List.filterMap_cons_none
abbrev ZN:=@Nat.min_eq_right
abbrev Wb:=@decide_false
abbrev adW:=@Array.setIfInBounds_comm
abbrev adX:=@Bool.eq_false_or_eq_true
abbrev ZO:=@List.all_reverse
abbrev ZP:=@List.getElem_mem
abbrev ZQ:=@List.length_tail
abbrev ZR:=@List.filter_cons
abbrev Wc:=@Nat.sub_self
abbrev adY:=@List.getElem?_take_of_lt
abbrev adZ:=@List.filterMap_append
abbrev ad0:=@List.getElem?_toArray
abbrev ZS:=@Bool.false_and
abbrev ZT:=@List.map_take
abbrev ZU:=@List.map_drop
abbrev ZV:=@Bool.and_true
abbrev ZW:=@Nat.le_of_lt
abbrev ZX:=@Nat.ne_of_gt
abbrev ZY:=@Nat.min_self
abbrev ZZ:=@Bool.not_not
noncomputable section
namespace Go.Ge
inductive Ty where
 | int (k:IntKind)|bool|str|slice (e:Ty)|arr (n:Nat) (e:Ty)|pair (a b:Ty)|unit
 | alt (u:Nat) (a r:Ty)|zj
def Ty.den:Ty->Type
 | .int _=>Int
 | .bool=>Bool
 | .str=>aq
 | .slice e=>List e.den
 | .arr _ e=>List e.den
 | .pair a b=>a.den×b.den
 | .unit=>ai
 | .alt _ a r=>a.den⊕r.den
 | .zj=>ai
def yO:IntKind->Nat
 | .i8=>0|.i16=>1|.i32=>2|.i64=>3|.u8=>4|.u16=>5|.u32=>6|.u64=>7
theorem wU{a b:IntKind}(h:Nat.beq (yO a) (yO b)=true):a=b:=by
 cases a<;>cases b<;>first|rfl|(exact absurd h<|by decide)
def Ty.beq:Ty->Ty->Bool
 | .int k,.int g=>Nat.beq (yO k) (yO g)
 | .bool,.bool=>true
 | .str,.str=>true
 | .slice e,.slice f=>Ty.beq e f
 | .arr n e,.arr m f=>Nat.beq n m&&Ty.beq e f
 | .pair a b,.pair c d=>Ty.beq a c&&Ty.beq b d
 | .unit,.unit=>true
 | .alt u a r,.alt v b s=>Nat.beq u v&&(Ty.beq a b&&Ty.beq r s)
 | .zj,.zj=>true
 | _,_=>false
theorem Ty.eq_of_beq:∀{a b:Ty},Ty.beq a b=true->a=b:=by
 intro a;induction a with
 | int k=>intro b h;cases b<;>first|(exact congrArg _<|wU h)|(cases h)
 | bool=>intro b h;cases b<;>first|rfl|(cases h)
 | str=>intro b h;cases b<;>first|rfl|(cases h)
 | slice e f=>intro b h;cases b<;>first|(exact congrArg _<|f h)|(cases h)
 | arr n e f =>
   intro b h;cases b<;>first|(cases h;done)|skip
   simp only[Ty.beq,dv] at h;rw[eT h.1,f h.2]
 | pair a b d g =>
   intro c h;cases c<;>first|(cases h;done)|skip
   simp only[Ty.beq,dv] at h;rw[d h.1,g h.2]
 | unit=>intro b h;cases b<;>first|rfl|(cases h)
 | alt u a r d i =>
   intro c h;cases c<;>first|(cases h;done)|skip
   simp only[Ty.beq,dv] at h;rw[eT h.1,d h.2.1,i h.2.2]
 | zj=>intro b h;cases b<;>first|rfl|(cases h)
def Ty.to(t u:Ty)(x:t.den):Option u.den :=
 if h:Ty.beq t u=true then some ((Ty.eq_of_beq h)▸x) else none
theorem Ty.beq_refl(t:Ty):Ty.beq t t=true:=by
 induction t with
 | int k=>cases k<;>rfl
 | bool=>rfl
 | str=>rfl
 | slice e d=>exact d
 | arr n e d=>simp[Ty.beq,d]
 | pair a b c f=>simp[Ty.beq,c,f]
 | unit=>rfl
 | alt u a r c g=>simp[Ty.beq,c,g]
 | zj=>rfl
theorem Ty.kz{t u:Ty}{x:t.den}{y:u.den}(h:Ty.to t u x=some y):∃e:t=u,y=e▸x:=by
 unfold Ty.to at h;split at h
 .rename_i a;exact⟨Ty.eq_of_beq a,by simpa using h.symm⟩
 .cases h
def toL(t u:Ty)(l:List t.den):Option (List u.den) :=
 if h:Ty.beq t u=true then some ((Ty.eq_of_beq h)▸l) else none
theorem jM{t u:Ty}{l:List t.den}{m:List u.den}(h:toL t u l=some m):∃e:t=u,m=e▸l:=by
 unfold toL at h;split at h
 .rename_i a;exact⟨Ty.eq_of_beq a,by simpa using h.symm⟩
 .cases h
def Ty.size:Ty->Nat
 | .int _|.bool|.str|.slice _=>1
 | .arr n e=>n*e.size
 | .pair a b=>a.size+b.size
 | .unit=>0
 | .alt _ _ r=>r.size
 | .zj=>1
def Ty.isAgg:Ty->Bool
 | .arr ..|.pair ..|.unit=>true
 | .alt _ _ r=>r.isAgg
 | _=>false
def Ty.zero:(t:Ty)->t.den
 | .int _=>(0:Int)
 | .bool=>false
 | .str=>([]:aq)
 | .slice _=>[]
 | .arr n e=>List.replicate n e.zero
 | .pair a b=>(a.zero,b.zero)
 | .unit=>()
 | .alt _ _ r=>.inr r.zero
 | .zj=>()
def aj{α:Type}(c:Bool)(x y:α):α:=bif c then x else y
def af{a b:Type}(o:Option a)(f:a->Option b):Option b:=o.bind f
def nt(b:Bool):Bool:=!b
def an(a b:Bool):Bool:=a&&b
def Zk(a b:Bool):Bool:=a||b
def aX(a b:Int):Bool:=decide (a=b)
def dJ(a b:Nat):Bool:=Nat.beq a b
def aY(a b:Int):Bool:=decide (a<b)
def cu(a b:Int):Bool:=decide (a<=b)
def bt(a b:aq):Bool:=decide (a=b)
def iu(a b:aq):Bool:=Op.bytesLess a b
def eqL(a b:List Int):Bool:=decide (a=b)
def eqB(a b:Bool):Bool:=a==b
def dh{S:Type}(o:Option (S⊕(Nat×S))):Option (S⊕S):=o.map λr=>match r with|.inl x=>.inl x|.inr y=>.inr y.2
def aF(k:IntKind)(a b:Int):Int:=k.wrap (a+b)
def cC(k:IntKind)(a b:Int):Int:=k.wrap (a-b)
def gX(k:IntKind)(a b:Int):Int:=k.wrap (a*b)
def GX(k:IntKind)(a b:Int):Int:=k.wrap (a.tdiv b)
def iE(a b:Int):Int:=a.tmod b
def jC(k:IntKind)(a:Int):Int:=k.wrap a
def lP(k:IntKind)(x y:Int):Int:=k.wrap (BitVec.ofInt k.bits x &&& BitVec.ofInt k.bits y).toNat
def wV(k:IntKind)(x y:Int):Int:=k.wrap (BitVec.ofInt k.bits x ||| BitVec.ofInt k.bits y).toNat
def fI(k:IntKind)(x y:Int):Int:=k.wrap (BitVec.ofInt k.bits x ^^^ BitVec.ofInt k.bits y).toNat
def ad1(k:IntKind)(x y:Int):Int:=k.wrap (BitVec.ofInt k.bits x &&& ~~~BitVec.ofInt k.bits y).toNat
def aeg(a b:Int):Int:=bif decide (b<a) then b else a
def imax(a b:Int):Int:=bif decide (a<b) then b else a
def lQ(k:IntKind)(a b:Int):Int:=k.wrap (a*2 ^ (min b.toNat k.bits))
def mu(k:IntKind)(a b:Int):Int:=a.fdiv (2 ^ (min b.toNat k.bits))
def plus(a b:Int):Int:=a+b
def minus(a b:Int):Int:=a-b
def len{α:Type}(l:List α):Int:=l.length
def app{α:Type}(l m:List α):List α:=l++m
def one{α:Type}(x:α):List α:=[x]
def idx{α:Type}(l:List α)(i:Int):Option α:=if 0<=i then l[i.toNat]? else none
def lR{α:Type}(l:List α)(i:Int)(x:α):List α:=l.set i.toNat x
def jN{a:Type}(n:Int)(x:a):List a:=List.replicate n.toNat x
def sub{α:Type}(l:List α)(a n:Int):List α:=(l.drop a.toNat).take n.toNat
def iU{α:Type}(l:List α)(n:Int):List α:=l.take n.toNat
def over{α:Type}(l:List α)(a:Int)(c:List α):List α:=l.take a.toNat++c++l.drop (a.toNat+c.length)
def pick{d e c:Type}(f:d->c)(g:e->c)(x:d⊕e):c:=match x with|.inl a=>f a|.inr b=>g b
def u8(b:UInt8):Int:=(b.toNat:Int)
def av(s:aq):List Int:=s.map λb=>(b.toNat:Int)
def bh(l:List Int):aq:=l.map λn=>UInt8.ofNat n.toNat
def fits(n:Int):Bool:=decide (n<=4294967296)
def inside(a b n:Int):Bool:=decide (0<=a)&&decide (a<=b)&&decide (b<=n)
def within(i n:Int):Bool:=decide (0<=i)&&decide (i<n)
inductive Tree (α:Type):Type 1 where
 | ret (a:α)
 | fail
 | node (c:Bool) (t e:Tree α)
 | look {T:Type} (o:Option T) (k:T->Tree α)
namespace Tree
def bind{α b:Type}:Tree α->(α->Tree b)->Tree b
 | .ret a,f=>f a
 | .fail,_=>.fail
 | .node c t e,f=>.node c (t.bind f) (e.bind f)
 | .look o k,f=>.look o λx=>(k x).bind f
def run{α:Type}:Tree α->Option α
 | .ret a=>some a
 | .fail=>none
 | .node c t e=>aj c t.run e.run
 | .look o k=>af o λx=>(k x).run
def join{T a:Type}(t:Tree T)(k:T->Tree a):Tree a :=
 match t with
 | .ret x=>k x
 | .node c (.ret x) (.ret y)=>k (aj c x y)
 | t=>.look t.run k
def need{α:Type}(c:Bool)(t:Tree α):Tree α:=.node c t .fail
def Z0{b:Type}:Option b->Tree b
 | some a=>.ret a
 | none=>.fail
end Tree
inductive B9 where
 | fJ (k off:Nat)
 | idx (i:Int) (size:Nat)
inductive aO where
 | undef
 | data (t:Ty) (x:t.den)
 | oa
 | rf
 | ss
 | vu (b aP:Nat)
 | cell (t:Ty) (x:t.den)
 | ptr (b aP:Nat) (p:List B9)
 | whole (b aP:Nat)
 | part (b aP:Nat) (lo n:Int)
 | win (b aP:Nat) (q:List B9) (e:Ty) (k:Nat) (lo n:Int)
 | fn (f:Nat) (afp:List (Nat×Nat))
 | mix (a b:aO)
 | yP (vs:aO)
 | nl
structure bF where
 val:aO
 tid:TypeId
 buf:Bool
 ro:Bool
 lk:Bool
 aP:Nat
structure St where
 slots:Nat->aO
 mem:Nat->Option bF
structure xL where
 A:Ty
 R:Ty
 spec:A.den->Option R.den
inductive OT where
 | zl (t:Ty)
 | buf (e:Ty) (Xj:Nat)
 | ref (tid:Nat) (o:OT)
 | pair (a b:OT)
 | unit
def OT.den:OT->Type
 | .zl t=>t.den
 | .buf e _=>List e.den
 | .ref _ o=>o.den
 | .pair a b=>a.den×b.den
 | .unit=>ai
def OT.nr:OT->Nat
 | .ref _ o=>o.nr+1
 | .pair a b=>a.nr+b.nr
 | _=>0
def OT.nb:OT->Nat
 | .buf ..=>1
 | .ref _ o=>o.nb
 | .pair a b=>a.nb+b.nb
 | _=>0
structure xQ where
 ps:List Bool
 A:Ty
 U:OT
 R:Ty
 spec:A.den×U.den->Option (R.den×U.den)
inductive na where
 | zl (t:Ty)
 | buf (e:Ty) (Xj:Nat)
 | one
 | self
inductive Xk where
 | chk (T:Nat)
 | str (T E:Nat)
 | clone (e:Ty)
 | own (e A:Ty) (res:Bool) (spec:List e.den->A.den->Option (List e.den))
 | CR (g:Nat)
structure Ctx where
 T:List (Nat×Ty)
 rh:List Nat
 lS:List Nat
 fns:List (Nat×Func)
 Zl:List (Nat×xL)
 TP:List (Nat×xQ)
 sZ:List (Nat×List na)
 Lo:List (Nat×Xk)
 Wd:List (Nat×Nat)
 inv:List (String×xL)
def Q1{b:Type}:List (String×b)->String->Option b
 | [],_=>none
 | (i,a)::r,k=>bif decide (i=k) then some a else Q1 r k
def find{α:Type}:List (Nat×α)->Nat->Option α
 | [],_=>none
 | (i,a)::r,k=>bif Nat.beq i k then some a else find r k
def St.put(a:St)(d:Nat)(v:aO):St:={ a with slots:=λt=>bif Nat.beq t d then v else a.slots t }
def St.ba(a:St)(d:Option Nat)(v:aO):St:=match d with|some d=>a.put d v|none=>a
def St.b5(a:St)(b:Nat)(x:bF):St:={ a with mem:=λi=>bif Nat.beq i b then some x else a.mem i }
def St.aT{c:Type}(a:St)(b:Nat)(val:aO)(tid:TypeId)(buf:Bool)(k:Nat->St->Tree c):Tree c :=
 match a.mem b with
 | some bx=>bif bx.lk then .fail else k (bx.aP+1) (a.b5 b { val,tid,buf,ro:=false,lk:=false,aP:=bx.aP+1 })
 | none=>k 0 (a.b5 b { val,tid,buf,ro:=false,lk:=false,aP:=0 })
def cP:List Nat->Nat->Bool
 | [],_=>false
 | i::r,t=>Nat.beq t i||cP r t
def IC:Value->aO
 | .int k n=>bif decide (k.min<=n)&&decide (n<=k.max) then .data (.int k) n else .undef
 | .bool b=>.data .bool b
 | .string s=>bif Nat.ble s.data.toList.length 4294967296 then .data .str s.data.toList else .undef
 | .pointer none=>.rf
 | .nilIface=>.ss
 | .slice none 0 0=>.oa
 | _=>.undef
def cD(a:St):Operand->aO
 | .tmp t=>a.slots t
 | .const v=>IC v
 | .func f=>.fn f []
 | .global _=>.undef
def jr:Ty->Nat->Option Nat
 | .pair _ _,0=>some 0
 | .pair a b,k+1=>(jr b k).map (a.size+·)
 | _,_=>none
def cV:aO->Nat
 | .data t _=>t.size
 | .mix a b=>cV a+cV b
 | .nl=>0
 | _=>1
def pc:(t:Ty)->t.den->Nat->Option (Nat×aO)
 | .pair a _,x,0=>some (0,.data a x.1)
 | .pair a b,x,k+1=>match pc b x.2 k with|some r=>some (a.size+r.1,r.2)|none=>none
 | _,_,_=>none
def mv:aO->Nat->Option (Nat×aO)
 | .data t x,k=>pc t x k
 | .mix a _,0=>some (0,a)
 | .mix a b,k+1=>match mv b k with|some r=>some (cV a+r.1,r.2)|none=>none
 | _,_=>none
def toD(t:Ty):aO->Option t.den
 | .data u x=>Ty.to u t x
 | .oa=>match t with|.slice _=>some []|_=>none
 | _=>none
def toS(t:Ty):aO->Option t.den
 | .data u x=>Ty.to u t x
 | _=>none
def HJ:(t:Ty)->t.den->Nat->(aO->Tree aO)->Tree t.den
 | .pair a b,x,0,f=>(f<|.data a x.1).bind λv=>match toS a v with
   | some y=>.ret (y,x.2)
   | none=>.fail
 | .pair a b,x,k+1,f=>(HJ b x.2 k f).bind λy=>.ret (x.1,y)
 | _,_,_,_=>.fail
def Ez:aO->Nat->(aO->Tree aO)->Tree aO
 | .data t x,k,f=>(HJ t x k f).bind λy=>.ret (.data t y)
 | .mix a b,0,f=>(f a).bind λv=>.ret (.mix v b)
 | .mix a b,k+1,f=>(Ez b k f).bind λv=>.ret (.mix a v)
 | _,_,_=>.fail
def Xl:List B9->aO->Tree aO
 | [],v=>.ret v
 | .fJ k off::p,v=>match mv v k with
   | some (o,u)=>bif Nat.beq o off then Xl p u else .fail
   | none=>.fail
 | .idx i size::p,v=>match v with
   | .data (.arr _ e) l=>bif Nat.beq size e.size then .look (idx (α:=e.den) l i) λx=>Xl p (.data e x) else .fail
   | _=>.fail
def Xm(a:Bool)(p:List B9)(v:aO):Tree aO :=
 match a with
 | false=>Xl p v
 | true=>match p,v with
   | .idx i size::p,.data (.slice e) l=>bif Nat.beq size e.size then .look (idx (α:=e.den) l i) λx=>Xl p (.data e x) else .fail
   | _,_=>.fail
def wg:List B9->aO->aO->Tree aO
 | [],_,u=>.ret u
 | .fJ k off::p,v,u=>Ez v k λw=>wg p w u
 | .idx i size::p,v,u=>match v with
   | .data (.arr n e) l=>.look (idx (α:=e.den) l i) λx=>(wg p (.data e x) u).bind λw=>match toS e w with
     | some y=>.ret (.data (.arr n e)<|lR (α:=e.den) l i y)
     | none=>.fail
   | _=>.fail
def HK(a:Bool)(p:List B9)(v u:aO):Tree aO :=
 match a with
 | false=>wg p v u
 | true=>match p,v with
   | .idx i size::p,.data (.slice e) l=>.look (idx (α:=e.den) l i) λx=>(wg p (.data e x) u).bind λw=>match toS e w with
     | some y=>.ret (.data (.slice e)<|lR (α:=e.den) l i y)
     | none=>.fail
   | _,_=>.fail
namespace Tree
theorem run_bind{α g:Type}(t:Tree α)(f:α->Tree g):(t.bind f).run=t.run.bind λa=>(f a).run:=by
 induction t with
 | ret a=>rfl
 | fail=>rfl
 | node c t e b d=>cases c<;>simp[bind,run,b,d,aj]
 | look o k h=>cases o<;>simp[bind,run,h,af]
theorem zo{T b:Type}(t:Tree T)(k:T->Tree b):(t.join k).run=t.run.bind λa=>(k a).run:=by
 unfold join;split
 .rfl
 .rename_i c x y;cases c<;>rfl
 .rfl
end Tree
def uv:Ty->Nat->Option Ty
 | .pair a _,0=>some a
 | .pair _ b,k+1=>uv b k
 | _,_=>none
def Ty.flat:Ty->Bool
 | .slice _=>false
 | .arr _ e=>e.flat
 | .pair a b=>a.flat&&b.flat
 | .alt _ a r=>a.flat&&r.flat
 | _=>true
def bF.row(bx:bF):Option (Ty×Nat) :=
 match bx.buf,bx.val with
 | true,.data (.slice e) l=>some (e,List.length (α:=e.den) l)
 | false,.data (.arr n e) _=>some (e,n)
 | _,_=>none
def gd(e:Ty)(c:St):aO->Option (List e.den)
 | .data (.slice u) l=>toL u e l
 | .oa=>some []
 | .whole b aP=>match c.mem b with
   | some a=>bif Nat.beq a.aP aP&&a.buf then(match a.val with|.data (.slice u) l=>toL u e l|_=>none) else none
   | none=>none
 | .part b aP lo n=>match c.mem b with
   | some a=>bif Nat.beq a.aP aP then(match a.buf,a.val with
     | true,.data (.slice u) l=>toL u e (sub (α:=u.den) l lo n)
     | false,.data (.arr _ u) l=>toL u e (sub (α:=u.den) l lo n)
     | _,_=>none) else none
   | none=>none
 | _=>none
def live(c:St)(b a:Nat):Bool:=match c.mem b with|some d=>Nat.beq d.aP a|none=>false
def qJ(c:St):(t:Ty)->aO->Option t.den
 | .slice e,v=>(gd e c v:Option (List e.den))
 | .pair a b,v=>match v with
   | .data u x=>Ty.to u (.pair a b) x
   | .mix p q=>(match qJ c a p,qJ c b q with
     | some x,some y=>some (x,y)
     | _,_=>none)
   | _=>none
 | .alt n a r,v=>match v with
   | .data u x=>Ty.to u (.alt n a r) x
   | .ss=>match qJ c r .ss with
     | some x=>some (.inr x)
     | none=>none
   | _=>none
 | .zj,v=>match v with
   | .data u x=>Ty.to u .zj x
   | .ss=>some ()
   | _=>none
 | t,v=>match v with
   | .data u x=>Ty.to u t x
   | _=>none
def freeze(a:St)(b:Nat):Option St :=
 match a.mem b with
 | some c=>bif c.ro then some a else bif c.lk then none else some (a.b5 b { c with ro:=true })
 | none=>none
def gy(a:St):aO->Option St
 | .whole b _=>freeze a b
 | .part b _ _ _=>freeze a b
 | .mix v w=>match gy a v with
   | some a=>gy a w
   | none=>none
 | _=>some a
def wW(a:St)(t:Ty)(v:aO):Option (t.den×St) :=
 match v with
 | .data u x=>match Ty.to u t x with|some y=>some (y,a)|none=>none
 | v=>match qJ a t v,gy a v with
   | some x,some a=>some (x,a)
   | _,_=>none
def iv(σ:St):(A:Ty)->List aO->Option A.den
 | .unit,[]=>some ()
 | .pair t r,v::vs=>match qJ σ t v,iv σ r vs with
   | some x,some y=>some (x,y)
   | _,_=>none
 | _,_=>none
def kA(a:St):(A:Ty)->List aO->Option (A.den×St)
 | .unit,[]=>some ((),a)
 | .pair t r,v::vs=>match wW a t v with
   | some (x,a)=>match kA a r vs with
     | some (y,a)=>some ((x,y),a)
     | none=>none
   | none=>none
 | _,_=>none
def zp:(R:Ty)->R.den->aO
 | .pair t r,x=>.mix (.data t x.1) (zp r x.2)
 | _,_=>.nl
def uw(R:Ty)(x:R.den):aO :=
 match R,x with
 | .pair t .unit,x=>.data t x.1
 | R,x=>.yP (zp R x)
def nth:aO->Nat->Option aO
 | .mix a _,0=>some a
 | .mix _ b,k+1=>nth b k
 | _,_=>none
def bitsOf(a:BinOp)(k:IntKind)(x y:Int):Option Int :=
 match a with
 | .and=>some (lP k x y)
 | .or=>some (wV k x y)
 | .xor=>some (fI k x y)
 | .andNot=>some (ad1 k x y)
 | _=>none
def Ty.eqv:(t:Ty)->t.den->t.den->Option Bool
 | .int _,x,y=>some (aX x y)
 | .bool,x,y=>some (eqB x y)
 | .str,x,y=>some (bt x y)
 | .pair a b,x,y=>match Ty.eqv a x.1 y.1,Ty.eqv b x.2 y.2 with
   | some p,some q=>some (an p q)
   | _,_=>none
 | .unit,_,_=>some true
 | .arr _ e,x,y=>match e,x,y with
   | .int _,x,y=>some (eqL x y)
   | _,_,_=>none
 | _,_,_=>none
def Ty.CS:Ty->Nat
 | .pair a b=>a.CS+b.CS+1
 | .arr _ e=>e.CS+1
 | _=>1
def TQ(d:BinOp)(k:IntKind)(a b:Int):Tree aO :=
 match d with
 | .add=>.ret (.data (.int k)<|aF k a b)
 | .sub=>.ret (.data (.int k)<|cC k a b)
 | .mul=>.ret (.data (.int k)<|gX k a b)
 | .quo=>.node (aX b 0) .fail (.ret<|.data (.int k)<|GX k a b)
 | .rem=>.node (aX b 0) .fail (.ret<|.data (.int k)<|iE a b)
 | .eql=>.ret (.data .bool<|aX a b)
 | .neq=>.ret (.data .bool<|nt<|aX a b)
 | .lss=>.ret (.data .bool<|aY a b)
 | .leq=>.ret (.data .bool<|cu a b)
 | .gtr=>.ret (.data .bool<|aY b a)
 | .geq=>.ret (.data .bool<|cu b a)
 | d=>match bitsOf d k a b with
   | some c=>.ret (.data (.int k) c)
   | none=>.fail
def TR(a:BinOp)(x y:aq):Tree aO :=
 match a with
 | .add=>.need (fits<|plus (len x)<|len y) (.ret<|.data .str<|app x y)
 | .eql=>.ret (.data .bool<|bt x y)
 | .neq=>.ret (.data .bool<|nt<|bt x y)
 | .lss=>.ret (.data .bool<|iu x y)
 | .leq=>.ret (.data .bool<|Zk (iu x y)<|bt x y)
 | .gtr=>.ret (.data .bool<|nt<|Zk (iu x y)<|bt x y)
 | .geq=>.ret (.data .bool<|nt<|iu x y)
 | _=>.fail
def isEq:BinOp->Option Bool
 | .eql=>some true
 | .neq=>some false
 | _=>none
def CT:BinOp->Option Bool
 | .shl=>some true
 | .shr=>some false
 | _=>none
def EA(o:Option Ty)(t:Ty):Bool:=match o with|some u=>Ty.beq u t|none=>false
def bin(f:Option Ty)(g:Bool)(d:BinOp)(x y:aO):Tree aO :=
 match x,y with
 | .data (.int k) a,.data (.int h) b =>
   match CT d with
   | some left=>.node (aY b 0) .fail (.ret<|.data (.int k)<|bif left then lQ k a b else mu k a b)
   | none=>bif Nat.beq (yO k) (yO h) then TQ d k a b else .fail
 | .data .str a,.data .str b=>TR d a b
 | .data .bool a,.data .bool b=>bif EA f .bool then(match isEq d with
   | some true=>.ret (.data .bool<|eqB a b)
   | some false=>.ret (.data .bool<|nt<|eqB a b)
   | none=>.fail) else .fail
 | .data (.pair a b) x,.data t y=>bif EA f (.pair a b)&&Nat.ble (Ty.pair a b).CS 9000 then(match Ty.to t (.pair a b) y,isEq d with
   | some y,some e=>match Ty.eqv (.pair a b) x y with
     | some c=>.ret (.data .bool<|bif e then c else nt c)
     | none=>.fail
   | _,_=>.fail) else .fail
 | .data (.arr n e) x,.data t y=>bif EA f (.arr n e)&&Nat.ble (Ty.arr n e).CS 9000 then(match Ty.to t (.arr n e) y,isEq d with
   | some y,some q=>match Ty.eqv (.arr n e) x y with
     | some c=>.ret (.data .bool<|bif q then c else nt c)
     | none=>.fail
   | _,_=>.fail) else .fail
 | .rf,.rf=>match g,isEq d with|true,some e=>.ret (.data .bool e)|_,_=>.fail
 | _,_=>.fail
def Z1(d:St)(f:Option Ty)(a:Bool)(c:BinOp)(x y:aO):Tree aO :=
 match x,y with
 | .ptr b aP _,.rf=>bif live d b aP&&a then(match isEq c with|some e=>.ret (.data .bool<|!e)|none=>.fail) else .fail
 | .rf,.ptr b aP _=>bif live d b aP&&a then(match isEq c with|some e=>.ret (.data .bool<|!e)|none=>.fail) else .fail
 | x,y=>bin f a c x y
def Oo(c:Bool)(x y:aO):Tree aO :=
 match x,y with
 | .data (.int k) a,.data (.int d) b=>bif Nat.beq (yO k) (yO d) then .ret (.data (.int k)<|bif c then aeg a b else imax a b) else .fail
 | _,_=>.fail
def un(a:UnOp)(x:aO):Tree aO :=
 match a,x with
 | .not,.data .bool b=>.ret (.data .bool<|nt b)
 | .neg,.data (.int k) n=>.ret (.data (.int k)<|cC k 0 n)
 | .xor,.data (.int k) n=>.ret (.data (.int k)<|fI k (bif k.signed then -1 else k.max) n)
 | _,_=>.fail
def ID:(t:Ty)->t.den->Nat->(u:Ty)->u.den->Option t.den
 | .pair a b,x,0,u,y=>match Ty.to u a y with|some y=>some (y,x.2)|none=>none
 | .pair a b,x,k+1,u,y=>match ID b x.2 k u y with|some z=>some (x.1,z)|none=>none
 | _,_,_,_,_=>none
def gf(a:St)(t:Ty)(x:t.den):List (Nat×Operand)->Option (t.den×St)
 | []=>some (x,a)
 | (k,o)::r=>match uv t k with
   | some u=>match wW a u (cD a o) with
     | some (y,a)=>match ID t x k u y with
       | some x=>gf a t x r
       | none=>none
     | none=>none
   | none=>none
def fR(a:St)(e:Ty)(l:List e.den):List (Nat×Operand)->Option (List e.den×St)
 | []=>some (l,a)
 | (k,o)::r=>match wW a e (cD a o) with
   | some (y,a)=>bif Nat.blt k l.length then fR a e (l.set k y) r else none
   | none=>none
def lenOf(c:St):aO->Option Int
 | .data .str s=>some (len (α:=UInt8) s)
 | .data (.slice e) l=>some (len (α:=e.den) l)
 | .data (.arr n _) _=>bif Nat.ble n 4294967296 then some n else none
 | .oa=>some 0
 | .whole b aP=>match c.mem b with
   | some a=>bif Nat.beq a.aP aP&&a.buf then(match a.val with|.data (.slice u) l=>some (len (α:=u.den) l)|_=>none) else none
   | none=>none
 | .part b aP _ n=>bif live c b aP then some n else none
 | _=>none
def We(o:Option Ty):aO->Bool
 | .data .str _=>EA o .str
 | .data (.slice e) _=>EA o (.slice e)
 | .data (.arr n e) _=>EA o (.arr n e)
 | .oa|.whole ..|.part ..=>match o with|some (.slice _)=>true|_=>false
 | _=>false
def bounds(c:St)(n:Int)(d e:Option Operand):Option (Int×Int) :=
 match d,e with
 | none,none=>some (0,n)
 | some a,none=>match cD c a with|.data (.int _) x=>some (x,n)|_=>none
 | none,some b=>match cD c b with|.data (.int _) y=>some (0,y)|_=>none
 | some a,some b=>match cD c a,cD c b with|.data (.int _) x,.data (.int _) y=>some (x,y)|_,_=>none
def isRef:aO->Bool
 | .ptr ..|.whole ..|.part ..|.fn ..|.rf|.ss|.vu ..|.mix ..|.cell ..|.oa=>true
 | _=>false
section
variable (cx:Ctx) (nb:Nat) (bf:List Nat) (inl:Nat->List aO->St->Tree (aO×St))
def js(d:Option Nat)(c:TypeId)(v:aO)(a:St):Tree St :=
 match v with
 | .undef=>bif cP cx.rh c then .ret (a.ba d .undef) else .fail
 | .oa=>match d,find cx.T c with
   | some d,some (.slice e)=>bif cP bf d then a.aT (nb+d) (.data (.slice e) []) 0 true λb a=>.ret (a.put d<|.whole (nb+d) b)
     else .ret (a.put d<|.data (.slice e) [])
   | _,_=>.ret (a.ba d .oa)
 | v=>.ret (a.ba d v)
def oc(d:Option Nat)(c a b:aO)(e:St):Tree St :=
 match c with
 | .data .bool c=>match a,b with
   | .data t x,.data u y=>match Ty.to u t y with
     | some y=>.ret (e.ba d<|.data t<|aj c x y)
     | none=>.fail
   | a,b=>.node c (.ret<|e.ba d a) (.ret<|e.ba d b)
 | _=>.fail
def Z2:(t:Ty)->t.den->aO
 | .pair a b,x=>.mix (.data a x.1) (Z2 b x.2)
 | t,x=>.data t x
def Z3:aO->aO
 | .data t x=>Z2 t x
 | v=>v
def Xn:Ty->aO->Bool
 | .slice _,.whole ..=>true
 | t,.data u _=>Ty.beq u t
 | _,_=>false
def Q2:Ty->aO->Bool
 | .pair a b,.mix p q=>Xn a p&&Q2 b q
 | t,.data u _=>Ty.beq u t
 | _,_=>false
def Z4(u:Ty):aO->Bool
 | .whole b aP=>Xn u (.whole b aP)
 | .mix p q=>Q2 u (.mix p q)
 | _=>false
def Z5:aO->Bool
 | .data (.pair _ _) _=>true
 | .mix ..=>true
 | _=>false
def xR(a:TypeId):aO->Bool
 | .mix p q=>match find cx.T a with|some u=>Q2 u (.mix p q)|none=>false
 | _=>false
def wj(a:TypeId):aO->Bool
 | .data u _=>EA (find cx.T a) u
 | .whole ..=>match find cx.T a with|some (.slice _)=>true|_=>false
 | .ptr ..|.rf|.fn ..=>cP cx.rh a
 | _=>false
def kS(d:Option Nat)(c:TypeId)(a:aO)(e:St):Tree St :=
 match a with
 | .cell u x=>bif EA (find cx.T c) u then .ret (e.ba d<|.data u x) else .fail
 | .ptr b aP p=>match e.mem b with
   | some f=>bif Nat.beq f.aP aP then(Xm f.buf p f.val).bind λv=>bif wj cx c v||xR cx c v then .ret (e.ba d v) else .fail else .fail
   | none=>.fail
 | _=>.fail
def storeAt(b a:Nat)(p:List B9)(d:aO->Bool)(v:aO)(f:St):Tree St :=
 match f.mem b with
 | some bx=>bif Nat.beq bx.aP a&&!bx.lk&&!bx.ro then
    (Xm bx.buf p bx.val).bind λe=>bif d e then(HK bx.buf p bx.val v).bind λc=>.ret (f.b5 b { bx with val:=c }) else .fail
   else .fail
 | none=>.fail
def rJ(b a:Nat)(p:List B9)(n:Nat)(v:aO)(e:St):Tree St :=
 match e.mem b with
 | some bx=>bif Nat.beq bx.aP a&&!bx.lk&&!bx.ro&&!bx.buf&&Z5 bx.val then
    (Xl p<|Z3 bx.val).bind λd=>bif Nat.beq (cV d) n then(wg p (Z3 bx.val) v).bind λc=>bif Z5 c then .ret (e.b5 b { bx with val:=c }) else .fail else .fail
   else .fail
 | none=>.fail
def Xo(u:Ty):aO->Bool
 | .data t _=>Ty.beq t u
 | _=>false
def Wf:aO->Bool
 | .undef=>true
 | _=>false
def lr(e:TypeId)(a v:aO)(d:St):Tree St :=
 match a with
 | .ptr b aP p=>match d.mem b with
   | some f=>bif Nat.beq f.aP aP then(Xm f.buf p f.val).bind λc=>match c with
      | .data u _=>bif EA (find cx.T e) u then(bif cP bf 8000000&&Z4 u v then rJ b aP p u.size v d else match wW d u v with
       | some (y,d)=>storeAt b aP p (Xo u) (.data u y) d
       | none=>.fail) else .fail
      | _=>bif wj cx e v&&isRef v then storeAt b aP p (λc=>(wj cx e c&&isRef c)||Wf c) v d else .fail
     else .fail
   | none=>.fail
 | _=>.fail
def lu(d:Option Nat)(j:TypeId)(x:aO)(h i:Option Operand)(f:St):Tree St :=
 match find cx.T j,x with
 | some .str,.data .str s=>match bounds f (len (α:=UInt8) s) h i with
   | some (a,b)=>.need (inside a b<|len (α:=UInt8) s) (.ret<|f.ba d<|.data .str<|sub (α:=UInt8) s a<|minus b a)
   | none=>.fail
 | some (.slice u),.data (.slice e) l=>bif Ty.beq u e then(match bounds f (len (α:=e.den) l) h i with
   | some (a,b)=>.need (inside a b<|len (α:=e.den) l) (.ret<|f.ba d<|.data (.slice e)<|sub (α:=e.den) l a<|minus b a)
   | none=>.fail) else .fail
 | some (.slice u),.part c aP l n=>match f.mem c with
   | some g=>bif Nat.beq g.aP aP&&(match g.row with|some (e,_)=>Ty.beq u e|none=>false) then(match bounds f n h i with
     | some (a,b)=>.need (inside a b n) (.ret<|f.ba d<|.part c aP (plus l a)<|minus b a)
     | none=>.fail) else .fail
   | none=>.fail
 | some (.slice u),.whole c aP=>match f.mem c with
   | some g=>bif Nat.beq g.aP aP&&g.buf then(match g.val with
     | .data (.slice e) l=>bif Ty.beq u e then(match h,i with
       | none,none=>.ret (f.ba d<|.whole c aP)
       | h,i=>match bounds f (len (α:=e.den) l) h i with
         | some (a,b)=>.need (inside a b<|len (α:=e.den) l) (.ret<|f.ba d<|.part c aP a<|minus b a)
         | none=>.fail) else .fail
     | _=>.fail) else .fail
   | none=>.fail
 | some (.arr m u),.ptr c aP (s::q)=>bif live f c aP&&Nat.ble m 4294967296 then(match bounds f m h i with
   | some (a,b)=>.need (inside a b m) (.ret<|f.ba d<|.win c aP (s::q) u m a<|minus b a)
   | none=>.fail) else .fail
 | some (.arr m u),.ptr c aP []=>match f.mem c with
   | some g=>bif Nat.beq g.aP aP&&!g.buf then(match g.val with
     | .data (.arr n e) _=>bif Nat.beq m n&&Ty.beq u e&&Nat.ble n 4294967296 then(match bounds f n h i with
       | some (a,b)=>.need (inside a b n) (.ret<|f.ba d<|.part c aP a<|minus b a)
       | none=>.fail) else .fail
     | _=>.fail) else .fail
   | none=>.fail
 | _,_=>.fail
def xS(d:St)(b a:Nat):Option (Ty×Int):=match d.mem b with
 | some c=>bif Nat.beq c.aP a then(match c.buf,c.val with
   | true,.data (.slice e) l=>some (e,len (α:=e.den) l)
   | false,.data (.arr n e) _=>some (e,n)
   | _,_=>none) else none
 | none=>none
def M4(a:TypeId):Option Nat :=
 match find cx.T a with
 | some _=>none
 | none=>match find cx.Wd a with
   | some e=>bif cP cx.rh e then some e else none
   | none=>none
def IE(d:Option Nat)(b a:Nat)(c:St)(i:Int):Nat->Nat->Tree St
 | 0,_=>.fail
 | m+1,k=>.node (aX i k) (.ret<|c.ba d<|.ptr b a [.fJ k k]) (IE d b a c i m<|k+1)
def HL:List B9->Bool
 | [.fJ _ off]=>Nat.beq off 0
 | _=>false
def ek(d:Option Nat)(c:TypeId)(x:aO)(i:Int)(a:St):Tree St :=
 match find cx.T c,x with
 | some (.slice u),.data (.slice e) l=>bif Ty.beq u e then .look (idx (l:List e.den) i) λy=>.ret (a.ba d<|.cell e y) else .fail
 | some (.arr m u),.cell (.arr n e) l=>bif Ty.beq u e&&Nat.beq m n then .look (idx (l:List e.den) i) λy=>.ret (a.ba d<|.cell e y) else .fail
 | some (.slice u),.whole b aP=>match xS a b aP with
   | some (e,n)=>bif Ty.beq u e then .need (within i n) (.ret<|a.ba d<|.ptr b aP [.idx i e.size]) else .fail
   | none=>.fail
 | some (.slice u),.part b aP lo n=>match xS a b aP with
   | some (e,_)=>bif Ty.beq u e then .need (within i n) (.ret<|a.ba d<|.ptr b aP [.idx (plus lo i) e.size]) else .fail
   | none=>.fail
 | some (.arr m u),.ptr b aP p=>bif live a b aP then .need (within i m) (.ret<|a.ba d<|.ptr b aP<|p++[.idx i u.size]) else .fail
 | none,.win b aP q _ _ lo n=>match M4 cx c with
   | some _=>bif HL q&&decide (lo=0)&&live a b aP then IE d b aP a i n.toNat 0 else .fail
   | none=>.fail
 | _,_=>.fail
def lv(d:Option Nat)(c:TypeId)(x:aO)(i:Int)(a:St):Tree St :=
 match x,M4 cx c with
 | .win b aP q _ _ lo n,some _=>bif HL q&&decide (lo=0)&&live a b aP then(match i with
  | .ofNat k=>bif decide ((k:Int)<n) then .ret (a.ba d<|.ptr b aP [.fJ k k]) else .fail
  | .negSucc _=>.fail) else .fail
 | x,_=>ek cx d c x i a
def lz(d:Option Nat)(c:TypeId)(x:aO)(i:Int)(a:St):Tree St :=
 match find cx.T c,x with
 | some .str,.data .str s=>.look (idx (s:aq) i) λb=>.ret (a.ba d<|.data (.int .u8)<|u8 b)
 | some (.arr m u),.data (.arr n e) l=>bif Ty.beq u e&&Nat.beq m n then .look (idx (l:List e.den) i) λy=>.ret (a.ba d<|.data e y) else .fail
 | _,_=>.fail
def na.size:na->Nat
 | .zl t=>t.size
 | _=>1
def xT:List na->Nat->Option Nat
 | [],_=>none
 | _::_,0=>some 0
 | f::r,k+1=>match xT r k with|some o=>some (f.size+o)|none=>none
def eQ(d:Option Nat)(s:TypeId)(x:aO)(k:Nat)(a:St):Tree St :=
 match x with
 | .cell u y=>bif EA (find cx.T s) u then(match mv (.data u y) k with
   | some (_,.data t z)=>.ret (a.ba d<|.cell t z)
   | _=>.fail) else .fail
 | .ptr b aP p=>bif live a b aP then(match find cx.T s with
   | some t=>match jr t k,uv t k with
     | some off,some _=>.ret (a.ba d<|.ptr b aP<|p++[.fJ k off])
     | _,_=>.fail
   | none=>match find cx.sZ s with
     | some c=>match xT c k with
       | some off=>.ret (a.ba d<|.ptr b aP<|p++[.fJ k off])
       | none=>.fail
     | none=>.fail) else .fail
 | _=>.fail
def gI(d:Option Nat)(b dst:TypeId)(x:aO)(a:St):Tree St :=
 match find cx.T b,find cx.T dst,x with
 | some (.int _),some (.int k),.data (.int _) n=>.ret (a.ba d<|.data (.int k)<|jC k n)
 | some .str,some .str,.data .str s=>.ret (a.ba d<|.data .str s)
 | some .str,some (.slice<|.int .u8),.data .str s=>match d with
   | some d=>.need (fits<|len (α:=UInt8) s) (a.aT (nb+d) (.data (.slice<|.int .u8)<|av s) 0 true λc a=>.ret (a.put d<|.whole (nb+d) c))
   | none=>.fail
 | some (.slice<|.int .u8),some .str,x=>match gd (.int .u8) a x with
   | some l=>.ret (a.ba d<|.data .str<|bh l)
   | none=>.fail
 | _,_,_=>.fail
def ux(e:Ty)(a:St)(x:aO):Option (List e.den):=match x with
 | .data .str t=>toL (.int .u8) e (av t)
 | x=>gd e a x
def aei(a t:Nat):Bool:=Nat.beq t 0||(match find cx.Wd a with|some e=>Nat.beq e t|none=>false)
def gY(d:Option Nat)(ty:TypeId)(s x:aO)(a:St):Tree St :=
 match d,find cx.T ty with
 | some d,some (.slice e) =>
   match ux e a x with
   | some m=>match s with
     | .oa=>.need (fits<|len (α:=e.den) m) (a.aT (nb+d) (.data (.slice e) m) 0 true λaP a=>.ret (a.put d<|.whole (nb+d) aP))
     | .whole b aP=>match a.mem b,gd e a (.whole b aP) with
       | some c,some l=>bif c.lk||!aei cx ty c.tid then .fail else
         .need (fits<|plus (len (α:=e.den) l)<|len (α:=e.den) m) (.ret<|(a.b5 b { c with val:=.data (.slice e) (app (α:=e.den) l m),aP:=aP+1 }).put d<|.whole b<|aP+1)
       | _,_=>.fail
     | _=>.fail
   | none=>.fail
 | _,_=>.fail
def jO(e:Ty)(m:List e.den)(b d:Nat)(q:List B9)(f:Nat->Ty->Bool)(i:Int)(g:St):Tree St :=
 match g.mem b with
 | some a=>bif Nat.beq a.aP d&&!a.lk&&!a.ro then
    (match a.buf with
    | true=>match q,a.val with
      | [],.data (.slice u) l=>match toL e u m with
        | some m=>.ret (g.b5 b { a with val:=.data (.slice u) (over (α:=u.den) l i m) })
        | none=>.fail
      | _,_=>.fail
    | false=>(Xl q a.val).bind λh=>match h with
      | .data (.arr k u) l=>bif f k u then(match toL e u m with
        | some m=>(wg q a.val<|.data (.arr k u)<|over (α:=u.den) l i m).bind λc=>.ret (g.b5 b { a with val:=c })
        | none=>.fail) else .fail
      | _=>.fail)
   else .fail
 | none=>.fail
def EB(e:Ty)(m:Int->List e.den)(t:aO)(a:St):Tree (Int×St) :=
 match t with
 | .part b aP lo n=>(jO e (m n) b aP [] (λ_ _=>true) lo a).bind λa=>.ret (n,a)
 | .whole b aP=>match lenOf a t with|some n=>(jO e (m n) b aP [] (λ_ _=>true) 0 a).bind λa=>.ret (n,a)|none=>.fail
 | .win b aP q u k lo n=>(jO e (m n) b aP q (λc d=>Nat.beq k c&&Ty.beq u d) lo a).bind λa=>.ret (n,a)
 | _=>.fail
def wX(d:Option Nat)(b:TypeId)(t x:aO)(a:St):Tree St :=
 match find cx.T b with
 | some (.slice e)=>match ux e a x with
   | none=>.fail
   | some m=>(EB e (λn=>iU (α:=e.den) m n) t a).bind λr=>.ret (r.2.ba d<|.data (.int .i64)<|len<|iU (α:=e.den) m r.1)
 | _=>.fail
def wY(a:TypeId)(t:aO)(b:St):Tree St :=
 match find cx.T a with
 | some (.slice e)=>(EB e (λn=>jN n e.zero) t b).bind λr=>.ret r.2
 | _=>.fail
def IF:(o:OT)->o.den->(N M:List (Nat×Nat))->aO
 | .zl t,x,_,_=>.data t x
 | .buf _ _,_,_,M=>match M with|(b,v)::_=>.whole b v|[]=>.undef
 | .ref _ _,_,N,_=>match N with|(b,v)::_=>.ptr b v []|[]=>.undef
 | .pair p q,u,N,M=>.mix (IF p u.1 (N.take p.nr)<|M.take p.nb) (IF q u.2 (N.drop p.nr)<|M.drop p.nb)
 | .unit,_,_,_=>.data .unit ()
def iH:(o:OT)->o.den->(N M:List (Nat×Nat))->Nat->Option bF
 | .zl _,_,_,_,_=>none
 | .buf e a,l,_,M,c=>match M with
   | (b,v)::_=>bif Nat.beq c b then some { val:=.data (.slice e) l,tid:=a,buf:=true,ro:=false,lk:=false,aP:=v } else none
   | []=>none
 | .ref tid o,u,N,M,c=>match N with
   | (b,v)::N=>bif Nat.beq c b then some { val:=IF o u N M,tid,buf:=false,ro:=false,lk:=false,aP:=v } else iH o u N M c
   | []=>none
 | .pair p q,u,N,M,c=>match iH p u.1 (N.take p.nr) (M.take p.nb) c with
   | some x=>some x
   | none=>iH q u.2 (N.drop p.nr) (M.drop p.nb) c
 | .unit,_,_,_,_=>none
def dE(d:Nat->Option bF):(o:OT)->aO->Option (o.den×List (Nat×Nat)×List (Nat×Nat))
 | .zl t,v=>match toS t v with|some x=>some (x,[],[])|none=>none
 | .buf e f,v=>match v with
   | .whole b aP=>match d b with
     | some c=>bif Nat.beq c.aP aP&&c.buf&&!c.lk&&!c.ro&&Nat.beq c.tid f&&Nat.blt 0 e.size then(match c.val with
       | .data (.slice u) l=>match toL u e l with|some l=>some (l,[],[(b,aP)])|none=>none
       | _=>none) else none
     | none=>none
   | _=>none
 | .ref tid o,v=>match v with
   | .ptr b aP []=>match d b with
     | some c=>bif Nat.beq c.aP aP&&!c.buf&&!c.lk&&!c.ro&&Nat.beq c.tid tid then(match dE d o c.val with
       | some (u,N,M)=>some (u,(b,aP)::N,M)
       | none=>none) else none
     | none=>none
   | _=>none
 | .pair p q,v=>match v with
   | .mix a b=>match dE d p a,dE d q b with
     | some (x,N,M),some (y,g,h)=>some ((x,y),N++g,M++h)
     | _,_=>none
   | _=>none
 | .unit,v=>match v with|.data .unit _=>some ((),[],[])|_=>none
def IG:List Nat->Bool
 | []=>true
 | b::r=>!cP r b&&IG r
def bq(N M:List (Nat×Nat)):List Nat:=N.map (·.1)++M.map (·.1)
def fS(a:St):List Bool->(A:Ty)->(U:OT)->List aO->Option (A.den×U.den×List (Nat×Nat)×List (Nat×Nat))
 | [],A,U,vs=>match A,U,vs with
   | .unit,.unit,[]=>some ((),(),[],[])
   | _,_,_=>none
 | false::ps,A,U,vs=>match A,vs with
   | .pair t A,v::vs=>match toD t v,fS a ps A U vs with
     | some x,some (y,u,q)=>some ((x,y),u,q)
     | _,_=>none
   | _,_=>none
 | true::ps,A,U,vs=>match U,vs with
   | .pair (.ref tid o) U,v::vs=>match dE a.mem (.ref tid o) v,fS a ps A U vs with
     | some (x,N,M),some (y,u,b,c)=>some (y,(x,u),N++b,M++c)
     | _,_=>none
   | _,_=>none
def kB(U:OT)(u:U.den)(N M:List (Nat×Nat))(a:St):St :=
 { a with mem:=λc=>match iH U u N (M.map λp=>(p.1,p.2+1)) c with
  | some b=>some b
  | none=>a.mem c }
def HM:aO->Bool
 | .whole ..=>true
 | _=>false
def Ay(s:Xk)(d:Option Nat)(c:List aO)(e:St):Tree St :=
 match s,c with
 | .chk T,[.ptr b aP []]=>match e.mem b with
   | some a=>match a.val with
     | .mix (.vu f g) (.mix u<|.data .unit _)=>bif Nat.beq a.aP aP&&!a.buf&&!a.lk&&!a.ro&&Nat.beq a.tid T&&Nat.blt 0 T&&Nat.beq f b&&Nat.beq g aP&&HM u then .ret (e.ba d<|.yP .nl) else .fail
     | _=>.fail
   | none=>.fail
 | .str T E,[.ptr b aP []]=>match e.mem b with
   | some a=>match a.val with
     | .mix (.vu _ _) (.mix (.whole h hv)<|.data .unit _)=>bif Nat.beq a.aP aP&&!a.buf&&Nat.beq a.tid T&&Nat.blt 0 T&&!Nat.beq h b then(match e.mem h with
       | some hx=>bif Nat.beq hx.aP hv&&hx.buf&&!hx.lk&&Nat.beq hx.tid E&&Nat.blt 0 E then(match hx.val with
         | .data (.slice<|.int .u8) l=>.ret ((e.b5 h { hx with val:=.data (.slice<|.int .u8) [],aP:=hx.aP+1 }).ba d<|.data .str<|bh l)
         | _=>.fail) else .fail
       | none=>.fail) else .fail
     | _=>.fail
   | none=>.fail
 | _,_=>.fail
def Q3(d:Option Nat):Option Nat:=match d with|some d=>bif cP bf d then some d else none|none=>none
def lA(e:Ty)(d:Option Nat)(a:List aO)(b:St):Tree St :=
 match d,a with
 | some d,[x]=>match wW b (.slice e) x with
   | some (l,b)=>bif Nat.blt 0 e.size then .need (fits<|len (α:=e.den) l) (b.aT (nb+d) (.data (.slice e) l) 0 true λc b=>.ret (b.put d<|.whole (nb+d) c)) else .fail
   | none=>.fail
 | _,_=>.fail
def lB(g:Nat)(d:Option Nat)(a:List aO)(b:St):Tree St :=
 match d,a with
 | some _,[.undef]=>.fail
 | some _,[.yP _]=>.fail
 | some d,[v]=>b.aT (nb+d) v 0 false λc b=>.ret (b.put d<|.fn g [(nb+d,c)])
 | _,_=>.fail
def xU(e:Ty)(c:St):aO->Option (Nat×Nat×bF×List e.den)
 | .whole b aP=>match c.mem b with
   | some a=>bif Nat.beq a.aP aP&&a.buf&&!a.lk&&!a.ro&&Nat.beq a.tid 0 then(match a.val with
     | .data (.slice u) l=>(match toL u e l with|some l=>some (b,aP,a,l)|none=>none)
     | _=>none) else none
   | none=>none
 | .part b aP lo n=>match c.mem b with
   | some a=>bif Nat.beq a.aP aP&&a.buf&&!a.lk&&!a.ro&&Nat.beq a.tid 0&&decide (lo=0) then(match a.val with
     | .data (.slice u) l=>(match toL u e l with|some l=>some (b,aP,a,sub (α:=e.den) l lo n)|none=>none)
     | _=>none) else none
   | none=>none
 | _=>none
def rK(e A:Ty)(g:Bool)(a:List e.den->A.den->Option (List e.den))(d:Option Nat)(c:List aO)(f:St):Tree St :=
 match c with
 | v::vs=>match kA f A vs with
   | some (x,f)=>match xU e f v with
     | some (b,aP,h,l)=>.look (a l x) λi=>match g,d with
       | true,some d=>.ret ((f.b5 b { h with val:=.data (.slice e) i,aP:=aP+1 }).put d<|.whole b<|aP+1)
       | false,d=>bif HM v then .ret ((f.b5 b { h with val:=.data (.slice e) i }).ba d<|.yP .nl) else .fail
       | _,_=>.fail
     | none=>.fail
   | none=>.fail
 | []=>.fail
def uy(d:Option Nat)(f:Nat):Option Xk :=
 match find cx.Lo f with
 | some (.clone e)=>match Q3 bf d with|some _=>some (.clone e)|none=>none
 | some (.own e A r s)=>some (.own e A r s)
 | some (.CR g)=>some (.CR g)
 | _=>none
def wk(d:Option Nat)(f:Nat)(a:List aO)(b:St):Tree St :=
 match find cx.Zl f with
 | some c=>match c.R.flat with
   | true=>match iv b c.A a with
     | some x=>.look (c.spec x) λy=>.ret (b.ba d<|uw c.R y)
     | none=>.fail
   | false=>match kA b c.A a with
     | some (x,b)=>.look (c.spec x) λy=>.ret (b.ba d<|uw c.R y)
     | none=>.fail
 | none=>match find cx.Lo f with
  | some s=>Ay s d a b
  | none=>match find cx.TP f with
   | some c=>(match fS b c.ps c.A c.U a with
     | some (x,u,N,M)=>bif IG (bq N M) then .look (c.spec (x,u)) λy=>.ret ((kB c.U y.2 N M b).ba d<|uw c.R y.1) else .fail
     | none=>(inl f a b).bind λr=>.ret (r.2.ba d r.1))
   | none=>(inl f a b).bind λr=>.ret (r.2.ba d r.1)
def tH(d:Option Nat)(f:Nat)(a:List aO)(b:St):Tree St :=
 match uy cx bf d f with
 | some (.clone e)=>lA nb e d a b
 | some (.own e A r s)=>rK e A r s d a b
 | some (.CR g)=>lB nb g d a b
 | _=>wk cx inl d f a b
def Q4:(t:Ty)->(u:Nat)->Option ((a:Ty)×(a.den->t.den))
 | .alt n a r,u=>bif Nat.beq n u then some ⟨a,.inl⟩ else match Q4 r u with
   | some ⟨b,f⟩=>some ⟨b,λx=>.inr (f x)⟩
   | none=>none
 | _,_=>none
def ri(d:Option Nat)(c u:TypeId)(x:aO)(b:St):Tree St :=
 match find cx.T c with
 | some t=>match Q4 t u with
   | some ⟨a,f⟩=>match wW b a x with
     | some (y,b)=>.ret (b.ba d<|.data t<|f y)
     | none=>.fail
   | none=>.fail
 | none=>.fail
def rj(d:Option Nat)(a:String)(b:List aO)(e:St):Tree St :=
 match Q1 cx.inv a with
 | some c=>match kA e c.A b with
   | some (x,e)=>.look (c.spec x) λy=>.ret (e.ba d<|uw c.R y)
   | none=>.fail
 | none=>.fail
def uz(d:Option Nat)(h:TypeId)(c:Call)(a:St):Tree St :=
 match c.callee with
 | .builtin b=>match b,c.args.toList.map (cD a),c.argTypes.toList with
   | .len,[x],[t]=>bif We (find cx.T t) x then(match lenOf a x with
     | some n=>.ret (a.ba d<|.data (.int .i64) n)
     | none=>.fail) else(match M4 cx t,x with
     | some _,.win b aP _ _ _ _ n=>bif live a b aP&&decide (n<=64) then .ret (a.ba d<|.data (.int .i64) n) else .fail
     | _,_=>.fail)
   | .append,[s,x],[t,u]=>match find cx.T u with
     | some .str|some (.slice _)=>gY cx nb d t s x a
     | _=>.fail
   | .copy,[t,x],[g,tx]=>match find cx.T tx with
     | some .str|some (.slice _)=>wX cx d g t x a
     | _=>.fail
   | .clear,[t],[g]=>match d with|none=>wY cx g t a|some _=>.fail
   | .min,[x,y],_=>Oo true x y |>.bind λv=>.ret (a.ba d v)
   | .max,[x,y],_=>Oo false x y |>.bind λv=>.ret (a.ba d v)
   | _,_,_=>.fail
 | .value f=>match cD a f with
   | .fn f e=>bif e.all (λb=>live a b.1 b.2) then tH cx nb bf inl d f (c.args.toList.map (cD a)++e.map λb=>.ptr b.1 b.2 []) a else .fail
   | _=>.fail
 | .invoke r name=>rj cx d name (cD a r::c.args.toList.map (cD a)) a
def EC:List aO->Option (List<|Nat×Nat)
 | []=>some []
 | .ptr b aP []::r=>(EC r).map ((b,aP)::·)
 | _=>none
def HN(a:St)(b:Nat):Nat:=match a.mem b with|some bx=>bx.aP+1|none=>0
def mkObj(b a:Nat):List na->Nat->St->Tree (aO×St)
 | [],_,σ=>.ret (.data .unit (),σ)
 | .zl t::r,j,σ=>(mkObj b a r (j+1) σ).bind λx=>.ret (.mix (.data t t.zero) x.1,x.2)
 | .one::r,j,σ=>(mkObj b a r (j+1) σ).bind λx=>.ret (.mix .rf x.1,x.2)
 | .self::r,j,σ=>(mkObj b a r (j+1) σ).bind λx=>.ret (.mix (.vu b a) x.1,x.2)
 | .buf e c::r,j,σ=>bif Nat.blt 0 e.size then σ.aT (b*1000+999-j) (.data (.slice e) []) c true λv σ=>(mkObj b a r (j+1) σ).bind λx=>.ret (.mix (.whole (b*1000+999-j) v) x.1,x.2) else .fail
def rL:List na->Option aO
 | []=>some (.data .unit ())
 | .zl t::r=>match rL r with|some v=>some (.mix (.data t t.zero) v)|none=>none
 | .buf _ _::r=>match rL r with|some v=>some (.mix .oa v)|none=>none
 | .one::r=>match rL r with|some v=>some (.mix .rf v)|none=>none
 | .self::_=>none
def mw(b:St)(a:List na):aO->List (Nat×Operand)->Option aO
 | v,[]=>some v
 | v,(k,x)::r=>match mv v k,xT a k,a[k]? with
   | some (o,.data t _),some c,some f=>bif Nat.beq o c&&Nat.beq t.size f.size then(match toS t (cD b x) with
     | some y=>match(Ez v k λ_=>.ret (.data t y)).run with
       | some v=>mw b a v r
       | none=>none
     | none=>none) else none
   | _,_,_=>none
def nc(b:Nat):List na->Nat->aO->St->Tree (aO×St)
 | [],_,.data .unit x,σ=>.ret (.data .unit x,σ)
 | .zl _::r,j,.mix (.data u y) v,σ=>(nc b r (j+1) v σ).bind λx=>.ret (.mix (.data u y) x.1,x.2)
 | .one::r,j,.mix .rf v,σ=>(nc b r (j+1) v σ).bind λx=>.ret (.mix .rf x.1,x.2)
 | .buf e a::r,j,.mix .oa v,σ=>bif Nat.blt 0 e.size then σ.aT (b*1000+999-j) (.data (.slice e) []) a true λc σ=>(nc b r (j+1) v σ).bind λx=>.ret (.mix (.whole (b*1000+999-j) c) x.1,x.2) else .fail
 | _,_,_,_=>.fail
def zq(a:St):Nat->List (Nat×Operand)->Option aO
 | _,[]=>some (.data .unit ())
 | k,(j,x)::r=>bif Nat.beq j k then(match cD a x,zq a (k+1) r with
   | .rf,some v=>some (.mix .rf v)
   | .ptr b aP p,some v=>some (.mix (.ptr b aP p) v)
   | .fn f c,some v=>some (.mix (.fn f c) v)
   | _,_=>none) else none
def Az(d:Option Nat)(t:TypeId)(a:Nat)(b:List (Nat×Operand))(c:St):Tree St :=
 match d,M4 cx t,zq c 0 b with
 | some d,some _,some v=>bif Nat.beq a b.length&&Nat.blt 0 a&&Nat.ble a 64 then
  c.aT (nb+d) v 0 false λe c=>.ret (c.put d<|.win (nb+d) e [.fJ 0 0] .bool a 0 a) else .fail
 | _,_,_=>.fail
def CU(d:Option Nat)(a:TypeId)(x:aO)(c:St):Tree St :=
 match d,x with
 | some _,.undef=>.fail
 | some _,.yP _=>.fail
 | some d,v=>match find cx.sZ a with
   | some e=>(nc (nb+d) e 0 v c).bind λr=>r.2.aT (nb+d) r.1 a false λb c=>.ret (c.put d<|.ptr (nb+d) b [])
   | none=>c.aT (nb+d) v 0 false λb c=>.ret (c.put d<|.ptr (nb+d) b [])
 | none,_=>.fail
def uf(d:Nat)(t:Ty)(a:St):Tree St :=
 match Q3 bf (some d),t with
 | some _,.slice e=>bif Nat.blt 0 e.size then a.aT ((nb+d)*1000+999) (.data (.slice e) []) 0 true λv a =>
  a.aT (nb+d) (.whole ((nb+d)*1000+999) v) 0 false λb a=>.ret (a.put d<|.ptr (nb+d) b []) else .fail
 | _,t=>a.aT (nb+d) (.data t t.zero) 0 false λb a=>.ret (a.put d<|.ptr (nb+d) b [])
def pS(o:Oper)(σ:St):Tree St :=
 match o.op with
 | .move x|.assign x=>js cx nb bf o.dst o.type (cD σ x) σ
 | .pick c a b=>oc o.dst (cD σ c) (cD σ a) (cD σ b) σ
 | .alloc elem=>match o.dst,find cx.T elem with
   | some d,some t=>uf nb bf d t σ
   | some d,none=>match find cx.sZ elem with
     | some j=>(mkObj (nb+d) (HN σ<|nb+d) j 0 σ).bind λr=>r.2.aT (nb+d) r.1 elem false λg σ=>.ret (σ.put d<|.ptr (nb+d) g [])
     | none=>bif cP cx.rh elem then σ.aT (nb+d) .undef 0 false λg σ=>.ret (σ.put d<|.ptr (nb+d) g []) else .fail
   | _,_=>.fail
 | .box elem x=>CU cx nb o.dst elem (cD σ x) σ
 | .build t parts=>match find cx.T t with
   | some (.pair a b)=>match gf σ (.pair a b) (Ty.pair a b).zero parts.toList with
     | some (x,σ)=>.ret (σ.ba o.dst<|.data (.pair a b) x)
     | none=>.fail
   | some (.arr n e)=>match fR σ e (List.replicate n e.zero) parts.toList with
     | some (l,σ)=>.ret (σ.ba o.dst<|.data (.arr n e) l)
     | none=>.fail
   | none=>match find cx.sZ t with
     | some j=>match rL j with
       | some z=>match mw σ j z parts.toList with
         | some (.mix p q)=>.ret (σ.ba o.dst<|.mix p q)
         | some (.data .unit _)=>.ret (σ.ba o.dst<|.data .unit ())
         | _=>.fail
       | none=>.fail
     | none=>.fail
   | _=>.fail
 | .buildSlice t len parts=>match find cx.T t with
   | some (.slice e)=>match Q3 bf o.dst,len,parts.toList with
     | some d,0,[]=>σ.aT (nb+d) (.data (.slice e) []) 0 true λg σ=>.ret (σ.put d<|.whole (nb+d) g)
     | _,_,_=>bif Nat.ble (len*e.size) 65536 then(match fR σ e (List.replicate len e.zero) parts.toList with
     | some (l,σ)=>.ret (σ.ba o.dst<|.data (.slice e) l)
     | none=>.fail) else .fail
   | none=>Az cx nb o.dst t len parts.toList σ
   | _=>.fail
 | .load t a=>kS cx o.dst t (cD σ a) σ
 | .store t a x=>match o.dst with|none=>lr cx bf t (cD σ a) (cD σ x) σ|some _=>.fail
 | .nilCheck x=>match cD σ x with
   | .ptr b g p=>bif live σ b g then .ret (σ.ba o.dst<|.ptr b g p) else .fail
   | .cell t x=>.ret (σ.ba o.dst<|.cell t x)
   | .fn f c=>.ret (σ.ba o.dst<|.fn f c)
   | _=>.fail
 | .binOp op m x y _=>(Z1 σ (find cx.T m) (cP cx.lS m) op (cD σ x)<|cD σ y).bind λv=>.ret (σ.ba o.dst v)
 | .unOp op _ x=>(un op<|cD σ x).bind λv=>.ret (σ.ba o.dst v)
 | .convert src dst x=>gI cx nb o.dst src dst (cD σ x) σ
 | .makeFunc (.func f) first h=>match first.toList,EC (h.toList.map<|cD σ) with
   | [],some cs=>.ret (σ.ba o.dst<|.fn f cs)
   | _,_=>.fail
 | .slice t x lo hi none=>lu cx o.dst t (cD σ x) lo hi σ
 | .fieldAddr s x k=>eQ cx o.dst s (cD σ x) k σ
 | .field m x k=>match cD σ x with
   | .data u y=>bif EA (find cx.T m) u then(match mv (.data u y) k with
     | some (_,v)=>.ret (σ.ba o.dst v)
     | none=>.fail) else .fail
   | _=>.fail
 | .indexAddr t x i=>match cD σ i with
   | .data (.int _) i=>bif cP bf 5000000 then lv cx o.dst t (cD σ x) i σ else ek cx o.dst t (cD σ x) i σ
   | _=>.fail
 | .index t x i=>match cD σ i with
   | .data (.int _) i=>lz cx o.dst t (cD σ x) i σ
   | _=>.fail
 | .makeSlice t l c=>match o.dst,find cx.T t,cD σ l,cD σ c with
   | some d,some (.slice e),.data (.int _) l,.data (.int _) c =>
     .need (inside 0 l c) (.need (fits c)
      (σ.aT (nb+d) (.data (.slice e)<|jN l e.zero) 0 true λg σ=>.ret (σ.put d<|.whole (nb+d) g)))
   | _,_,_,_=>.fail
 | .extract t k=>match cD σ t with
   | .yP vs=>match nth vs k with
     | some v=>.ret (σ.ba o.dst v)
     | none=>.fail
   | _=>.fail
 | .call c=>uz cx nb bf inl o.dst o.type c σ
 | .makeInterface u x=>ri cx o.dst o.type u (cD σ x) σ
 | _=>.fail
def xV(g:Option (Nat×Bool))(j:Nat)(a:Bool):Bool :=
 match g with|some (i,b)=>Nat.beq i j&&(b==a)|none=>false
def under(j:Nat)(want:Bool):(inner:List Nat)->List (Nat×Oper)->List (Nat×Oper)×List (Nat×Oper)
 | _,[]=>([],[])
 | inner,(i,o)::r =>
   bif xV o.guard j want then let x:=under j want (i::inner) r;((i,{ o with guard:=none })::x.1,x.2)
   else bif (match o.guard with|some (k,_)=>inner.any (Nat.beq k)|none=>false) then let x:=under j want (i::inner) r;((i,o)::x.1,x.2)
   else([],(i,o)::r)
def HO(a:Ctx):List (Nat×Oper)->Bool
 | []=>false
 | (_,o)::r=>(match o.op with
   | .call c=>match c.callee with
     | .value (.func f)=>match find a.Zl f with|some _=>false|none=>true
     | .value _=>true
     | .builtin .append=>true
     | _=>false
   | .store ..=>true
   | _=>false)||HO a r
def St.iw(σ:St):St:={ σ with mem:=λi=>match σ.mem i with|some b=>some { b with lk:=true }|none=>none }
def St.undef(a:St):List (Nat×Oper)->St
 | []=>a
 | (_,o)::r=>(a.undef r).ba o.dst .undef
def nd(d:Nat):List (Nat×Oper)->Bool
 | []=>false
 | (_,o)::r=>(match o.dst with|some k=>Nat.beq k d|none=>false)||nd d r
def xW(e:St)(f:Oper)(g:Nat)(d:Bool):Option aO :=
 match f.op with
 | .pick (.tmp c) a b=>bif Nat.beq c g then some (cD e<|bif d then a else b) else none
 | _=>none
def pT(a:Array Oper):Nat->List (Nat×Oper)->St->Tree St
 | 0,_,_=>.fail
 | n+1,[],σ=>.ret σ
 | n+1,(i,o)::r,σ =>
   match o.guard with
   | none=>(pS cx nb bf inl o σ).bind λσ=>pT a n r σ
   | some (j,want) =>
     let g:=under j want [] ((i,o)::r)
     match(a[j]?).bind (·.dst) with
     | none=>.fail
     | some d=>match σ.slots d,g.2 with
       | .data .bool c,(_,b)::rest=>bif nd d g.1 then .fail else match b.guard with
         | some _=>.fail
         | none =>
           let e:=bif want then c else nt c
           bif HO cx g.1 then
            (Tree.node e ((pT a n g.1 σ).bind λσ=>match xW σ b d want with
              | some v=>.ret (σ.ba b.dst v)
              | none=>.fail)
             (match xW (σ.undef g.1) b d (!want) with
              | some v=>.ret ((σ.undef g.1).ba b.dst v)
              | none=>.fail)).bind λσ=>pT a n rest σ
           else match find cx.T b.type,b.dst with
            | some t,some f=>(Tree.node e ((pT a n g.1 σ.iw).bind λτ=>match(xW τ b d want).bind (toD t) with
              | some x=>.ret x
              | none=>.fail)
             (match(xW (σ.undef g.1) b d<|!want).bind (toD t) with
              | some x=>.ret x
              | none=>.fail)).join λx=>pT a n rest ((σ.undef g.1).put f<|.data t x)
            | _,_=>.fail
       | _,_=>.fail
def number:Nat->List Oper->List (Nat×Oper)
 | _,[]=>[]
 | k,o::r=>(k,o)::number (k+1) r
def IH(a:Array Oper)(b:St):Tree St:=pT cx nb bf inl a (2*a.size+1) (number 0 a.toList) b
def eU:Op->List Operand
 | .move x|.assign x|.box _ x|.load _ x|.nilCheck x|.unOp _ _ x|.convert _ _ x|.fieldAddr _ x _|.field _ x _|.extract x _=>[x]
 | .pick c a b=>[c,a,b]
 | .build _ ps|.buildSlice _ _ ps=>ps.toList.map (·.2)
 | .store _ a x=>[a,x]
 | .binOp _ _ x y _=>[x,y]
 | .makeFunc _ f c=>f.toList++c.toList
 | .slice _ x lo hi _=>x::(lo.toList++hi.toList)
 | .indexAddr _ x i|.index _ x i=>[x,i]
 | .makeSlice _ l c=>[l,c]
 | .call c=>(match c.callee with|.value f=>[f]|.invoke r _=>[r]|_=>[])++c.args.toList
 | .makeInterface _ x=>[x]
 | _=>[]
def tmpsOf:List Operand->List Nat
 | []=>[]
 | .tmp t::r=>t::tmpsOf r
 | _::r=>tmpsOf r
def od(o:Oper)(σ:St):Option Nat:=match o.op with
 | .call c=>match c.callee with
   | .value x=>match cD σ x with
     | .fn f _=>some f
     | _=>none
   | _=>none
 | _=>none
def afq:Option Nat->Option Nat->Bool
 | some a,some b=>Nat.beq a b
 | none,none=>true
 | _,_=>false
def cls(g:Option Nat)(o:Oper):Nat:=match o.op with
 | .assign _|.move _|.makeSlice ..|.convert ..=>1
 | .box e _=>match find cx.sZ e with
   | some _=>3
   | none=>1
 | .alloc e=>match find cx.T e with
   | some (.slice _)=>3
   | some _=>1
   | none=>match find cx.sZ e with
     | some _=>3
     | none=>1
 | .build ..|.buildSlice ..|.store ..=>2
 | .call c=>match c.callee with
   | .builtin .len|.builtin .min|.builtin .max=>0
   | .builtin .append=>2
   | .builtin _=>3
   | .value _=>match g with
     | some f=>match find cx.Lo f with
       | some (.clone _)=>2
       | some (.own _ _ _ _)=>2
       | some (.CR _)=>2
       | s=>match find cx.Zl f with
         | some c=>bif c.R.flat then 0 else 2
         | none=>match s,find cx.TP f with
           | none,some _=>2
           | _,_=>3
     | none=>3
   | .invoke ..=>2
 | .makeInterface ..=>2
 | _=>0
structure Fp where
 rd:List Nat
 wr:List Nat
 HP:Bool
 fn:Option Nat
def wZ(d:St):aO->List Nat
 | .ptr b _ _=>[b]
 | .whole b _=>[b]
 | .part b _ _ _=>[b]
 | .win b _ _ _ _ _ _=>[b]
 | .fn _ c=>c.map (·.1)
 | .mix a b=>wZ d a++wZ d b
 | _=>[]
def refsOf(a:St):List Operand->List Nat
 | []=>[]
 | x::r=>wZ a (cD a x)++refsOf a r
def afr(o:Oper)(a:St):List Nat:=match o.op with
 | .move _|.assign _=>[]
 | _=>refsOf a (eU o.op)
def reach(o:Oper)(a:St)(g:Option Nat):List Nat:=match o.op,g with
 | .call c,some f=>match find cx.TP f with
   | some k=>match fS a k.ps k.A k.U (c.args.toList.map<|cD a) with
     | some (_,_,N,M)=>bq N M
     | none=>[]
   | none=>[]
 | _,_=>[]
def own(o:Oper):List Nat:=match o.dst with|some d=>[nb+d]|none=>[]
def w8(o:Oper)(a:St):Fp :=
 let g:=od o a
 let rd:=own nb o++(afr o a++reach cx o a g)
 match cls cx g o with
 | 0=>⟨rd,[],false,g⟩
 | 1=>⟨rd,own nb o,false,g⟩
 | 2=>⟨rd,rd,false,g⟩
 | _=>⟨[],[],true,g⟩
def St.only(σ:St)(ts a:List Nat):St:={ slots:=λt=>bif cP ts t then σ.slots t else .undef,mem:=λb=>bif cP a b then σ.mem b else none }
def lay(a:St)(d:Option Nat)(e:List Nat)(c:St):St :=
 { slots:=match d with|some d=>λt=>bif Nat.beq t d then c.slots d else a.slots t|none=>a.slots
   mem:=λb=>bif cP e b then c.mem b else a.mem b }
def zr(_:Nat)(_:List aO)(_:St):Tree (aO×St):=.fail
def Z6(b:Fp)(o:Oper)(a:St):Tree St:=bif afq (od o a) b.fn then pS cx nb bf zr o a else .fail
def ix(a:Fp)(o:Oper)(σ:St):Tree St :=
 bif a.HP then pS cx nb bf inl o σ
 else(Z6 cx nb bf a o<|σ.only (tmpsOf<|eU o.op) a.rd).bind λτ=>.ret (lay σ o.dst a.wr τ)
abbrev zt:=Nat×Oper×Fp×Nat
def maskAt:List zt->Nat->Nat
 | [],_=>0
 | (i,_,_,m)::r,k=>bif Nat.beq i k then m else maskAt r k
def ug(a:List zt):List Edge->Nat
 | []=>0
 | e::r=>bif Region.binds .any e then(ug a r ||| 2 ^ e.on) ||| maskAt a e.on else ug a r
def mask(a:List zt)(o:Oper):Nat:=ug a o.after.toList
def Xp(a b:List Nat):Bool:=a.all λx=>!cP b x
def apart(x y:Oper)(f g:Fp):Bool :=
 !f.HP&&!g.HP&&Xp f.wr g.rd&&Xp g.wr f.rd &&
 (match x.dst with|some d=>!cP (tmpsOf<|eU y.op) d&&(match y.dst with|some e=>!Nat.beq d e|none=>true)|none=>true) &&
 (match y.dst with|some e=>!cP (tmpsOf<|eU x.op) e|none=>true)
def loose(o:Oper)(f:Fp)(m:Nat):List zt->Bool
 | []=>true
 | (k,ok,a,_)::r=>(Nat.testBit m k||apart ok o a f)&&loose o f m r
def II:List (Nat×Oper)->List zt->St->Tree St
 | [],_,σ=>.ret σ
 | (i,o)::r,done,σ=>match o.guard with
   | some _=>.fail
   | none =>
     let f:=w8 cx nb o σ
     let m:=mask done o
     bif loose o f m done&&(o.after.all λe=>!Region.binds .any e||Nat.blt e.on i) then
      (ix cx nb bf inl f o σ).bind λσ=>II r ((i,o,f,m)::done) σ
     else .fail
def M5(a:Array Oper)(o:Oper):List Nat:=match o.guard with
 | some (g,_)=>match(a[g]?).bind (·.dst) with|some d=>[d]|none=>[]
 | none=>[]
def Ca(a:Array Oper)(o:Oper):List Nat:=M5 a o++tmpsOf (eU o.op)
def w9(o:Oper)(k:Nat):Bool:=match o.guard with|some (g,_)=>!Nat.beq g k|none=>true
def zu(a:Array Oper)(i j:Nat)(x y:Oper)(f g:Fp):Bool :=
 !f.HP&&!g.HP&&Xp f.wr g.rd&&Xp g.wr f.rd&&w9 x j&&w9 y i &&
 (match x.dst with|some d=>!cP (Ca a y) d&&(match y.dst with|some e=>!Nat.beq d e|none=>true)|none=>true) &&
 (match y.dst with|some e=>!cP (Ca a x) e|none=>true)
def Cb(a:Array Oper)(i:Nat)(o:Oper)(f:Fp)(m:Nat):List zt->Bool
 | []=>true
 | (k,ok,b,_)::r=>(Nat.testBit m k||zu a k i ok o b f)&&Cb a i o f m r
def gz(i:Nat)(a:Nat->Bool):Nat->Bool:=λk=>Nat.beq k i||a k
def tp(a:Array Oper):List (Nat×Oper)->List zt->St->(Nat->Bool)->Tree St
 | [],_,σ,_=>.ret σ
 | (i,o)::r,done,σ,b =>
   let f:=w8 cx nb o σ
   let m:=mask done o
   bif Cb a i o f m done&&(o.after.all λe=>!Region.binds .any e||Nat.blt e.on i) then
    match o.guard with
    | none=>(ix cx nb bf inl f o σ).bind λσ=>tp a r ((i,o,f,m)::done) σ b
    | some (g,want)=>match(a[g]?).bind (·.dst) with
      | none=>.fail
      | some dg=>bif b g then tp a r ((i,o,f,m)::done) (σ.ba o.dst .undef) (gz i b)
        else match σ.slots dg with
         | .data .bool c=>.node c
          (bif want then(ix cx nb bf inl f o<|σ.put dg<|.data .bool true).bind λσ=>tp a r ((i,o,f,m)::done) σ b
           else tp a r ((i,o,f,m)::done) ((σ.put dg<|.data .bool true).ba o.dst .undef) (gz i b))
          (bif want then tp a r ((i,o,f,m)::done) ((σ.put dg<|.data .bool false).ba o.dst .undef) (gz i b)
           else(ix cx nb bf inl f o<|σ.put dg<|.data .bool false).bind λσ=>tp a r ((i,o,f,m)::done) σ b)
         | _=>.fail
   else .fail
def kC:List Oper->Bool
 | []=>true
 | o::r=>(match o.dst with|some d=>!cP (ED r) d|none=>true)&&kC r
where ED:List Oper->List Nat
 | []=>[]
 | o::r=>match o.dst with|some d=>d::ED r|none=>ED r
def xa(a:Array Oper)(b:St):Tree St :=
 bif a.any λo=>o.guard.isSome then(bif kC a.toList then tp cx nb bf inl a (number 0 a.toList) [] b (λ_=>false) else .fail)
 else II cx nb bf inl (number 0 a.toList) [] b
end
def rounds{S R:Type}(f:S->Option (S⊕R)):Nat->S->Option R
 | 0,_=>none
 | n+1,s=>(f s).bind λx=>match x with|.inl s=>rounds f n s|.inr r=>some r
theorem F4{S R:Type}{f:S->Option (S⊕R)}:∀{n:Nat} {s:S} {r:R},rounds f n s=some r->∀m,n<=m->rounds f m s=some r:=by
 intro n;induction n with
 | zero=>intro s r h;cases h
 | succ n b =>
   intro s r h m c;obtain⟨k,rfl⟩:∃k,m=k+1:=⟨m-1,by omega⟩;simp only[rounds] at h⊢;cases a:f s with
   | none=>rw[a] at h;cases h
   | some x =>
     rw[a] at h;cases x with
     | inl d=>exact b h k (by omega)
     | inr e=>exact h
open Classical in
def Q5{S R:Type}(f:S->Option (S⊕R))(s:S):Option R :=
 if h:∃n r,rounds f n s=some r then some (Classical.choose<|Ll h) else none
theorem yQ{S R:Type}{f:S->Option (S⊕R)}{n:Nat}{s:S}{r:R}(h:rounds f n s=some r):Q5 f s=some r:=by
 have c:∃n r,rounds f n s=some r:=⟨n,r,h⟩;unfold Q5;rw[dif_pos c];have d:=Ll (Ll c);have a:=F4 h (max n<|Classical.choose c) (by omega);have b:=F4 d (max n<|Classical.choose c) (by omega);rw[a] at b;exact b.symm
class Lp where
 loop:{S R:Type}->(S->Option (S⊕R))->S->Option R
 ok:∀{S R:Type} (f:S->Option (S⊕R)) (s:S),loop f s=Q5 f s
theorem Lp.one(i j:Lp):i=j:=by
 obtain⟨l,h⟩:=i;obtain⟨m,k⟩:=j;have:@l=@m:=by funext S R f s;rw[h,k]
 subst this;rfl
@[reducible] noncomputable def Lp.Q6:Lp where
 loop:=λf s=>match rounds f 100000 s with|some r=>some r|none=>Q5 f s
 ok:=λf s=>by
  generalize 100000=k;cases a:rounds f k s with
  | some r=>exact(yQ a).symm
  | none=>rfl
section
variable [Lp]
def Loop{S R:Type}(f:S->Option (S⊕R))(s:S):Option R:=Lp.loop f s
theorem pU{S R:Type}{f:S->Option (S⊕R)}{n:Nat}{s:S}{r:R}(h:rounds f n s=some r):Loop f s=some r:=(Lp.ok f s).trans (yQ h)
theorem pV{S R:Type}{f:S->Option (S⊕R)}{s:S}{r:R}(h:Loop f s=some r):∃n,rounds f n s=some r:=by
 replace h:=(Lp.ok f s).symm.trans h;unfold Q5 at h;split at h
 .rename_i a;have b:=Ll (Ll a);exact⟨_,by rw[b];exact h⟩
 .cases h
theorem aN{S R:Type}(f:S->Option (S⊕R))(s:S):Loop f s=(f s).bind λx=>match x with|.inl s=>Loop f s|.inr r=>some r:=by
 cases c:f s with
 | none =>
   cases b:Loop f s with
   | none=>rfl
   | some r =>
     obtain⟨n,a⟩:=pV b;cases n with
     | zero=>cases a
     | succ n=>simp[rounds,c] at a
 | some x =>
   cases x with
   | inr r=>exact pU (n:=1) (by simp[rounds,c])
   | inl e =>
     show Loop f s=Loop f e
     cases b:Loop f e with
     | some r =>
       obtain⟨n,a⟩:=pV b;exact pU (n:=n+1) (by simp[rounds,c,a])
     | none =>
       cases d:Loop f s with
       | none=>rfl
       | some r =>
         obtain⟨n,a⟩:=pV d;cases n with
         | zero=>cases a
         | succ n =>
           simp[rounds,c] at a;rw[pU a] at b;cases b
end
inductive Sh where
 | d (t:Ty)
 | k (v:aO)
 | m (a b:Sh)
def Sh.ty:Sh->Ty
 | .d t=>t
 | .k _=>.unit
 | .m a b=>.pair a.ty b.ty
def HQ:List B9->List B9->Bool
 | [],[]=>true
 | .fJ k o::p,.fJ a b::q=>Nat.beq k a&&Nat.beq o b&&HQ p q
 | _,_=>false
def HR:List (Nat×Nat)->List (Nat×Nat)->Bool
 | [],[]=>true
 | (a,b)::r,(c,d)::s=>Nat.beq a c&&Nat.beq b d&&HR r s
 | _,_=>false
theorem TS:∀{p q:List B9},HQ p q=true->p=q:=by
 intro p;induction p with
 | nil=>intro q h;cases q<;>first|rfl|cases h
 | cons s p a =>
   intro q h;cases s with
   | idx i n=>cases q<;>cases h
   | fJ k o =>
     cases q with
     | nil=>cases h
     | cons b q =>
       cases b with
       | idx i n=>cases h
       | fJ c d =>
         simp only[HQ,dv] at h;rw[eT h.1.1,eT h.1.2,a h.2]
theorem TT:∀{p q:List (Nat×Nat)},HR p q=true->p=q:=by
 intro p;induction p with
 | nil=>intro q h;cases q<;>first|rfl|cases h
 | cons s p e =>
   intro q h;obtain⟨a,b⟩:=s;cases q with
   | nil=>cases h
   | cons f q =>
     obtain⟨c,d⟩:=f;simp only[HR,dv] at h;rw[eT h.1.1,eT h.1.2,e h.2]
def xX(V:Nat->Bool->Bool)(d g:St):aO->aO->Bool
 | .ptr b v p,.ptr e a h=>Nat.beq b e&&HQ p h&&(bif V b false then(match d.mem b,g.mem b with|some x,some y=>Nat.beq x.aP v&&Nat.beq y.aP a|_,_=>false) else Nat.beq v a)
 | .whole b v,.whole e a=>Nat.beq b e&&(match d.mem b,g.mem b with|some x,some y=>Nat.beq x.aP v&&Nat.beq y.aP a&&y.buf|_,_=>false)
 | .fn f c,.fn i j=>Nat.beq f i&&HR c j
 | .rf,.rf=>true
 | .ss,.ss=>true
 | .vu b v,.vu e a=>Nat.beq b e&&Nat.beq v a
 | _,_=>false
def acn:aO->Sh
 | .data t _=>.d t
 | .mix a b=>.m (acn a) (acn b)
 | v=>.k v
def Sh.out(V:Nat->Bool->Bool)(c e:St):(s:Sh)->aO->Option s.ty.den
 | .d t,v=>toD t v
 | .k u,v=>bif xX V c e u v then some () else none
 | .m a b,.mix v w=>match Sh.out V c e a v,Sh.out V c e b w with
   | some x,some y=>some (x,y)
   | _,_=>none
 | .m _ _,_=>none
def bump(M:Nat->Bool)(V:Nat->Bool->Bool):aO->aO
 | .whole b v=>bif M b&&V b true then .whole b (v+1) else .whole b v
 | .ptr b v p=>bif M b&&V b false then .ptr b (v+1) p else .ptr b v p
 | v=>v
def Sh.pW(M:Nat->Bool)(V:Nat->Bool->Bool):(s:Sh)->s.ty.den->aO
 | .d t,x=>.data t x
 | .k v,_=>bump M V v
 | .m a b,x=>.mix (a.pW M V x.1) (b.pW M V x.2)
structure CV where
 S:List (Nat×Nat)
 M:List Nat
 fz:Bool
structure tq where
 marks:List (Option CV)
 Oq:List Nat
structure Carry where
 S:List (Nat×Sh)
 M:List (Nat×Sh×bF)
 V:Nat->Bool->Bool
def tyS:List (Nat×Sh)->Ty
 | []=>.unit
 | (_,s)::r=>.pair s.ty (tyS r)
def tyM:List (Nat×Sh×bF)->Ty
 | []=>.unit
 | (_,s,_)::r=>.pair s.ty (tyM r)
def Carry.ty(c:Carry):Ty:=.pair (tyS c.S) (tyM c.M)
def aco(V:Nat->Bool->Bool)(a b:St):(l:List (Nat×Sh))->Option (tyS l).den
 | []=>some ()
 | (i,s)::r=>match Sh.out V a b s (b.slots i),aco V a b r with
   | some x,some y=>some (x,y)
   | _,_=>none
def F5(c d:Bool)(a b:bF):Bool:=(c||(a.ro==b.ro))&&Nat.beq a.tid b.tid&&(a.buf==b.buf)&&(d||Nat.beq a.aP b.aP)
def acp(V:Nat->Bool->Bool)(d:Bool)(a c:St):(l:List (Nat×Sh×bF))->Option (tyM l).den
 | []=>some ()
 | (i,s,b)::r=>match c.mem i with
   | some e=>bif F5 d (V i b.buf) e b then(match Sh.out V a c s e.val,acp V d a c r with
     | some x,some y=>some (x,y)
     | _,_=>none) else none
   | none=>none
def Carry.out(c:Carry)(fz:Bool)(a b:St):Option c.ty.den :=
 match aco c.V a b c.S,acp c.V fz a b c.M with
 | some x,some y=>some (x,y)
 | _,_=>none
def Ot(M:Nat->Bool)(V:Nat->Bool->Bool):(l:List (Nat×Sh))->(tyS l).den->Nat->Option aO
 | [],_,_=>none
 | (i,s)::r,x,t=>bif Nat.beq t i then some (s.pW M V x.1) else Ot M V r x.2 t
def IJ(a:Bool)(M:Nat->Bool)(V:Nat->Bool->Bool):(l:List (Nat×Sh×bF))->(tyM l).den->Nat->Option bF
 | [],_,_=>none
 | (i,s,b)::r,x,t=>bif Nat.beq t i then some { b with val:=s.pW M V x.1,ro:=b.ro||a,aP:=bif V t b.buf then b.aP+1 else b.aP } else IJ a M V r x.2 t
def uA:List (Nat×Sh×bF)->Nat->Bool
 | [],_=>false
 | (i,_,_)::r,t=>Nat.beq t i||uA r t
def Carry.pW(c:Carry)(fz lock:Bool)(wr:List Nat)(a:St)(x:c.ty.den):St :=
 { slots:=λt=>match Ot (uA c.M) c.V c.S x.1 t with
    | some v=>v
    | none=>bif cP wr t then .undef else a.slots t
   mem:=λb=>match IJ fz (uA c.M) c.V c.M x.2 b with
    | some d=>some d
    | none=>match a.mem b with
      | some d=>some { d with lk:=d.lk||lock }
      | none=>none }
def settle:List (Nat×Sh)->St->Option St
 | [],σ=>some σ
 | (i,.d t)::r,σ=>match wW σ t (σ.slots i) with
   | some (x,σ)=>settle r (σ.put i<|.data t x)
   | none=>none
 | _::r,σ=>settle r σ
def Carry.IK(c:Carry)(fz:Bool)(a b:St):Option c.ty.den :=
 bif fz then(match settle c.S b with
  | some b=>c.out true a b
  | none=>none)
 else c.out false a b
def Carry.lock(c:Carry)(a:St):St :=
 { a with mem:=λb=>match a.mem b with
  | some d=>some (bif uA c.M b then d else { d with lk:=true })
  | none=>none }
def pX:List Oper->List Nat
 | []=>[]
 | o::r=>match o.dst with|some d=>d::pX r|none=>pX r
def writes:Code->List Nat
 | .region _ ops _=>pX ops.toList
 | .seq a b=>writes a++writes b
 | .cond _ a b=>writes a++writes b
 | .block _ a=>writes a
 | .loop a=>writes a
 | .scope a=>writes a
 | _=>[]
def tr:Code->List Nat
 | .seq a b=>tr a++(tr b).filter λe=>!cP (tr a) e
 | .cond _ a b=>tr a++(tr b).filter λe=>!cP (tr a) e
 | .block i a=>(tr a).filter λe=>!Nat.beq e (i+2)
 | .loop a=>tr a
 | .scope a=>tr a
 | .ret=>[1]
 | .exit i=>[i+2]
 | _=>[]
def marks:Code->Nat
 | .seq a b=>marks a+marks b
 | .cond _ a b=>marks a+marks b+1
 | .block _ a=>marks a
 | .loop a=>marks a+1
 | .scope a=>marks a
 | _=>0
def GY:List Nat->Nat->Option Nat
 | [],_=>none
 | e::r,k=>bif Nat.beq e k then some 0 else(GY r k).map (·+1)
def TU:List Nat->List Nat->List Nat
 | [],l=>l
 | b::r,l=>bif cP l b then TU r l else TU r (l++[b])
section
variable (cx:Ctx)
def mkS(a:St):List (Nat×Nat)->Option (List<|Nat×Sh)
 | []=>some []
 | (i,ty)::r=>match mkS a r with
   | none=>none
   | some l=>bif Nat.beq ty 999999 then(match a.slots i with
     | .whole b v=>some ((i,.k (.whole b v))::l)
     | _=>some l) else match a.slots i with
     | .data t _=>some ((i,.d t)::l)
     | .undef|.oa=>match find cx.T ty with
       | some t=>some ((i,.d t)::l)
       | none=>none
     | v=>some ((i,.k v)::l)
def AA(a:St):List Nat->List Nat
 | []=>[]
 | b::r=>(match a.mem b with|some d=>(match d.val with|.mix u v=>wZ a (.mix u v)|.whole c _=>[c]|.fn f c=>wZ a (.fn f c)|_=>[])|none=>[])++AA a r
def Ou(a:St):List Nat->List Nat
 | []=>[]
 | i::r =>
   let b:=wZ a (a.slots i)
   let c:=AA a b
   let r2:=AA a c
   TU (b++(c++(r2++AA a r2))) (Ou a r)
def mkM(c:St):List Nat->Option (List<|Nat×Sh×bF)
 | []=>some []
 | b::r=>match c.mem b,mkM c r with
   | some a,some l=>bif a.lk then none else some ((b,acn a.val,a)::l)
   | _,_=>none
def aek:aO->Option Nat
 | .whole b _=>some b
 | .part b _ _ _=>some b
 | _=>none
def CW:List Nat->St->Option St
 | [],σ=>some σ
 | m::r,σ=>bif Nat.ble 2000000 m then(match aek (σ.slots<|m-2000000) with
  | some b=>match σ.mem b with
    | some a=>match a.val with
      | .data (.slice e) _=>match wW σ (.slice e) (σ.slots<|m-2000000) with
        | some (x,σ)=>CW r (σ.put (m-2000000)<|.data (.slice e) x)
        | none=>none
      | _=>none
    | none=>none
  | none=>CW r σ) else CW r σ
def aft(a:Nat)(c:List Nat)(d:St)(b:Nat):Bool:=cP (c.map (a+·)) b&&(match d.mem b with|some x=>!x.buf&&!HM x.val|none=>false)
def HS(d:Nat)(e:List Nat)(a:St)(p:CV):Option Carry :=
 match mkS cx a p.S,mkM a (Ou a p.M) with
 | some s,some m=>some ⟨s,m,λb c=>bif c then !cP p.M 3999999 else aft d e a b⟩
 | _,_=>none
variable (nb:Nat) (bf:List Nat) (inl:Nat->List aO->St->Tree (aO×St))
def CX{a:Type}:List Nat->Nat->(Nat->Tree a)->Tree a
 | [],_,_=>.fail
 | [e],_,f=>f e
 | e::r,i,f=>.node (dJ i 0) (f e) (CX r (i-1) f)
variable [Lp]
def again{S:Type}(f:S->Tree (Nat×S)):Nat->S->Tree (Nat×S)
 | 0,_=>.fail
 | n+1,s=>(f s).bind λr=>bif Nat.beq r.1 0 then again f n r.2 else .ret r
def TV(p:CV):Option Nat:=match p.M with
 | [m]=>bif Nat.ble 6000000 m then some (m-6000000) else none
 | _=>none
def EE(f:St->Tree (Nat×St))(c:Nat):Nat->Nat->St->Tree (Nat×St)
 | 0,_,_=>.fail
 | n+1,j,σ=>match σ.slots c with
   | .data (.int .i64) x=>.need (aX x j) ((f<|σ.put c<|.data (.int .i64) (j:Int)).bind λr=>bif Nat.beq r.1 0 then EE f c n (j+1) r.2 else .ret r)
   | _=>.fail
def iF:Code->List (Option CV)->St->Tree (Nat×St)
 | .skip,_,σ=>.ret (0,σ)
 | .label _,_,σ=>.ret (0,σ)
 | .ret,_,σ=>.ret (1,σ)
 | .exit i,_,σ=>.ret (i+2,σ)
 | .region _ ops f,_,σ=>(bif f then xa cx nb bf inl ops σ else IH cx nb bf inl ops σ).bind λσ=>.ret (0,σ)
 | .seq a b,pl,σ=>(iF a pl σ).bind λr=>bif Nat.beq r.1 0 then iF b (pl.drop<|marks a) r.2 else .ret r
 | .block i a,pl,σ=>(iF a pl σ).bind λr=>.ret (bif Nat.beq r.1 (i+2) then 0 else r.1,r.2)
 | .scope a,pl,σ=>iF a pl σ
 | .cond c a b,pl,σ=>match cD σ c,pl with
   | .data .bool c,none::pl=>.node c (iF a pl σ) (iF b (pl.drop<|marks a) σ)
   | .data .bool c,some p::pl=>match CW p.M σ with
    | none=>.fail
    | some σ=>match HS cx nb bf σ p with
     | none=>.fail
     | some k =>
       let t:=Tree.node c (iF a pl<|k.lock σ) (iF b (pl.drop<|marks a)<|k.lock σ)
       let wr:=writes a++writes b
       match tr a++(tr b).filter (λe=>!cP (tr a) e) with
       | []=>(t.bind λr=>bif Nat.beq r.1 0 then Tree.Z0 (k.IK p.fz σ r.2) else .fail).join λx=>.ret (0,k.pW p.fz false wr σ x)
       | es=>(t.bind λr=>match GY (0::es) r.1,k.IK p.fz σ r.2 with
        | some i,some x=>.ret (i,x)
        | _,_=>.fail).join λx=>CX (0::es) x.1 λe=>.ret (e,k.pW p.fz false wr σ x.2)
   | _,_=>.fail
 | .loop a,pl,σ=>match pl with
   | some p::pl=>match TV p with
    | some c=>EE (λσ=>iF a pl σ) c 100 0 σ
    | none=>match CW p.M σ with
    | none=>.fail
    | some σ=>match HS cx nb bf σ p with
     | none=>.fail
     | some k=>match k.out false σ σ with
       | none=>.fail
       | some d =>
         let wr:=writes a
         let es:=tr a
         let body (x:k.ty.den):Option (k.ty.den⊕(Nat×k.ty.den)):=((iF a pl<|k.pW false true wr σ x).bind λr=>bif Nat.beq r.1 0 then(match k.out false σ r.2 with
           | some y=>.ret (.inl y)
           | none=>.fail)
          else match GY es r.1,k.IK p.fz σ r.2 with
           | some i,some y=>.ret (.inr (i,y))
           | _,_=>.fail).run
         match es with
         | [e]=>.look (Loop (λx=>dh (body x)) d) λx=>.ret (e,k.pW p.fz false wr σ x)
         | es=>.look (Loop body d) λx=>CX es x.1 λe=>.ret (e,k.pW p.fz false wr σ x.2)
   | none::pl=>again (λσ=>iF a pl σ) 100000 σ
   | _=>.fail
 | _,_,_=>.fail
end
variable [Lp]
def uB(mem:Nat->Option bF)(a:List aO):St:={ slots:=λt=>(a[t]?).getD .undef,mem }
def EF(c:Ctx)(b:St):ResultVar->Tree aO
 | .tmp t=>.ret (b.slots t)
 | .cell a ty=>(kS c (some 0) ty (b.slots a) b).bind λτ=>.ret (τ.slots 0)
def CY(a:Ctx)(b:St):List ResultVar->Tree aO
 | []=>.ret .nl
 | r::rs=>(EF a b r).bind λv=>(CY a b rs).bind λl=>.ret (.mix v l)
def results1(a:Ctx)(b:St):List ResultVar->Tree aO
 | [r]=>EF a b r
 | rs=>(CY a b rs).bind λl=>.ret (.yP l)
def iV(mem:Nat->Option bF):St:={ slots:=λ_=>.undef,mem }
def ad2(a:Ctx):List TypeId->Option (List Ty)
 | []=>some []
 | t::r=>match find a.T t,ad2 a r with
   | some u,some l=>some (u::l)
   | _,_=>none
def Z7(b:Ctx)(a:List TypeId):List Nat->Option (Bool×List Ty)
 | []=>none
 | m::r=>bif Nat.ble 7000000 m&&Nat.ble m 7999999 then(bif Nat.beq m 7999999 then(ad2 b a).map λl=>(true,l) else(find b.T<|m-7000000).map λR=>(false,[R])) else Z7 b a r
def spread(a:Bool)(v:aO):Nat->aO :=
 match a,v with
 | false,v=>λt=>bif Nat.beq t 0 then v else .undef
 | true,.yP m=>λt=>match nth m t with|some u=>u|none=>.undef
 | true,_=>λ_=>.undef
def IL:aO->Nat
 | .mix _ b=>IL b+1
 | _=>0
def Q7(a:Bool)(v:aO)(n:Nat):Bool :=
 match a,v with
 | false,_=>Nat.beq n 1
 | true,.yP m=>Nat.beq (IL m) n
 | true,_=>false
def ael(a:Nat->aO):Nat->Nat->aO
 | _,0=>.nl
 | i,n+1=>.mix (a i) (ael a (i+1) n)
def Ov(b:Bool)(n:Nat)(a:Nat->aO):aO :=
 match b with
 | false=>a 0
 | true=>.yP (ael a 0 n)
def Z8(a:Bool)(v:aO)(mem:Nat->Option bF):St:={ slots:=spread a v,mem }
def Wg:List Ty->Nat->List (Nat×Sh)
 | [],_=>[]
 | t::r,i=>(i,.d t)::Wg r (i+1)
def Wh(R:Bool×List Ty)(b:List aO)(a:Nat->Option bF)(F:(Nat->Option bF)->Tree (aO×(Nat->Option bF))):Tree (aO×(Nat->Option bF)) :=
 match mkM (iV a) (Ou (uB a b)<|List.range b.length) with
 | none=>.fail
 | some m =>
   let k:Carry:=⟨Wg R.2 0,m,λ_ c=>c⟩
   let wr:=List.range R.2.length
   ((F (k.lock<|iV a).mem).bind λr=>bif Q7 R.1 r.1 R.2.length then Tree.Z0 (k.out false (iV a)<|Z8 R.1 r.1 r.2) else .fail).join λx =>
    .ret (Ov R.1 R.2.length (k.pW false false wr (iV a) x).slots,(k.pW false false wr (iV a) x).mem)
def IM(d:Ctx)(e:Nat)(p:tq)(inl:Nat->List aO->St->Tree (aO×St))(fn:Func)(c:Code)(a:List aO)(b:Nat->Option bF):Tree (aO×(Nat->Option bF)) :=
 (iF d e p.Oq inl c p.marks<|uB b a).bind λr =>
  bif Nat.beq r.1 0||Nat.beq r.1 1 then(results1 d r.2 fn.results.toList).bind λv=>.ret (v,r.2.mem) else .fail
def Z9(a:Nat->Option bF)(s:Nat):Nat->Nat->Nat
 | 0,b=>b
 | k+1,b=>match a (b+s) with
   | none=>b
   | some _=>Z9 a s k (b+200)
def Cc(a:Nat->Option bF)(b:Nat):List Nat->Nat
 | []=>b
 | m::r=>bif Nat.ble 9000000 m then Z9 a (m-9000000) 4 b else Cc a b r
def yR(a:Ctx):Nat->(nb:Nat)->(py:Nat->tq)->Nat->List aO->(Nat->Option bF)->Tree (aO×(Nat->Option bF))
 | 0,_,_,_,_,_=>.fail
 | n+1,nb,py,f,args,mem=>match find a.fns f with
   | some fn=>match fn.body with
     | some c=>match Z7 a fn.resultTypes.toList (py f).Oq with
       | none=>IM a nb (py f) (λg b σ=>(yR a n (Cc σ.mem ((nb+g+1)*1000) (py g).Oq) py g b σ.mem).bind λr=>.ret (r.1,{ σ with mem:=r.2 })) fn c args mem
       | some R=>Wh R args mem (IM a nb (py f) (λg b σ=>(yR a n (Cc σ.mem ((nb+g+1)*1000) (py g).Oq) py g b σ.mem).bind λr=>.ret (r.1,{ σ with mem:=r.2 })) fn c args)
     | none=>.fail
   | none=>.fail
def EG:(A:Ty)->A.den->List aO
 | .pair t r,x=>.data t x.1::EG r x.2
 | _,_=>[]
def CZ:aO->List aO
 | .mix a b=>a::CZ b
 | _=>[]
def C0:(R:Ty)->aO->List aO
 | .pair _ .unit,v=>[v]
 | _,.yP v=>CZ v
 | _,v=>[v]
def C1(k:Nat):Nat:=777000000+k
def acq(k:Nat):Nat:=778000000+k
def nf(k:Nat):Nat->List (Nat×Nat)
 | 0=>[]
 | n+1=>(C1 k,0)::nf (k+1) n
def rk(k:Nat):Nat->List (Nat×Nat)
 | 0=>[]
 | n+1=>(acq k,0)::rk (k+1) n
def C2:List Bool->OT->(A:Ty)->A.den->Nat->List aO
 | [],_,_,_,_=>[]
 | false::ps,U,A,x,k=>match A,x with
   | .pair t A,x=>.data t x.1::C2 ps U A x.2 k
   | _,_=>[]
 | true::ps,U,A,x,k=>match U with
   | .pair o U=>.ptr (C1 k) 0 []::C2 ps U A x (k+o.nr)
   | _=>[]
def Q8(a:Nat->Option bF):(U:OT)->Nat->Option (U.den×List (Nat×Nat)×List (Nat×Nat))
 | .pair o U,k=>match dE a o (.ptr (C1 k) 0 []),Q8 a U (k+o.nr) with
   | some (x,N,M),some (u,b,c)=>some ((x,u),N++b,M++c)
   | _,_=>none
 | .unit,_=>some ((),[],[])
 | _,_=>none
def Ow:List (Nat×Nat)->List (Nat×Nat)->Bool
 | [],[]=>true
 | (a,b)::r,(c,d)::s=>Nat.beq a c&&Nat.beq b d&&Ow r s
 | _,_=>false
def Xq(b:Ctx)(n:Nat)(a:Nat->tq)(f:Nat)(c:List Bool)(A:Ty)(U:OT)(R:Ty)(x:A.den×U.den):Option (R.den×U.den) :=
 ((yR b n 0 a f (C2 c U A x.1 0)<|iH U x.2 (nf 0 U.nr)<|rk 0 U.nb).bind λr=>match kA (iV r.2) R (C0 R r.1) with
  | some (y,σ)=>(match Q8 σ.mem U 0 with
    | some (u,N,M)=>bif Ow N (nf 0 U.nr)&&IG (bq N M)&&IG (bq (nf 0 U.nr)<|rk 0 U.nb) then .ret (y,u) else .fail
    | none=>.fail)
  | none=>.fail).run
def sem(b:Ctx)(n:Nat)(a:Nat->tq)(f:Nat)(A R:Ty)(x:A.den):Option R.den :=
 ((yR b n 0 a f (EG A x) λ_=>none).bind λr=>match iv (iV r.2) R (C0 R r.1) with
  | some y=>.ret y
  | none=>.fail).run
end Go.Ge
