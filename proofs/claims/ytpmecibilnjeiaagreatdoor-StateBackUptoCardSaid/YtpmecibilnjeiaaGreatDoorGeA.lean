/- A ghost interpreter of the model's code, and that it tells the truth: part 1. It says of a function of plain data what a call of it comes to. -/
import Derived.WalkKit
set_option linter.unusedVariables false
set_option linter.unusedSectionVars false
set_option linter.unusedSimpArgs false
abbrev ao:=List UInt8
abbrev ah:=Unit
abbrev aG:=@Option.some.inj
abbrev eX:=@Nat.eq_of_beq_eq_true
abbrev dv:=@Bool.and_eq_true
abbrev cU:=@decide_eq_false
abbrev aV:=@if_pos
abbrev gH:=@List.getElem?_eq_getElem
abbrev aX:=@if_neg
abbrev eu:=@decide_eq_true
abbrev gI:=@List.length_append
abbrev fT:=@List.length_take
abbrev bk:=@Prod.mk.inj
abbrev fU:=@List.getElem?_eq_some_iff
abbrev dh:=@List.length_cons
abbrev eF:=@List.mem_of_getElem?
abbrev bZ:=@Nat.le_refl
abbrev gb:=@Nat.mul_le_mul_right
abbrev fA:=@List.getElem?_take
abbrev eG:=@List.length_nil
abbrev nC:=@List.mem_append_right
abbrev mI:=@List.mem_append_left
abbrev j7:=@Bool.not_eq_true'
abbrev kH:=@of_decide_eq_true
abbrev gd:=@List.mem_cons
abbrev jV:=@decide_eq_decide
abbrev kP:=@List.append_assoc
abbrev oh:=@List.mem_cons_of_mem
abbrev j8:=@List.length_drop
abbrev mF:=@List.getElem?_drop
abbrev fM:=@Nat.le_trans
abbrev mJ:=@List.mem_cons_self
abbrev nE:=@decide_eq_true_eq
abbrev ev:=@cond_true
abbrev va:=@Array.getElem?_eq_some_iff
abbrev r9:=@Option.map_eq_some_iff
abbrev gJ:=@Nat.add_mul
abbrev ue:=@List.head_eq_of_cons_eq
abbrev vU:=@List.length_eq_zero_iff
abbrev pc:=@Nat.min_eq_left
abbrev iU:=@cond_false
abbrev y7:=@List.drop_eq_getElem_cons
abbrev sa:=@Option.some.injEq
abbrev vV:=@List.take_append_drop
abbrev sQ:=@Int.toNat_natCast
abbrev vW:=@Bool.or_eq_false_iff
abbrev sb:=@List.all_eq_true
abbrev ra:=@List.mem_append
abbrev sd:=@List.nil_append
abbrev mK:=@Nat.zero_le
abbrev sR:=@List.length_map
abbrev A7:=@Option.bind_eq_some_iff
abbrev A8:=@List.take_of_length_le
abbrev wH:=@List.getElem?_map
abbrev qI:=@Nat.zero_add
abbrev ED:=@List.pairwise_iff_getElem
abbrev wI:=@List.take_length
abbrev BT:=@Nat.le_of_ble_eq_true
abbrev vX:=@List.mem_filter
abbrev tq:=@List.map_cons
abbrev se:=@List.mem_map
abbrev Lg:=@List.takeWhile_append_dropWhile
abbrev vb:=@List.drop_drop
abbrev qJ:=@Int.le_refl
abbrev wJ:=@Bool.or_eq_true
abbrev tr:=@Nat.lt_or_ge
abbrev A9:=@Nat.lt_of_lt_of_le
abbrev y8:=@List.cons_append
abbrev Ik:=@List.getElem?_append_right
abbrev xE:=@List.map_append
abbrev wK:=@List.drop_zero
abbrev GK:=@decide_eq_false_iff_not
abbrev kQ:=@if_true
abbrev Ba:=@List.take_add_one
abbrev y9:=@List.append_nil
abbrev GL:=@List.drop_of_length_le
abbrev EE:=@List.mem_of_mem_take
abbrev xF:=@Nat.add_assoc
abbrev wL:=@Nat.add_zero
abbrev BU:=@Array.toList_inj
abbrev Lh:=@Option.isSome_iff_exists
abbrev EF:=@List.mem_singleton
abbrev Of:=@List.getD_eq_getElem?_getD
abbrev Og:=@List.getElem?_append_left
abbrev Bb:=@List.drop_left
abbrev Li:=@Classical.choose_spec
abbrev Il:=@List.map_congr_left
abbrev Im:=@List.filter_eq_self
abbrev zg:=@Nat.succ_mul
abbrev GM:=@List.size_toArray
abbrev Th:=@List.take_append_of_le_length
abbrev EG:=@Option.map_some
abbrev EH:=@Bool.eq_iff_iff
abbrev Ti:=@Array.getD_eq_getD_getElem?
abbrev Oh:=@List.getElem?_eq_none
abbrev Oi:=@List.length_singleton
abbrev Oj:=@List.getElem?_append
abbrev WC:=@List.drop_append_of_le_length
abbrev Lj:=@List.ext_getElem?
abbrev Lk:=@List.nodup_append
abbrev GN:=@List.mem_range
abbrev Ol:=@of_decide_eq_false
abbrev yA:=@Bool.false_or
abbrev pV:=@if_false
abbrev FU:=@List.dropWhile_cons
abbrev ML:=@Classical.byContradiction
abbrev Qi:=@List.eq_nil_of_length_eq_zero
abbrev FV:=@Bool.not_eq_false'
abbrev FW:=@decide_eq_true_iff
abbrev Bj:=@List.take_take
abbrev Io:=@List.mem_of_mem_drop
abbrev CI:=@List.drop_left'
abbrev CJ:=@List.nodup_cons
abbrev CK:=@List.take_left'
abbrev Ip:=@Array.length_toList
abbrev Iq:=@List.length_pos_iff
abbrev Ir:=@List.takeWhile_cons
abbrev zh:=@Nat.le_of_eq
abbrev wM:=@Nat.mod_lt
abbrev s9:=@Eq.trans
abbrev FX:=@Option.bind_some
abbrev Is:=@Bool.false_eq_true
abbrev MM:=@List.mem_iff_getElem?
abbrev MN:=@List.length_filter_le
abbrev Iu:=@List.pairwise_cons
abbrev CL:=@Prod.mk.injEq
abbrev Qj:=@List.getElem?_cons_succ
abbrev MO:=@List.getElem_of_mem
abbrev MP:=@Array.toList_append
abbrev MQ:=@List.length_reverse
abbrev Iv:=@List.drop_length
abbrev Bk:=@Nat.mul_one
abbrev Qk:=@Array.getElem?_eq_none
abbrev Vj:=@List.take_length_add_append
abbrev CM:=@Nat.beq_refl
abbrev MR:=@List.mem_filterMap
abbrev MS:=@List.filter_append
abbrev Ql:=@List.length_replicate
abbrev Qm:=@Array.getElem?_modify
abbrev Qn:=@List.dropLast_eq_take
abbrev MT:=@Nat.lt_trichotomy
abbrev CN:=@decide_true
abbrev Iw:=@List.take_left
abbrev MU:=@Array.toList_map
abbrev Vk:=@List.filterMap_cons_some
abbrev Qo:=@List.getElem?_range
abbrev Vl:=@List.getElem?_replicate
abbrev Qp:=@Nat.eq_zero_or_pos
abbrev MV:=@List.cons.injEq
abbrev Vm:=@List.length_eq_one_iff
abbrev Vn:=@Nat.div_lt_iff_lt_mul
abbrev YL:=@Array.getElem?_setIfInBounds
abbrev MW:=@List.take_zero
abbrev Vo:=@List.eq_nil_or_concat
abbrev Qq:=@Nat.lt_succ_self
abbrev Qr:=@List.mem_reverse
abbrev MX:=@List.all_cons
abbrev MY:=@List.cons.inj
abbrev YM:=@Option.ne_none_iff_exists'
abbrev Vp:=@List.take_succ_cons
abbrev Qs:=@Nat.div_add_mod
abbrev Qt:=@List.foldl_cons
abbrev Qu:=@UInt8.toNat_inj
abbrev YN:=@List.getElem?_zip_eq_some
abbrev YO:=@List.mem_of_find?_eq_some
abbrev MZ:=@Nat.zero_mul
abbrev M0:=@List.map_map
abbrev YP:=@List.getLast_eq_getLastD
abbrev YQ:=@List.getElem?_cons_zero
abbrev YR:=@List.filter_cons_of_pos
abbrev YS:=@List.filter_cons_of_neg
abbrev Vq:=@List.getElem?_set
abbrev Vr:=@List.all_eq_false
abbrev Vs:=@List.pairwise_map
abbrev M3:=@Sum.inl.inj
abbrev acY:=@List.set_eq_take_append_cons_drop
abbrev acZ:=@List.findIdx?_eq_some_iff_getElem
abbrev Qv:=@Bool.not_true
abbrev Qw:=@Bool.true_and
abbrev Qx:=@Bool.or_false
abbrev Vt:=@Nat.lt_of_not_le
abbrev YT:=@Array.getElem?_toList
abbrev YU:=@Array.mem_of_getElem?
abbrev YV:=@BitVec.eq_of_toNat_eq
abbrev YW:=@List.concat_eq_append
abbrev YX:=@List.singleton_append
abbrev M4:=@Nat.not_lt
abbrev YY:=@List.replicate_succ
abbrev YZ:=@Int.toNat_of_nonneg
abbrev Vu:=@List.drop_take
abbrev Ix:=@and_self
abbrev FY:=@Ne.symm
abbrev Iy:=@Prod.ext
abbrev Vv:=@List.mapM_cons
abbrev Vw:=@Bool.and_false
abbrev Qy:=@Nat.sub_mul
abbrev Y0:=@List.filterMap_map
abbrev Y1:=@BitVec.toNat_ofInt
abbrev Y2:=@List.getElem?_tail
abbrev Y3:=@List.getLastD_cons
abbrev ac0:=@Array.toList_setIfInBounds
abbrev ac1:=@Int.fdiv_eq_ediv_of_nonneg
abbrev Vx:=@Bool.or_assoc
abbrev ac2:=@Array.getElem?_append_left
abbrev ac3:=@Nat.mod_two_eq_zero_or_one
abbrev Y4:=@List.flatten_cons
abbrev Y5:=@Array.size_append
abbrev Y6:=@List.length_range
abbrev Y7:=@List.flatMap_cons
abbrev Y8:=@List.getElem_take
abbrev Qz:=@Array.ext'
abbrev ac4:=@List.sublist_append_right
abbrev QA:=@beq_iff_eq
abbrev ac5:=@List.getElem?_eq_none_iff
abbrev ac6:=@List.findIdx?_eq_none_iff
abbrev Vy:=@Nat.mul_comm
abbrev Vz:=@Nat.add_comm
abbrev ac7:=@List.sublist_append_left
abbrev ac8:=@List.filterMap_cons_none
abbrev Y9:=@Nat.min_eq_right
abbrev VA:=@decide_false
abbrev Za:=@List.any_eq_true
abbrev ac9:=@Array.setIfInBounds_comm
abbrev ada:=@Bool.eq_false_or_eq_true
abbrev Zb:=@List.getElem_mem
abbrev Zc:=@List.length_tail
abbrev VB:=@Nat.sub_self
abbrev adb:=@List.getElem?_take_of_lt
abbrev ade:=@Int.eq_ofNat_of_zero_le
abbrev Zd:=@List.find?_some
abbrev adf:=@List.filterMap_append
abbrev adg:=@List.getElem?_toArray
abbrev Ze:=@Bool.false_and
abbrev Zf:=@List.map_take
abbrev Zg:=@List.map_drop
abbrev Zh:=@Bool.and_true
abbrev Zi:=@Nat.le_of_lt
abbrev Zj:=@Nat.ne_of_gt
abbrev Zk:=@Nat.min_self
abbrev Zl:=@Bool.not_not
noncomputable section
namespace Go.Ge
inductive Ty where
 | int (k:IntKind)|bool|str|slice (e:Ty)|arr (n:Nat) (e:Ty)|pair (a b:Ty)|unit
 | alt (u:Nat) (a r:Ty)|za
def Ty.den:Ty->Type
 | .int _=>Int
 | .bool=>Bool
 | .str=>ao
 | .slice e=>List e.den
 | .arr _ e=>List e.den
 | .pair a b=>a.den×b.den
 | .unit=>ah
 | .alt _ a r=>a.den⊕r.den
 | .za=>ah
def yB:IntKind->Nat
 | .i8=>0|.i16=>1|.i32=>2|.i64=>3|.u8=>4|.u16=>5|.u32=>6|.u64=>7
theorem wN{a b:IntKind}(h:Nat.beq (yB a) (yB b)=true):a=b:=by
 cases a<;>cases b<;>first|rfl|(exact absurd h<|by decide)
def Ty.beq:Ty->Ty->Bool
 | .int k,.int g=>Nat.beq (yB k) (yB g)
 | .bool,.bool=>true
 | .str,.str=>true
 | .slice e,.slice f=>Ty.beq e f
 | .arr n e,.arr m f=>Nat.beq n m&&Ty.beq e f
 | .pair a b,.pair c d=>Ty.beq a c&&Ty.beq b d
 | .unit,.unit=>true
 | .alt u a r,.alt v b s=>Nat.beq u v&&(Ty.beq a b&&Ty.beq r s)
 | .za,.za=>true
 | _,_=>false
theorem Ty.eq_of_beq:∀{a b:Ty},Ty.beq a b=true->a=b:=by
 intro a;induction a with
 | int k=>intro b h;cases b<;>first|(exact congrArg _<|wN h)|(cases h)
 | bool=>intro b h;cases b<;>first|rfl|(cases h)
 | str=>intro b h;cases b<;>first|rfl|(cases h)
 | slice e f=>intro b h;cases b<;>first|(exact congrArg _<|f h)|(cases h)
 | arr n e f =>
   intro b h;cases b<;>first|(cases h;done)|skip
   simp only[Ty.beq,dv] at h;rw[eX h.1,f h.2]
 | pair a b d g =>
   intro c h;cases c<;>first|(cases h;done)|skip
   simp only[Ty.beq,dv] at h;rw[d h.1,g h.2]
 | unit=>intro b h;cases b<;>first|rfl|(cases h)
 | alt u a r d i =>
   intro c h;cases c<;>first|(cases h;done)|skip
   simp only[Ty.beq,dv] at h;rw[eX h.1,d h.2.1,i h.2.2]
 | za=>intro b h;cases b<;>first|rfl|(cases h)
def Ty.to(t u:Ty)(x:t.den):Option u.den :=
 if h:Ty.beq t u=true then some ((Ty.eq_of_beq h)▸x) else none
theorem Ty.beq_refl(t:Ty):Ty.beq t t=true:=by
 induction t with
 | int k=>cases k<;>rfl
 | bool=>rfl
 | str=>rfl
 | slice e d=>exact d
 | arr n e d=>simp[Ty.beq,d]
 | pair a b c f=>simp[Ty.beq,c,f]
 | unit=>rfl
 | alt u a r c g=>simp[Ty.beq,c,g]
 | za=>rfl
theorem Ty.kR{t u:Ty}{x:t.den}{y:u.den}(h:Ty.to t u x=some y):∃e:t=u,y=e▸x:=by
 unfold Ty.to at h;split at h
 .rename_i a;exact⟨Ty.eq_of_beq a,by simpa using h.symm⟩
 .cases h
def toL(t u:Ty)(l:List t.den):Option (List u.den) :=
 if h:Ty.beq t u=true then some ((Ty.eq_of_beq h)▸l) else none
theorem j9{t u:Ty}{l:List t.den}{m:List u.den}(h:toL t u l=some m):∃e:t=u,m=e▸l:=by
 unfold toL at h;split at h
 .rename_i a;exact⟨Ty.eq_of_beq a,by simpa using h.symm⟩
 .cases h
def Ty.size:Ty->Nat
 | .int _|.bool|.str|.slice _=>1
 | .arr n e=>n*e.size
 | .pair a b=>a.size+b.size
 | .unit=>0
 | .alt _ _ r=>r.size
 | .za=>1
def Ty.isAgg:Ty->Bool
 | .arr ..|.pair ..|.unit=>true
 | .alt _ _ r=>r.isAgg
 | _=>false
def Ty.zero:(t:Ty)->t.den
 | .int _=>(0:Int)
 | .bool=>false
 | .str=>([]:ao)
 | .slice _=>[]
 | .arr n e=>List.replicate n e.zero
 | .pair a b=>(a.zero,b.zero)
 | .unit=>()
 | .alt _ _ r=>.inr r.zero
 | .za=>()
def aj{α:Type}(c:Bool)(x y:α):α:=bif c then x else y
def ae{α a:Type}(o:Option α)(f:α->Option a):Option a:=o.bind f
def nt(b:Bool):Bool:=!b
def an(a b:Bool):Bool:=a&&b
def YG(a b:Bool):Bool:=a||b
def aZ(a b:Int):Bool:=decide (a=b)
def du(a b:Nat):Bool:=Nat.beq a b
def ba(a b:Int):Bool:=decide (a<b)
def da(a b:Int):Bool:=decide (a<=b)
def bw(a b:ao):Bool:=decide (a=b)
def gf(a b:ao):Bool:=Op.bytesLess a b
def eqL(a b:List Int):Bool:=decide (a=b)
def WD(a b:Bool):Bool:=a==b
def dK{S:Type}(o:Option (S⊕(Nat×S))):Option (S⊕S):=o.map λr=>match r with|.inl x=>.inl x|.inr y=>.inr y.2
def aB(k:IntKind)(a b:Int):Int:=k.wrap (a+b)
def cd(k:IntKind)(a b:Int):Int:=k.wrap (a-b)
def ik(k:IntKind)(a b:Int):Int:=k.wrap (a*b)
def GO(k:IntKind)(a b:Int):Int:=k.wrap (a.tdiv b)
def iR(a b:Int):Int:=a.tmod b
def ka(k:IntKind)(a:Int):Int:=k.wrap a
def mL(k:IntKind)(x y:Int):Int:=k.wrap (BitVec.ofInt k.bits x &&& BitVec.ofInt k.bits y).toNat
def vd(k:IntKind)(x y:Int):Int:=k.wrap (BitVec.ofInt k.bits x ||| BitVec.ofInt k.bits y).toNat
def fV(k:IntKind)(x y:Int):Int:=k.wrap (BitVec.ofInt k.bits x ^^^ BitVec.ofInt k.bits y).toNat
def adh(k:IntKind)(x y:Int):Int:=k.wrap (BitVec.ofInt k.bits x &&& ~~~BitVec.ofInt k.bits y).toNat
def adB(a b:Int):Int:=bif decide (b<a) then b else a
def imax(a b:Int):Int:=bif decide (a<b) then b else a
def kb(k:IntKind)(a b:Int):Int:=k.wrap (a*2 ^ (min b.toNat k.bits))
def pd(k:IntKind)(a b:Int):Int:=a.fdiv (2 ^ (min b.toNat k.bits))
def plus(a b:Int):Int:=a+b
def minus(a b:Int):Int:=a-b
def len{α:Type}(l:List α):Int:=l.length
def app{α:Type}(l m:List α):List α:=l++m
def one{α:Type}(x:α):List α:=[x]
def idx{α:Type}(l:List α)(i:Int):Option α:=if 0<=i then l[i.toNat]? else none
def nF{α:Type}(l:List α)(i:Int)(x:α):List α:=l.set i.toNat x
def gK{a:Type}(n:Int)(x:a):List a:=List.replicate n.toNat x
def sub{α:Type}(l:List α)(a n:Int):List α:=(l.drop a.toNat).take n.toNat
def jj{α:Type}(l:List α)(n:Int):List α:=l.take n.toNat
def over{α:Type}(l:List α)(a:Int)(c:List α):List α:=l.take a.toNat++c++l.drop (a.toNat+c.length)
def pick{d e c:Type}(f:d->c)(g:e->c)(x:d⊕e):c:=match x with|.inl a=>f a|.inr b=>g b
def u8(b:UInt8):Int:=(b.toNat:Int)
def av(s:ao):List Int:=s.map λb=>(b.toNat:Int)
def aY(l:List Int):ao:=l.map λn=>UInt8.ofNat n.toNat
def fits(n:Int):Bool:=decide (n<=4294967296)
def inside(a b n:Int):Bool:=decide (0<=a)&&decide (a<=b)&&decide (b<=n)
def within(i n:Int):Bool:=decide (0<=i)&&decide (i<n)
inductive Tree (α:Type):Type 1 where
 | ret (a:α)
 | fail
 | node (c:Bool) (t e:Tree α)
 | look {T:Type} (o:Option T) (k:T->Tree α)
namespace Tree
def bind{α b:Type}:Tree α->(α->Tree b)->Tree b
 | .ret a,f=>f a
 | .fail,_=>.fail
 | .node c t e,f=>.node c (t.bind f) (e.bind f)
 | .look o k,f=>.look o λx=>(k x).bind f
def run{α:Type}:Tree α->Option α
 | .ret a=>some a
 | .fail=>none
 | .node c t e=>aj c t.run e.run
 | .look o k=>ae o λx=>(k x).run
def join{T a:Type}(t:Tree T)(k:T->Tree a):Tree a :=
 match t with
 | .ret x=>k x
 | .node c (.ret x) (.ret y)=>k (aj c x y)
 | t=>.look t.run k
def need{α:Type}(c:Bool)(t:Tree α):Tree α:=.node c t .fail
def Zm{b:Type}:Option b->Tree b
 | some a=>.ret a
 | none=>.fail
end Tree
inductive BV where
 | fW (k off:Nat)
 | idx (i:Int) (size:Nat)
inductive aL where
 | undef
 | data (t:Ty) (x:t.den)
 | oq
 | dM
 | sf
 | vj (b aM:Nat)
 | cell (t:Ty) (x:t.den)
 | ptr (b aM:Nat) (p:List BV)
 | whole (b aM:Nat)
 | part (b aM:Nat) (lo n:Int)
 | win (b aM:Nat) (q:List BV) (e:Ty) (k:Nat) (lo n:Int)
 | fn (f:Nat) (aeP:List (Nat×Nat))
 | mix (a b:aL)
 | yC (vs:aL)
 | nl
structure bB where
 val:aL
 tid:TypeId
 buf:Bool
 ro:Bool
 lk:Bool
 aM:Nat
structure St where
 slots:Nat->aL
 mem:Nat->Option bB
structure xC where
 A:Ty
 R:Ty
 spec:A.den->Option R.den
inductive OT where
 | zf (t:Ty)
 | buf (e:Ty) (WE:Nat)
 | ref (tid:Nat) (o:OT)
 | pair (a b:OT)
 | unit
 | dM
def OT.den:OT->Type
 | .zf t=>t.den
 | .buf e _=>List e.den
 | .ref _ o=>o.den
 | .pair a b=>a.den×b.den
 | .unit=>ah
 | .dM=>ah
def OT.nr:OT->Nat
 | .ref _ o=>o.nr+1
 | .pair a b=>a.nr+b.nr
 | _=>0
def OT.nb:OT->Nat
 | .buf ..=>1
 | .ref _ o=>o.nb
 | .pair a b=>a.nb+b.nb
 | _=>0
structure wO where
 ps:List Bool
 A:Ty
 U:OT
 R:Ty
 spec:A.den×U.den->Option (R.den×U.den)
inductive nG where
 | zf (t:Ty)
 | buf (e:Ty) (WE:Nat)
 | one
 | self
inductive WG where
 | chk (T:Nat)
 | str (T E:Nat)
 | clone (e:Ty)
 | own (e A:Ty) (res:Bool) (spec:List e.den->A.den->Option (List e.den))
 | CO (g:Nat)
structure Ctx where
 T:List (Nat×Ty)
 rb:List Nat
 lu:List Nat
 fns:List (Nat×Func)
 YH:List (Nat×xC)
 Om:List (Nat×wO)
 sS:List (Nat×List nG)
 Ll:List (Nat×WG)
 VC:List (Nat×Nat)
 inv:List (String×xC)
def QB{b:Type}:List (String×b)->String->Option b
 | [],_=>none
 | (i,a)::r,k=>bif decide (i=k) then some a else QB r k
def find{α:Type}:List (Nat×α)->Nat->Option α
 | [],_=>none
 | (i,a)::r,k=>bif Nat.beq i k then some a else find r k
def St.put(a:St)(d:Nat)(v:aL):St:={ a with slots:=λt=>bif Nat.beq t d then v else a.slots t }
def St.aW(a:St)(d:Option Nat)(v:aL):St:=match d with|some d=>a.put d v|none=>a
def St.b4(a:St)(b:Nat)(x:bB):St:={ a with mem:=λi=>bif Nat.beq i b then some x else a.mem i }
def St.aQ{c:Type}(a:St)(b:Nat)(val:aL)(tid:TypeId)(buf:Bool)(k:Nat->St->Tree c):Tree c :=
 match a.mem b with
 | some bx=>bif bx.lk then .fail else k (bx.aM+1) (a.b4 b { val,tid,buf,ro:=false,lk:=false,aM:=bx.aM+1 })
 | none=>k 0 (a.b4 b { val,tid,buf,ro:=false,lk:=false,aM:=0 })
def cI:List Nat->Nat->Bool
 | [],_=>false
 | i::r,t=>Nat.beq t i||cI r t
def QC(f:Nat):Nat:=bif Nat.blt f 10000000 then f else f % 10000000
def Zn(f:Nat)(a b:List aL):List aL:=bif Nat.blt f 10000000 then a++b else b++a
def wP(f:Nat)(a:Array Value):Value:=bif Nat.blt f 10000000 then .func (.func f) #[] a else .func (.func<|f % 10000000) a #[]
def Iz:Value->aL
 | .int k n=>bif decide (k.min<=n)&&decide (n<=k.max) then .data (.int k) n else .undef
 | .bool b=>.data .bool b
 | .string s=>bif Nat.ble s.data.toList.length 4294967296 then .data .str s.data.toList else .undef
 | .pointer none=>.dM
 | .nilIface=>.sf
 | .slice none 0 0=>.oq
 | _=>.undef
def cu(a:St):Operand->aL
 | .tmp t=>a.slots t
 | .const v=>Iz v
 | .func f=>bif Nat.blt f 10000000 then .fn f [] else .undef
 | .global _=>.undef
def jJ:Ty->Nat->Option Nat
 | .pair _ _,0=>some 0
 | .pair a b,k+1=>(jJ b k).map (a.size+·)
 | _,_=>none
def cV:aL->Nat
 | .data t _=>t.size
 | .mix a b=>cV a+cV b
 | .nl=>0
 | _=>1
def pe:(t:Ty)->t.den->Nat->Option (Nat×aL)
 | .pair a _,x,0=>some (0,.data a x.1)
 | .pair a b,x,k+1=>match pe b x.2 k with|some r=>some (a.size+r.1,r.2)|none=>none
 | _,_,_=>none
def mM:aL->Nat->Option (Nat×aL)
 | .data t x,k=>pe t x k
 | .mix a _,0=>some (0,a)
 | .mix a b,k+1=>match mM b k with|some r=>some (cV a+r.1,r.2)|none=>none
 | _,_=>none
def toD(t:Ty):aL->Option t.den
 | .data u x=>Ty.to u t x
 | .oq=>match t with|.slice _=>some []|_=>none
 | _=>none
def toS(t:Ty):aL->Option t.den
 | .data u x=>Ty.to u t x
 | _=>none
def HQ:(t:Ty)->t.den->Nat->(aL->Tree aL)->Tree t.den
 | .pair a b,x,0,f=>(f<|.data a x.1).bind λv=>match toS a v with
   | some y=>.ret (y,x.2)
   | none=>.fail
 | .pair a b,x,k+1,f=>(HQ b x.2 k f).bind λy=>.ret (x.1,y)
 | _,_,_,_=>.fail
def EI:aL->Nat->(aL->Tree aL)->Tree aL
 | .data t x,k,f=>(HQ t x k f).bind λy=>.ret (.data t y)
 | .mix a b,0,f=>(f a).bind λv=>.ret (.mix v b)
 | .mix a b,k+1,f=>(EI b k f).bind λv=>.ret (.mix a v)
 | _,_,_=>.fail
def WH:List BV->aL->Tree aL
 | [],v=>.ret v
 | .fW k off::p,v=>match mM v k with
   | some (o,u)=>bif Nat.beq o off then WH p u else .fail
   | none=>.fail
 | .idx i size::p,v=>match v with
   | .data (.arr _ e) l=>bif Nat.beq size e.size then .look (idx (α:=e.den) l i) λx=>WH p (.data e x) else .fail
   | _=>.fail
def WI(a:Bool)(p:List BV)(v:aL):Tree aL :=
 match a with
 | false=>WH p v
 | true=>match p,v with
   | .idx i size::p,.data (.slice e) l=>bif Nat.beq size e.size then .look (idx (α:=e.den) l i) λx=>WH p (.data e x) else .fail
   | _,_=>.fail
def vY:List BV->aL->aL->Tree aL
 | [],_,u=>.ret u
 | .fW k off::p,v,u=>EI v k λw=>vY p w u
 | .idx i size::p,v,u=>match v with
   | .data (.arr n e) l=>.look (idx (α:=e.den) l i) λx=>(vY p (.data e x) u).bind λw=>match toS e w with
     | some y=>.ret (.data (.arr n e)<|nF (α:=e.den) l i y)
     | none=>.fail
   | _=>.fail
def HR(a:Bool)(p:List BV)(v u:aL):Tree aL :=
 match a with
 | false=>vY p v u
 | true=>match p,v with
   | .idx i size::p,.data (.slice e) l=>.look (idx (α:=e.den) l i) λx=>(vY p (.data e x) u).bind λw=>match toS e w with
     | some y=>.ret (.data (.slice e)<|nF (α:=e.den) l i y)
     | none=>.fail
   | _,_=>.fail
namespace Tree
theorem run_bind{α g:Type}(t:Tree α)(f:α->Tree g):(t.bind f).run=t.run.bind λa=>(f a).run:=by
 induction t with
 | ret a=>rfl
 | fail=>rfl
 | node c t e b d=>cases c<;>simp[bind,run,b,d,aj]
 | look o k h=>cases o<;>simp[bind,run,h,ae]
theorem zi{T b:Type}(t:Tree T)(k:T->Tree b):(t.join k).run=t.run.bind λa=>(k a).run:=by
 unfold join;split
 .rfl
 .rename_i c x y;cases c<;>rfl
 .rfl
end Tree
def uf:Ty->Nat->Option Ty
 | .pair a _,0=>some a
 | .pair _ b,k+1=>uf b k
 | _,_=>none
def Ty.flat:Ty->Bool
 | .slice _=>false
 | .arr _ e=>e.flat
 | .pair a b=>a.flat&&b.flat
 | .alt _ a r=>a.flat&&r.flat
 | _=>true
def bB.row(bx:bB):Option (Ty×Nat) :=
 match bx.buf,bx.val with
 | true,.data (.slice e) l=>some (e,List.length (α:=e.den) l)
 | false,.data (.arr n e) _=>some (e,n)
 | _,_=>none
def gq(e:Ty)(c:St):aL->Option (List e.den)
 | .data (.slice u) l=>toL u e l
 | .oq=>some []
 | .whole b aM=>match c.mem b with
   | some a=>bif Nat.beq a.aM aM&&a.buf then(match a.val with|.data (.slice u) l=>toL u e l|_=>none) else none
   | none=>none
 | .part b aM lo n=>match c.mem b with
   | some a=>bif Nat.beq a.aM aM then(match a.buf,a.val with
     | true,.data (.slice u) l=>toL u e (sub (α:=u.den) l lo n)
     | false,.data (.arr _ u) l=>toL u e (sub (α:=u.den) l lo n)
     | _,_=>none) else none
   | none=>none
 | _=>none
def live(c:St)(b a:Nat):Bool:=match c.mem b with|some d=>Nat.beq d.aM a|none=>false
def qK(c:St):(t:Ty)->aL->Option t.den
 | .slice e,v=>(gq e c v:Option (List e.den))
 | .pair a b,v=>match v with
   | .data u x=>Ty.to u (.pair a b) x
   | .mix p q=>(match qK c a p,qK c b q with
     | some x,some y=>some (x,y)
     | _,_=>none)
   | _=>none
 | .alt n a r,v=>match v with
   | .data u x=>Ty.to u (.alt n a r) x
   | .sf=>match qK c r .sf with
     | some x=>some (.inr x)
     | none=>none
   | _=>none
 | .za,v=>match v with
   | .data u x=>Ty.to u .za x
   | .sf=>some ()
   | _=>none
 | t,v=>match v with
   | .data u x=>Ty.to u t x
   | _=>none
def freeze(a:St)(b:Nat):Option St :=
 match a.mem b with
 | some c=>bif c.ro then some a else bif c.lk then none else some (a.b4 b { c with ro:=true })
 | none=>none
def gL(a:St):aL->Option St
 | .whole b _=>freeze a b
 | .part b _ _ _=>freeze a b
 | .mix v w=>match gL a v with
   | some a=>gL a w
   | none=>none
 | _=>some a
def wQ(a:St)(t:Ty)(v:aL):Option (t.den×St) :=
 match v with
 | .data u x=>match Ty.to u t x with|some y=>some (y,a)|none=>none
 | v=>match qK a t v,gL a v with
   | some x,some a=>some (x,a)
   | _,_=>none
def iI(σ:St):(A:Ty)->List aL->Option A.den
 | .unit,[]=>some ()
 | .pair t r,v::vs=>match qK σ t v,iI σ r vs with
   | some x,some y=>some (x,y)
   | _,_=>none
 | _,_=>none
def kS(a:St):(A:Ty)->List aL->Option (A.den×St)
 | .unit,[]=>some ((),a)
 | .pair t r,v::vs=>match wQ a t v with
   | some (x,a)=>match kS a r vs with
     | some (y,a)=>some ((x,y),a)
     | none=>none
   | none=>none
 | _,_=>none
def zj:(R:Ty)->R.den->aL
 | .pair t r,x=>.mix (.data t x.1) (zj r x.2)
 | _,_=>.nl
def ug(R:Ty)(x:R.den):aL :=
 match R,x with
 | .pair t .unit,x=>.data t x.1
 | R,x=>.yC (zj R x)
def nth:aL->Nat->Option aL
 | .mix a _,0=>some a
 | .mix _ b,k+1=>nth b k
 | _,_=>none
def bitsOf(a:BinOp)(k:IntKind)(x y:Int):Option Int :=
 match a with
 | .and=>some (mL k x y)
 | .or=>some (vd k x y)
 | .xor=>some (fV k x y)
 | .andNot=>some (adh k x y)
 | _=>none
def Ty.eqv:(t:Ty)->t.den->t.den->Option Bool
 | .int _,x,y=>some (aZ x y)
 | .bool,x,y=>some (WD x y)
 | .str,x,y=>some (bw x y)
 | .pair a b,x,y=>match Ty.eqv a x.1 y.1,Ty.eqv b x.2 y.2 with
   | some p,some q=>some (an p q)
   | _,_=>none
 | .unit,_,_=>some true
 | .arr _ e,x,y=>match e,x,y with
   | .int _,x,y=>some (eqL x y)
   | _,_,_=>none
 | _,_,_=>none
def Ty.CP:Ty->Nat
 | .pair a b=>a.CP+b.CP+1
 | .arr _ e=>e.CP+1
 | _=>1
def Tj(d:BinOp)(k:IntKind)(a b:Int):Tree aL :=
 match d with
 | .add=>.ret (.data (.int k)<|aB k a b)
 | .sub=>.ret (.data (.int k)<|cd k a b)
 | .mul=>.ret (.data (.int k)<|ik k a b)
 | .quo=>.node (aZ b 0) .fail (.ret<|.data (.int k)<|GO k a b)
 | .rem=>.node (aZ b 0) .fail (.ret<|.data (.int k)<|iR a b)
 | .eql=>.ret (.data .bool<|aZ a b)
 | .neq=>.ret (.data .bool<|nt<|aZ a b)
 | .lss=>.ret (.data .bool<|ba a b)
 | .leq=>.ret (.data .bool<|da a b)
 | .gtr=>.ret (.data .bool<|ba b a)
 | .geq=>.ret (.data .bool<|da b a)
 | d=>match bitsOf d k a b with
   | some c=>.ret (.data (.int k) c)
   | none=>.fail
def Tk(a:BinOp)(x y:ao):Tree aL :=
 match a with
 | .add=>.need (fits<|plus (len x)<|len y) (.ret<|.data .str<|app x y)
 | .eql=>.ret (.data .bool<|bw x y)
 | .neq=>.ret (.data .bool<|nt<|bw x y)
 | .lss=>.ret (.data .bool<|gf x y)
 | .leq=>.ret (.data .bool<|YG (gf x y)<|bw x y)
 | .gtr=>.ret (.data .bool<|nt<|YG (gf x y)<|bw x y)
 | .geq=>.ret (.data .bool<|nt<|gf x y)
 | _=>.fail
def isEq:BinOp->Option Bool
 | .eql=>some true
 | .neq=>some false
 | _=>none
def CQ:BinOp->Option Bool
 | .shl=>some true
 | .shr=>some false
 | _=>none
def EJ(o:Option Ty)(t:Ty):Bool:=match o with|some u=>Ty.beq u t|none=>false
def bin(f:Option Ty)(g:Bool)(d:BinOp)(x y:aL):Tree aL :=
 match x,y with
 | .data (.int k) a,.data (.int h) b =>
   match CQ d with
   | some left=>.node (ba b 0) .fail (.ret<|.data (.int k)<|bif left then kb k a b else pd k a b)
   | none=>bif Nat.beq (yB k) (yB h) then Tj d k a b else .fail
 | .data .str a,.data .str b=>Tk d a b
 | .data .bool a,.data .bool b=>bif EJ f .bool then(match isEq d with
   | some true=>.ret (.data .bool<|WD a b)
   | some false=>.ret (.data .bool<|nt<|WD a b)
   | none=>.fail) else .fail
 | .data (.pair a b) x,.data t y=>bif EJ f (.pair a b)&&Nat.ble (Ty.pair a b).CP 9000 then(match Ty.to t (.pair a b) y,isEq d with
   | some y,some e=>match Ty.eqv (.pair a b) x y with
     | some c=>.ret (.data .bool<|bif e then c else nt c)
     | none=>.fail
   | _,_=>.fail) else .fail
 | .data (.arr n e) x,.data t y=>bif EJ f (.arr n e)&&Nat.ble (Ty.arr n e).CP 9000 then(match Ty.to t (.arr n e) y,isEq d with
   | some y,some q=>match Ty.eqv (.arr n e) x y with
     | some c=>.ret (.data .bool<|bif q then c else nt c)
     | none=>.fail
   | _,_=>.fail) else .fail
 | .dM,.dM=>match g,isEq d with|true,some e=>.ret (.data .bool e)|_,_=>.fail
 | _,_=>.fail
def Zo(d:St)(f:Option Ty)(a:Bool)(c:BinOp)(x y:aL):Tree aL :=
 match x,y with
 | .ptr b aM _,.dM=>bif live d b aM&&a then(match isEq c with|some e=>.ret (.data .bool<|!e)|none=>.fail) else .fail
 | .dM,.ptr b aM _=>bif live d b aM&&a then(match isEq c with|some e=>.ret (.data .bool<|!e)|none=>.fail) else .fail
 | x,y=>bin f a c x y
def On(c:Bool)(x y:aL):Tree aL :=
 match x,y with
 | .data (.int k) a,.data (.int d) b=>bif Nat.beq (yB k) (yB d) then .ret (.data (.int k)<|bif c then adB a b else imax a b) else .fail
 | _,_=>.fail
def un(a:UnOp)(x:aL):Tree aL :=
 match a,x with
 | .not,.data .bool b=>.ret (.data .bool<|nt b)
 | .neg,.data (.int k) n=>.ret (.data (.int k)<|cd k 0 n)
 | .xor,.data (.int k) n=>.ret (.data (.int k)<|fV k (bif k.signed then -1 else k.max) n)
 | _,_=>.fail
def IA:(t:Ty)->t.den->Nat->(u:Ty)->u.den->Option t.den
 | .pair a b,x,0,u,y=>match Ty.to u a y with|some y=>some (y,x.2)|none=>none
 | .pair a b,x,k+1,u,y=>match IA b x.2 k u y with|some z=>some (x.1,z)|none=>none
 | _,_,_,_,_=>none
def gr(a:St)(t:Ty)(x:t.den):List (Nat×Operand)->Option (t.den×St)
 | []=>some (x,a)
 | (k,o)::r=>match uf t k with
   | some u=>match wQ a u (cu a o) with
     | some (y,a)=>match IA t x k u y with
       | some x=>gr a t x r
       | none=>none
     | none=>none
   | none=>none
def fm(a:St)(e:Ty)(l:List e.den):List (Nat×Operand)->Option (List e.den×St)
 | []=>some (l,a)
 | (k,o)::r=>match wQ a e (cu a o) with
   | some (y,a)=>bif Nat.blt k l.length then fm a e (l.set k y) r else none
   | none=>none
def lenOf(c:St):aL->Option Int
 | .data .str s=>some (len (α:=UInt8) s)
 | .data (.slice e) l=>some (len (α:=e.den) l)
 | .data (.arr n _) _=>bif Nat.ble n 4294967296 then some n else none
 | .oq=>some 0
 | .whole b aM=>match c.mem b with
   | some a=>bif Nat.beq a.aM aM&&a.buf then(match a.val with|.data (.slice u) l=>some (len (α:=u.den) l)|_=>none) else none
   | none=>none
 | .part b aM _ n=>bif live c b aM then some n else none
 | _=>none
def VD(o:Option Ty):aL->Bool
 | .data .str _=>EJ o .str
 | .data (.slice e) _=>EJ o (.slice e)
 | .data (.arr n e) _=>EJ o (.arr n e)
 | .oq|.whole ..|.part ..=>match o with|some (.slice _)=>true|_=>false
 | _=>false
def bounds(c:St)(n:Int)(d e:Option Operand):Option (Int×Int) :=
 match d,e with
 | none,none=>some (0,n)
 | some a,none=>match cu c a with|.data (.int _) x=>some (x,n)|_=>none
 | none,some b=>match cu c b with|.data (.int _) y=>some (0,y)|_=>none
 | some a,some b=>match cu c a,cu c b with|.data (.int _) x,.data (.int _) y=>some (x,y)|_,_=>none
def isRef:aL->Bool
 | .ptr ..|.whole ..|.part ..|.fn ..|.dM|.sf|.vj ..|.mix ..|.cell ..|.oq=>true
 | _=>false
section
variable (cx:Ctx) (nb:Nat) (bf:List Nat) (inl:Nat->List aL->St->Tree (aL×St))
def jK(d:Option Nat)(c:TypeId)(v:aL)(a:St):Tree St :=
 match v with
 | .undef=>bif cI cx.rb c then .ret (a.aW d .undef) else .fail
 | .oq=>match d,find cx.T c with
   | some d,some (.slice e)=>bif cI bf d then a.aQ (nb+d) (.data (.slice e) []) 0 true λb a=>.ret (a.put d<|.whole (nb+d) b)
     else .ret (a.put d<|.data (.slice e) [])
   | _,_=>.ret (a.aW d .oq)
 | v=>.ret (a.aW d v)
def ou(d:Option Nat)(c a b:aL)(e:St):Tree St :=
 match c with
 | .data .bool c=>match a,b with
   | .data t x,.data u y=>match Ty.to u t y with
     | some y=>.ret (e.aW d<|.data t<|aj c x y)
     | none=>.fail
   | a,b=>.node c (.ret<|e.aW d a) (.ret<|e.aW d b)
 | _=>.fail
def Zp:(t:Ty)->t.den->aL
 | .pair a b,x=>.mix (.data a x.1) (Zp b x.2)
 | t,x=>.data t x
def Zq:aL->aL
 | .data t x=>Zp t x
 | v=>v
def WJ:Ty->aL->Bool
 | .slice _,.whole ..=>true
 | t,.data u _=>Ty.beq u t
 | _,_=>false
def QD:Ty->aL->Bool
 | .pair a b,.mix p q=>WJ a p&&QD b q
 | t,.data u _=>Ty.beq u t
 | _,_=>false
def Zr(u:Ty):aL->Bool
 | .whole b aM=>WJ u (.whole b aM)
 | .mix p q=>QD u (.mix p q)
 | _=>false
def Zs:aL->Bool
 | .data (.pair _ _) _=>true
 | .mix ..=>true
 | _=>false
def xG(a:TypeId):aL->Bool
 | .mix p q=>match find cx.T a with|some u=>QD u (.mix p q)|none=>false
 | _=>false
def vZ(a:TypeId):aL->Bool
 | .data u _=>EJ (find cx.T a) u
 | .whole ..=>match find cx.T a with|some (.slice _)=>true|_=>false
 | .ptr ..|.dM|.fn ..=>cI cx.rb a
 | _=>false
def lv(d:Option Nat)(c:TypeId)(a:aL)(e:St):Tree St :=
 match a with
 | .cell u x=>bif EJ (find cx.T c) u then .ret (e.aW d<|.data u x) else .fail
 | .ptr b aM p=>match e.mem b with
   | some f=>bif Nat.beq f.aM aM then(WI f.buf p f.val).bind λv=>bif vZ cx c v||xG cx c v then .ret (e.aW d v) else .fail else .fail
   | none=>.fail
 | _=>.fail
def storeAt(b a:Nat)(p:List BV)(d:aL->Bool)(v:aL)(f:St):Tree St :=
 match f.mem b with
 | some bx=>bif Nat.beq bx.aM a&&!bx.lk&&!bx.ro then
    (WI bx.buf p bx.val).bind λe=>bif d e then(HR bx.buf p bx.val v).bind λc=>.ret (f.b4 b { bx with val:=c }) else .fail
   else .fail
 | none=>.fail
def rA(b a:Nat)(p:List BV)(n:Nat)(v:aL)(e:St):Tree St :=
 match e.mem b with
 | some bx=>bif Nat.beq bx.aM a&&!bx.lk&&!bx.ro&&!bx.buf&&Zs bx.val then
    (WH p<|Zq bx.val).bind λd=>bif Nat.beq (cV d) n then(vY p (Zq bx.val) v).bind λc=>bif Zs c then .ret (e.b4 b { bx with val:=c }) else .fail else .fail
   else .fail
 | none=>.fail
def WK(u:Ty):aL->Bool
 | .data t _=>Ty.beq t u
 | _=>false
def VE:aL->Bool
 | .undef=>true
 | _=>false
def lS(e:TypeId)(a v:aL)(d:St):Tree St :=
 match a with
 | .ptr b aM p=>match d.mem b with
   | some f=>bif Nat.beq f.aM aM then(WI f.buf p f.val).bind λc=>match c with
      | .data u _=>bif EJ (find cx.T e) u then(bif cI bf 8000000&&Zr u v then rA b aM p u.size v d else match wQ d u v with
       | some (y,d)=>storeAt b aM p (WK u) (.data u y) d
       | none=>.fail) else .fail
      | _=>bif vZ cx e v&&isRef v then storeAt b aM p (λc=>(vZ cx e c&&isRef c)||VE c) v d else .fail
     else .fail
   | none=>.fail
 | _=>.fail
def lT(d:Option Nat)(j:TypeId)(x:aL)(h i:Option Operand)(f:St):Tree St :=
 match find cx.T j,x with
 | some .str,.data .str s=>match bounds f (len (α:=UInt8) s) h i with
   | some (a,b)=>.need (inside a b<|len (α:=UInt8) s) (.ret<|f.aW d<|.data .str<|sub (α:=UInt8) s a<|minus b a)
   | none=>.fail
 | some (.slice u),.data (.slice e) l=>bif Ty.beq u e then(match bounds f (len (α:=e.den) l) h i with
   | some (a,b)=>.need (inside a b<|len (α:=e.den) l) (.ret<|f.aW d<|.data (.slice e)<|sub (α:=e.den) l a<|minus b a)
   | none=>.fail) else .fail
 | some (.slice u),.part c aM l n=>match f.mem c with
   | some g=>bif Nat.beq g.aM aM&&(match g.row with|some (e,_)=>Ty.beq u e|none=>false) then(match bounds f n h i with
     | some (a,b)=>.need (inside a b n) (.ret<|f.aW d<|.part c aM (plus l a)<|minus b a)
     | none=>.fail) else .fail
   | none=>.fail
 | some (.slice u),.whole c aM=>match f.mem c with
   | some g=>bif Nat.beq g.aM aM&&g.buf then(match g.val with
     | .data (.slice e) l=>bif Ty.beq u e then(match h,i with
       | none,none=>.ret (f.aW d<|.whole c aM)
       | h,i=>match bounds f (len (α:=e.den) l) h i with
         | some (a,b)=>.need (inside a b<|len (α:=e.den) l) (.ret<|f.aW d<|.part c aM a<|minus b a)
         | none=>.fail) else .fail
     | _=>.fail) else .fail
   | none=>.fail
 | some (.arr m u),.ptr c aM (s::q)=>bif live f c aM&&Nat.ble m 4294967296 then(match bounds f m h i with
   | some (a,b)=>.need (inside a b m) (.ret<|f.aW d<|.win c aM (s::q) u m a<|minus b a)
   | none=>.fail) else .fail
 | some (.arr m u),.ptr c aM []=>match f.mem c with
   | some g=>bif Nat.beq g.aM aM&&!g.buf then(match g.val with
     | .data (.arr n e) _=>bif Nat.beq m n&&Ty.beq u e&&Nat.ble n 4294967296 then(match bounds f n h i with
       | some (a,b)=>.need (inside a b n) (.ret<|f.aW d<|.part c aM a<|minus b a)
       | none=>.fail) else .fail
     | _=>.fail) else .fail
   | none=>.fail
 | _,_=>.fail
def xH(d:St)(b a:Nat):Option (Ty×Int):=match d.mem b with
 | some c=>bif Nat.beq c.aM a then(match c.buf,c.val with
   | true,.data (.slice e) l=>some (e,len (α:=e.den) l)
   | false,.data (.arr n e) _=>some (e,n)
   | _,_=>none) else none
 | none=>none
def M5(a:TypeId):Option Nat :=
 match find cx.T a with
 | some _=>none
 | none=>match find cx.VC a with
   | some e=>bif cI cx.rb e then some e else none
   | none=>none
def IB(d:Option Nat)(b a:Nat)(c:St)(i:Int):Nat->Nat->Tree St
 | 0,_=>.fail
 | m+1,k=>.node (aZ i k) (.ret<|c.aW d<|.ptr b a [.fW k k]) (IB d b a c i m<|k+1)
def HS:List BV->Bool
 | [.fW _ off]=>Nat.beq off 0
 | _=>false
def eo(d:Option Nat)(c:TypeId)(x:aL)(i:Int)(a:St):Tree St :=
 match find cx.T c,x with
 | some (.slice u),.data (.slice e) l=>bif Ty.beq u e then .look (idx (l:List e.den) i) λy=>.ret (a.aW d<|.cell e y) else .fail
 | some (.arr m u),.cell (.arr n e) l=>bif Ty.beq u e&&Nat.beq m n then .look (idx (l:List e.den) i) λy=>.ret (a.aW d<|.cell e y) else .fail
 | some (.slice u),.whole b aM=>match xH a b aM with
   | some (e,n)=>bif Ty.beq u e then .need (within i n) (.ret<|a.aW d<|.ptr b aM [.idx i e.size]) else .fail
   | none=>.fail
 | some (.slice u),.part b aM lo n=>match xH a b aM with
   | some (e,_)=>bif Ty.beq u e then .need (within i n) (.ret<|a.aW d<|.ptr b aM [.idx (plus lo i) e.size]) else .fail
   | none=>.fail
 | some (.arr m u),.ptr b aM p=>bif live a b aM then .need (within i m) (.ret<|a.aW d<|.ptr b aM<|p++[.idx i u.size]) else .fail
 | none,.win b aM q _ _ lo n=>match M5 cx c with
   | some _=>bif HS q&&decide (lo=0)&&live a b aM then IB d b aM a i n.toNat 0 else .fail
   | none=>.fail
 | _,_=>.fail
def lU(d:Option Nat)(c:TypeId)(x:aL)(i:Int)(a:St):Tree St :=
 match x,M5 cx c with
 | .win b aM q _ _ lo n,some _=>bif HS q&&decide (lo=0)&&live a b aM then(match i with
  | .ofNat k=>bif decide ((k:Int)<n) then .ret (a.aW d<|.ptr b aM [.fW k k]) else .fail
  | .negSucc _=>.fail) else .fail
 | x,_=>eo cx d c x i a
def lV(d:Option Nat)(c:TypeId)(x:aL)(i:Int)(a:St):Tree St :=
 match find cx.T c,x with
 | some .str,.data .str s=>.look (idx (s:ao) i) λb=>.ret (a.aW d<|.data (.int .u8)<|u8 b)
 | some (.arr m u),.data (.arr n e) l=>bif Ty.beq u e&&Nat.beq m n then .look (idx (l:List e.den) i) λy=>.ret (a.aW d<|.data e y) else .fail
 | _,_=>.fail
def nG.size:nG->Nat
 | .zf t=>t.size
 | _=>1
def xI:List nG->Nat->Option Nat
 | [],_=>none
 | _::_,0=>some 0
 | f::r,k+1=>match xI r k with|some o=>some (f.size+o)|none=>none
def eT(d:Option Nat)(s:TypeId)(x:aL)(k:Nat)(a:St):Tree St :=
 match x with
 | .cell u y=>bif EJ (find cx.T s) u then(match mM (.data u y) k with
   | some (_,.data t z)=>.ret (a.aW d<|.cell t z)
   | _=>.fail) else .fail
 | .ptr b aM p=>bif live a b aM then(match find cx.T s with
   | some t=>match jJ t k,uf t k with
     | some off,some _=>.ret (a.aW d<|.ptr b aM<|p++[.fW k off])
     | _,_=>.fail
   | none=>match find cx.sS s with
     | some c=>match xI c k with
       | some off=>.ret (a.aW d<|.ptr b aM<|p++[.fW k off])
       | none=>.fail
     | none=>.fail) else .fail
 | _=>.fail
def gW(d:Option Nat)(b dst:TypeId)(x:aL)(a:St):Tree St :=
 match find cx.T b,find cx.T dst,x with
 | some (.int _),some (.int k),.data (.int _) n=>.ret (a.aW d<|.data (.int k)<|ka k n)
 | some .str,some .str,.data .str s=>.ret (a.aW d<|.data .str s)
 | some .str,some (.slice<|.int .u8),.data .str s=>match d with
   | some d=>.need (fits<|len (α:=UInt8) s) (a.aQ (nb+d) (.data (.slice<|.int .u8)<|av s) 0 true λc a=>.ret (a.put d<|.whole (nb+d) c))
   | none=>.fail
 | some (.slice<|.int .u8),some .str,x=>match gq (.int .u8) a x with
   | some l=>.ret (a.aW d<|.data .str<|aY l)
   | none=>.fail
 | _,_,_=>.fail
def uh(e:Ty)(a:St)(x:aL):Option (List e.den):=match x with
 | .data .str t=>toL (.int .u8) e (av t)
 | x=>gq e a x
def adD(a t:Nat):Bool:=Nat.beq t 0||(match find cx.VC a with|some e=>Nat.beq e t|none=>false)
def iq(d:Option Nat)(ty:TypeId)(s x:aL)(a:St):Tree St :=
 match d,find cx.T ty with
 | some d,some (.slice e) =>
   match uh e a x with
   | some m=>match s with
     | .oq=>.need (fits<|len (α:=e.den) m) (a.aQ (nb+d) (.data (.slice e) m) 0 true λaM a=>.ret (a.put d<|.whole (nb+d) aM))
     | .whole b aM=>match a.mem b,gq e a (.whole b aM) with
       | some c,some l=>bif c.lk||!adD cx ty c.tid then .fail else
         .need (fits<|plus (len (α:=e.den) l)<|len (α:=e.den) m) (.ret<|(a.b4 b { c with val:=.data (.slice e) (app (α:=e.den) l m),aM:=aM+1 }).put d<|.whole b<|aM+1)
       | _,_=>.fail
     | _=>.fail
   | none=>.fail
 | _,_=>.fail
def ke(e:Ty)(m:List e.den)(b d:Nat)(q:List BV)(f:Nat->Ty->Bool)(i:Int)(g:St):Tree St :=
 match g.mem b with
 | some a=>bif Nat.beq a.aM d&&!a.lk&&!a.ro then
    (match a.buf with
    | true=>match q,a.val with
      | [],.data (.slice u) l=>match toL e u m with
        | some m=>.ret (g.b4 b { a with val:=.data (.slice u) (over (α:=u.den) l i m) })
        | none=>.fail
      | _,_=>.fail
    | false=>(WH q a.val).bind λh=>match h with
      | .data (.arr k u) l=>bif f k u then(match toL e u m with
        | some m=>(vY q a.val<|.data (.arr k u)<|over (α:=u.den) l i m).bind λc=>.ret (g.b4 b { a with val:=c })
        | none=>.fail) else .fail
      | _=>.fail)
   else .fail
 | none=>.fail
def EK(e:Ty)(m:Int->List e.den)(t:aL)(a:St):Tree (Int×St) :=
 match t with
 | .part b aM lo n=>(ke e (m n) b aM [] (λ_ _=>true) lo a).bind λa=>.ret (n,a)
 | .whole b aM=>match lenOf a t with|some n=>(ke e (m n) b aM [] (λ_ _=>true) 0 a).bind λa=>.ret (n,a)|none=>.fail
 | .win b aM q u k lo n=>(ke e (m n) b aM q (λc d=>Nat.beq k c&&Ty.beq u d) lo a).bind λa=>.ret (n,a)
 | _=>.fail
def wR(d:Option Nat)(b:TypeId)(t x:aL)(a:St):Tree St :=
 match find cx.T b with
 | some (.slice e)=>match uh e a x with
   | none=>.fail
   | some m=>(EK e (λn=>jj (α:=e.den) m n) t a).bind λr=>.ret (r.2.aW d<|.data (.int .i64)<|len<|jj (α:=e.den) m r.1)
 | _=>.fail
def wS(a:TypeId)(t:aL)(b:St):Tree St :=
 match find cx.T a with
 | some (.slice e)=>(EK e (λn=>gK n e.zero) t b).bind λr=>.ret r.2
 | _=>.fail
def CR:(o:OT)->o.den->(N M:List (Nat×Nat))->aL
 | .zf t,x,_,_=>.data t x
 | .buf _ _,_,_,M=>match M with|(b,v)::_=>.whole b v|[]=>.undef
 | .ref _ _,_,N,_=>match N with|(b,v)::_=>.ptr b v []|[]=>.undef
 | .pair p q,u,N,M=>.mix (CR p u.1 (N.take p.nr)<|M.take p.nb) (CR q u.2 (N.drop p.nr)<|M.drop p.nb)
 | .unit,_,_,_=>.data .unit ()
 | .dM,_,_,_=>.dM
def iV:(o:OT)->o.den->(N M:List (Nat×Nat))->Nat->Option bB
 | .zf _,_,_,_,_=>none
 | .buf e a,l,_,M,c=>match M with
   | (b,v)::_=>bif Nat.beq c b then some { val:=.data (.slice e) l,tid:=a,buf:=true,ro:=false,lk:=false,aM:=v } else none
   | []=>none
 | .ref tid o,u,N,M,c=>match N with
   | (b,v)::N=>bif Nat.beq c b then some { val:=CR o u N M,tid,buf:=false,ro:=false,lk:=false,aM:=v } else iV o u N M c
   | []=>none
 | .pair p q,u,N,M,c=>match iV p u.1 (N.take p.nr) (M.take p.nb) c with
   | some x=>some x
   | none=>iV q u.2 (N.drop p.nr) (M.drop p.nb) c
 | .unit,_,_,_,_=>none
 | .dM,_,_,_,_=>none
def db(d:Nat->Option bB):(o:OT)->aL->Option (o.den×List (Nat×Nat)×List (Nat×Nat))
 | .zf t,v=>match toS t v with|some x=>some (x,[],[])|none=>none
 | .buf e f,v=>match v with
   | .whole b aM=>match d b with
     | some c=>bif Nat.beq c.aM aM&&c.buf&&!c.lk&&!c.ro&&Nat.beq c.tid f&&Nat.blt 0 e.size then(match c.val with
       | .data (.slice u) l=>match toL u e l with|some l=>some (l,[],[(b,aM)])|none=>none
       | _=>none) else none
     | none=>none
   | _=>none
 | .ref tid o,v=>match v with
   | .ptr b aM []=>match d b with
     | some c=>bif Nat.beq c.aM aM&&!c.buf&&!c.lk&&!c.ro&&Nat.beq c.tid tid then(match db d o c.val with
       | some (u,N,M)=>some (u,(b,aM)::N,M)
       | none=>none) else none
     | none=>none
   | _=>none
 | .pair p q,v=>match v with
   | .mix a b=>match db d p a,db d q b with
     | some (x,N,M),some (y,g,h)=>some ((x,y),N++g,M++h)
     | _,_=>none
   | _=>none
 | .unit,v=>match v with|.data .unit _=>some ((),[],[])|_=>none
 | .dM,v=>match v with|.dM=>some ((),[],[])|_=>none
def IC:List Nat->Bool
 | []=>true
 | b::r=>!cI r b&&IC r
def bo(N M:List (Nat×Nat)):List Nat:=N.map (·.1)++M.map (·.1)
def ew(a:St):List Bool->(A:Ty)->(U:OT)->List aL->Option (A.den×U.den×List (Nat×Nat)×List (Nat×Nat))
 | [],A,U,vs=>match A,U,vs with
   | .unit,.unit,[]=>some ((),(),[],[])
   | _,_,_=>none
 | false::ps,A,U,vs=>match A,vs with
   | .pair t A,v::vs=>match toD t v,ew a ps A U vs with
     | some x,some (y,u,q)=>some ((x,y),u,q)
     | _,_=>none
   | _,_=>none
 | true::ps,A,U,vs=>match U,vs with
   | .pair (.ref tid o) U,v::vs=>match db a.mem (.ref tid o) v,ew a ps A U vs with
     | some (x,N,M),some (y,u,b,c)=>some (y,(x,u),N++b,M++c)
     | _,_=>none
   | .pair .dM U,.dM::vs=>match ew a ps A U vs with
     | some (y,u,q)=>some (y,((),u),q)
     | none=>none
   | _,_=>none
def WL(f:Nat):List aL->Nat
 | .dM::_=>2*f+1
 | _=>2*f
def kT(U:OT)(u:U.den)(N M:List (Nat×Nat))(a:St):St :=
 { a with mem:=λc=>match iV U u N (M.map λp=>(p.1,p.2+1)) c with
  | some b=>some b
  | none=>a.mem c }
def HT:aL->Bool
 | .whole ..=>true
 | _=>false
def Au(s:WG)(d:Option Nat)(c:List aL)(e:St):Tree St :=
 match s,c with
 | .chk T,[.ptr b aM []]=>match e.mem b with
   | some a=>match a.val with
     | .mix (.vj f g) (.mix u<|.data .unit _)=>bif Nat.beq a.aM aM&&!a.buf&&!a.lk&&!a.ro&&Nat.beq a.tid T&&Nat.blt 0 T&&Nat.beq f b&&Nat.beq g aM&&HT u then .ret (e.aW d<|.yC .nl) else .fail
     | _=>.fail
   | none=>.fail
 | .str T E,[.ptr b aM []]=>match e.mem b with
   | some a=>match a.val with
     | .mix (.vj _ _) (.mix (.whole h hv)<|.data .unit _)=>bif Nat.beq a.aM aM&&!a.buf&&Nat.beq a.tid T&&Nat.blt 0 T&&!Nat.beq h b then(match e.mem h with
       | some hx=>bif Nat.beq hx.aM hv&&hx.buf&&!hx.lk&&Nat.beq hx.tid E&&Nat.blt 0 E then(match hx.val with
         | .data (.slice<|.int .u8) l=>.ret ((e.b4 h { hx with val:=.data (.slice<|.int .u8) [],aM:=hx.aM+1 }).aW d<|.data .str<|aY l)
         | _=>.fail) else .fail
       | none=>.fail) else .fail
     | _=>.fail
   | none=>.fail
 | _,_=>.fail
def ownRow(d:Option Nat):Option Nat:=match d with|some d=>bif cI bf (9000000+d) then some d else none|none=>none
def QE(d:Option Nat):Option Nat:=match d with|some d=>bif cI bf d then some d else none|none=>none
def lW(e:Ty)(d:Option Nat)(a:List aL)(b:St):Tree St :=
 match d,a with
 | some d,[x]=>match wQ b (.slice e) x with
   | some (l,b)=>bif Nat.blt 0 e.size then .need (fits<|len (α:=e.den) l) (b.aQ (nb+d) (.data (.slice e) l) 0 true λc b=>.ret (b.put d<|.whole (nb+d) c)) else .fail
   | none=>.fail
 | _,_=>.fail
def lX(g:Nat)(d:Option Nat)(a:List aL)(b:St):Tree St :=
 match d,a with
 | some _,[.undef]=>.fail
 | some _,[.yC _]=>.fail
 | some d,[v]=>bif Nat.blt g 10000000 then b.aQ (nb+d) v 0 false λc b=>.ret (b.put d<|.fn g [(nb+d,c)]) else .fail
 | _,_=>.fail
def xJ(e:Ty)(c:St):aL->Option (Nat×Nat×bB×List e.den)
 | .whole b aM=>match c.mem b with
   | some a=>bif Nat.beq a.aM aM&&a.buf&&!a.lk&&!a.ro&&Nat.beq a.tid 0 then(match a.val with
     | .data (.slice u) l=>(match toL u e l with|some l=>some (b,aM,a,l)|none=>none)
     | _=>none) else none
   | none=>none
 | .part b aM lo n=>match c.mem b with
   | some a=>bif Nat.beq a.aM aM&&a.buf&&!a.lk&&!a.ro&&Nat.beq a.tid 0&&decide (lo=0) then(match a.val with
     | .data (.slice u) l=>(match toL u e l with|some l=>some (b,aM,a,sub (α:=e.den) l lo n)|none=>none)
     | _=>none) else none
   | none=>none
 | _=>none
def rB(e A:Ty)(g:Bool)(a:List e.den->A.den->Option (List e.den))(d:Option Nat)(c:List aL)(f:St):Tree St :=
 match c with
 | v::vs=>match kS f A vs with
   | some (x,f)=>match xJ e f v with
     | some (b,aM,h,l)=>.look (a l x) λi=>match g,d with
       | true,some d=>.ret ((f.b4 b { h with val:=.data (.slice e) i,aM:=aM+1 }).put d<|.whole b<|aM+1)
       | false,d=>bif HT v then .ret ((f.b4 b { h with val:=.data (.slice e) i }).aW d<|.yC .nl) else .fail
       | _,_=>.fail
     | none=>.fail
   | none=>.fail
 | []=>.fail
def ui(d:Option Nat)(f:Nat):Option WG :=
 match find cx.Ll f with
 | some (.clone e)=>match QE bf d with|some _=>some (.clone e)|none=>none
 | some (.own e A r s)=>some (.own e A r s)
 | some (.CO g)=>some (.CO g)
 | _=>none
def v7(d:Option Nat)(f:Nat)(a:List aL)(b:St):Tree St :=
 match find cx.YH f with
 | some c=>match c.R.flat with
   | true=>match iI b c.A a with
     | some x=>.look (c.spec x) λy=>.ret (b.aW d<|ug c.R y)
     | none=>.fail
   | false=>match kS b c.A a with
     | some (x,b)=>.look (c.spec x) λy=>.ret (b.aW d<|ug c.R y)
     | none=>.fail
 | none=>match find cx.Ll f with
  | some s=>Au s d a b
  | none=>match find cx.Om (WL f a) with
   | some c=>(match ew b c.ps c.A c.U a with
     | some (x,u,N,M)=>bif IC (bo N M) then .look (c.spec (x,u)) λy=>.ret ((kT c.U y.2 N M b).aW d<|ug c.R y.1) else .fail
     | none=>(inl f a b).bind λr=>.ret (r.2.aW d r.1))
   | none=>(inl f a b).bind λr=>.ret (r.2.aW d r.1)
def tu(d:Option Nat)(f:Nat)(a:List aL)(b:St):Tree St :=
 match ui cx bf d f with
 | some (.clone e)=>lW nb e d a b
 | some (.own e A r s)=>rB e A r s d a b
 | some (.CO g)=>lX nb g d a b
 | _=>v7 cx inl d f a b
def QF:(t:Ty)->(u:Nat)->Option ((a:Ty)×(a.den->t.den))
 | .alt n a r,u=>bif Nat.beq n u then some ⟨a,.inl⟩ else match QF r u with
   | some ⟨b,f⟩=>some ⟨b,λx=>.inr (f x)⟩
   | none=>none
 | _,_=>none
def re(d:Option Nat)(c u:TypeId)(x:aL)(b:St):Tree St :=
 match find cx.T c with
 | some t=>match QF t u with
   | some ⟨a,f⟩=>match wQ b a x with
     | some (y,b)=>.ret (b.aW d<|.data t<|f y)
     | none=>.fail
   | none=>.fail
 | none=>.fail
def rf(d:Option Nat)(a:String)(b:List aL)(e:St):Tree St :=
 match QB cx.inv a with
 | some c=>match kS e c.A b with
   | some (x,e)=>.look (c.spec x) λy=>.ret (e.aW d<|ug c.R y)
   | none=>.fail
 | none=>.fail
def uj(d:Option Nat)(h:TypeId)(c:Call)(a:St):Tree St :=
 match c.callee with
 | .builtin b=>match b,c.args.toList.map (cu a),c.argTypes.toList with
   | .len,[x],[t]=>bif VD (find cx.T t) x then(match lenOf a x with
     | some n=>.ret (a.aW d<|.data (.int .i64) n)
     | none=>.fail) else(match M5 cx t,x with
     | some _,.win b aM _ _ _ _ n=>bif live a b aM&&decide (n<=64) then .ret (a.aW d<|.data (.int .i64) n) else .fail
     | _,_=>.fail)
   | .append,[s,x],[t,u]=>match find cx.T u with
     | some .str|some (.slice _)=>iq cx nb d t s x a
     | _=>.fail
   | .copy,[t,x],[g,tx]=>match find cx.T tx with
     | some .str|some (.slice _)=>wR cx d g t x a
     | _=>.fail
   | .clear,[t],[g]=>match d with|none=>wS cx g t a|some _=>.fail
   | .min,[x,y],_=>On true x y |>.bind λv=>.ret (a.aW d v)
   | .max,[x,y],_=>On false x y |>.bind λv=>.ret (a.aW d v)
   | _,_,_=>.fail
 | .value f=>match cu a f with
   | .fn f e=>bif e.all (λb=>live a b.1 b.2) then tu cx nb bf inl d (QC f) (Zn f (c.args.toList.map<|cu a)<|e.map λb=>.ptr b.1 b.2 []) a else .fail
   | _=>.fail
 | .invoke r name=>rf cx d name (cu a r::c.args.toList.map (cu a)) a
def zk:List aL->Option (List<|Nat×Nat)
 | []=>some []
 | .ptr b aM []::r=>(zk r).map ((b,aM)::·)
 | _=>none
def HU(a:St)(b:Nat):Nat:=match a.mem b with|some bx=>bx.aM+1|none=>0
def mkObj(b a:Nat):List nG->Nat->St->Tree (aL×St)
 | [],_,σ=>.ret (.data .unit (),σ)
 | .zf t::r,j,σ=>(mkObj b a r (j+1) σ).bind λx=>.ret (.mix (.data t t.zero) x.1,x.2)
 | .one::r,j,σ=>(mkObj b a r (j+1) σ).bind λx=>.ret (.mix .dM x.1,x.2)
 | .self::r,j,σ=>(mkObj b a r (j+1) σ).bind λx=>.ret (.mix (.vj b a) x.1,x.2)
 | .buf e c::r,j,σ=>bif Nat.blt 0 e.size then σ.aQ (b*1000+999-j) (.data (.slice e) []) c true λv σ=>(mkObj b a r (j+1) σ).bind λx=>.ret (.mix (.whole (b*1000+999-j) v) x.1,x.2) else .fail
def rC:List nG->Option aL
 | []=>some (.data .unit ())
 | .zf t::r=>match rC r with|some v=>some (.mix (.data t t.zero) v)|none=>none
 | .buf _ _::r=>match rC r with|some v=>some (.mix .oq v)|none=>none
 | .one::r=>match rC r with|some v=>some (.mix .dM v)|none=>none
 | .self::_=>none
def mN(b:St)(a:List nG):aL->List (Nat×Operand)->Option aL
 | v,[]=>some v
 | v,(k,x)::r=>match mM v k,xI a k,a[k]? with
   | some (o,.data t _),some c,some f=>bif Nat.beq o c&&Nat.beq t.size f.size then(match toS t (cu b x) with
     | some y=>match(EI v k λ_=>.ret (.data t y)).run with
       | some v=>mN b a v r
       | none=>none
     | none=>none) else none
   | _,_,_=>none
def nH(b:Nat):List nG->Nat->aL->St->Tree (aL×St)
 | [],_,.data .unit x,σ=>.ret (.data .unit x,σ)
 | .zf _::r,j,.mix (.data u y) v,σ=>(nH b r (j+1) v σ).bind λx=>.ret (.mix (.data u y) x.1,x.2)
 | .one::r,j,.mix .dM v,σ=>(nH b r (j+1) v σ).bind λx=>.ret (.mix .dM x.1,x.2)
 | .buf e a::r,j,.mix .oq v,σ=>bif Nat.blt 0 e.size then σ.aQ (b*1000+999-j) (.data (.slice e) []) a true λc σ=>(nH b r (j+1) v σ).bind λx=>.ret (.mix (.whole (b*1000+999-j) c) x.1,x.2) else .fail
 | _,_,_,_=>.fail
def zl(a:St):Nat->List (Nat×Operand)->Option aL
 | _,[]=>some (.data .unit ())
 | k,(j,x)::r=>bif Nat.beq j k then(match cu a x,zl a (k+1) r with
   | .dM,some v=>some (.mix .dM v)
   | .ptr b aM p,some v=>some (.mix (.ptr b aM p) v)
   | .fn f c,some v=>some (.mix (.fn f c) v)
   | _,_=>none) else none
def Av(d:Option Nat)(t:TypeId)(a:Nat)(b:List (Nat×Operand))(c:St):Tree St :=
 match d,M5 cx t,zl c 0 b with
 | some d,some _,some v=>bif Nat.beq a b.length&&Nat.blt 0 a&&Nat.ble a 64 then
  c.aQ (nb+d) v 0 false λe c=>.ret (c.put d<|.win (nb+d) e [.fW 0 0] .bool a 0 a) else .fail
 | _,_,_=>.fail
def CS(d:Option Nat)(a:TypeId)(x:aL)(c:St):Tree St :=
 match d,x with
 | some _,.undef=>.fail
 | some _,.yC _=>.fail
 | some d,v=>match find cx.sS a with
   | some e=>(nH (nb+d) e 0 v c).bind λr=>r.2.aQ (nb+d) r.1 a false λb c=>.ret (c.put d<|.ptr (nb+d) b [])
   | none=>c.aQ (nb+d) v 0 false λb c=>.ret (c.put d<|.ptr (nb+d) b [])
 | none,_=>.fail
def tV(d:Nat)(t:Ty)(a:St):Tree St :=
 match QE bf (some d),t with
 | some _,.slice e=>bif Nat.blt 0 e.size then a.aQ ((nb+d)*1000+999) (.data (.slice e) []) 0 true λv a =>
  a.aQ (nb+d) (.whole ((nb+d)*1000+999) v) 0 false λb a=>.ret (a.put d<|.ptr (nb+d) b []) else .fail
 | _,t=>a.aQ (nb+d) (.data t t.zero) 0 false λb a=>.ret (a.put d<|.ptr (nb+d) b [])
def pW(o:Oper)(σ:St):Tree St :=
 match o.op with
 | .move x|.assign x=>jK cx nb bf o.dst o.type (cu σ x) σ
 | .pick c a b=>ou o.dst (cu σ c) (cu σ a) (cu σ b) σ
 | .alloc elem=>match o.dst,find cx.T elem with
   | some d,some t=>tV nb bf d t σ
   | some d,none=>match find cx.sS elem with
     | some j=>(mkObj (nb+d) (HU σ<|nb+d) j 0 σ).bind λr=>r.2.aQ (nb+d) r.1 elem false λg σ=>.ret (σ.put d<|.ptr (nb+d) g [])
     | none=>bif cI cx.rb elem then σ.aQ (nb+d) .undef 0 false λg σ=>.ret (σ.put d<|.ptr (nb+d) g []) else .fail
   | _,_=>.fail
 | .box elem x=>CS cx nb o.dst elem (cu σ x) σ
 | .build t parts=>match find cx.T t with
   | some (.pair a b)=>match gr σ (.pair a b) (Ty.pair a b).zero parts.toList with
     | some (x,σ)=>.ret (σ.aW o.dst<|.data (.pair a b) x)
     | none=>.fail
   | some (.arr n e)=>match fm σ e (List.replicate n e.zero) parts.toList with
     | some (l,σ)=>.ret (σ.aW o.dst<|.data (.arr n e) l)
     | none=>.fail
   | none=>match find cx.sS t with
     | some j=>match rC j with
       | some z=>match mN σ j z parts.toList with
         | some (.mix p q)=>.ret (σ.aW o.dst<|.mix p q)
         | some (.data .unit _)=>.ret (σ.aW o.dst<|.data .unit ())
         | _=>.fail
       | none=>.fail
     | none=>.fail
   | _=>.fail
 | .buildSlice t len parts=>match find cx.T t with
   | some (.slice e)=>match QE bf o.dst,len,parts.toList with
     | some d,0,[]=>σ.aQ (nb+d) (.data (.slice e) []) 0 true λg σ=>.ret (σ.put d<|.whole (nb+d) g)
     | _,_,_=>bif Nat.ble (len*e.size) 65536 then(match fm σ e (List.replicate len e.zero) parts.toList with
     | some (l,σ)=>(match ownRow bf o.dst with
       | some d=>σ.aQ (nb+d) (.data (.slice e) l) 0 true λg σ=>.ret (σ.put d<|.whole (nb+d) g)
       | none=>.ret (σ.aW o.dst<|.data (.slice e) l))
     | none=>.fail) else .fail
   | none=>Av cx nb o.dst t len parts.toList σ
   | _=>.fail
 | .load t a=>lv cx o.dst t (cu σ a) σ
 | .store t a x=>match o.dst with|none=>lS cx bf t (cu σ a) (cu σ x) σ|some _=>.fail
 | .nilCheck x=>match cu σ x with
   | .ptr b g p=>bif live σ b g then .ret (σ.aW o.dst<|.ptr b g p) else .fail
   | .cell t x=>.ret (σ.aW o.dst<|.cell t x)
   | .fn f c=>.ret (σ.aW o.dst<|.fn f c)
   | _=>.fail
 | .binOp op m x y _=>(Zo σ (find cx.T m) (cI cx.lu m) op (cu σ x)<|cu σ y).bind λv=>.ret (σ.aW o.dst v)
 | .unOp op _ x=>(un op<|cu σ x).bind λv=>.ret (σ.aW o.dst v)
 | .convert src dst x=>gW cx nb o.dst src dst (cu σ x) σ
 | .makeFunc (.func f) first h=>match first.toList,zk (h.toList.map<|cu σ) with
   | [],some cs=>bif Nat.blt f 10000000 then .ret (σ.aW o.dst<|.fn f cs) else .fail
   | [x],some []=>(match zk [cu σ x] with
     | some cs=>bif Nat.blt f 10000000 then .ret (σ.aW o.dst<|.fn (f+10000000) cs) else .fail
     | none=>.fail)
   | _,_=>.fail
 | .slice t x lo hi none=>lT cx o.dst t (cu σ x) lo hi σ
 | .fieldAddr s x k=>eT cx o.dst s (cu σ x) k σ
 | .field m x k=>match cu σ x with
   | .data u y=>bif EJ (find cx.T m) u then(match mM (.data u y) k with
     | some (_,v)=>.ret (σ.aW o.dst v)
     | none=>.fail) else .fail
   | _=>.fail
 | .indexAddr t x i=>match cu σ i with
   | .data (.int _) i=>bif cI bf 5000000 then lU cx o.dst t (cu σ x) i σ else eo cx o.dst t (cu σ x) i σ
   | _=>.fail
 | .index t x i=>match cu σ i with
   | .data (.int _) i=>lV cx o.dst t (cu σ x) i σ
   | _=>.fail
 | .makeSlice t l c=>match o.dst,find cx.T t,cu σ l,cu σ c with
   | some d,some (.slice e),.data (.int _) l,.data (.int _) c =>
     .need (inside 0 l c) (.need (fits c)
      (σ.aQ (nb+d) (.data (.slice e)<|gK l e.zero) 0 true λg σ=>.ret (σ.put d<|.whole (nb+d) g)))
   | _,_,_,_=>.fail
 | .extract t k=>match cu σ t with
   | .yC vs=>match nth vs k with
     | some v=>.ret (σ.aW o.dst v)
     | none=>.fail
   | _=>.fail
 | .call c=>uj cx nb bf inl o.dst o.type c σ
 | .makeInterface u x=>re cx o.dst o.type u (cu σ x) σ
 | _=>.fail
def xK(g:Option (Nat×Bool))(j:Nat)(a:Bool):Bool :=
 match g with|some (i,b)=>Nat.beq i j&&(b==a)|none=>false
def under(j:Nat)(want:Bool):(inner:List Nat)->List (Nat×Oper)->List (Nat×Oper)×List (Nat×Oper)
 | _,[]=>([],[])
 | inner,(i,o)::r =>
   bif xK o.guard j want then let x:=under j want (i::inner) r;((i,{ o with guard:=none })::x.1,x.2)
   else bif (match o.guard with|some (k,_)=>inner.any (Nat.beq k)|none=>false) then let x:=under j want (i::inner) r;((i,o)::x.1,x.2)
   else([],(i,o)::r)
def HV(a:Ctx):List (Nat×Oper)->Bool
 | []=>false
 | (_,o)::r=>(match o.op with
   | .call c=>match c.callee with
     | .value (.func f)=>match find a.YH f with|some _=>false|none=>true
     | .value _=>true
     | .builtin .append=>true
     | _=>false
   | .store ..=>true
   | _=>false)||HV a r
def St.iJ(σ:St):St:={ σ with mem:=λi=>match σ.mem i with|some b=>some { b with lk:=true }|none=>none }
def St.undef(a:St):List (Nat×Oper)->St
 | []=>a
 | (_,o)::r=>(a.undef r).aW o.dst .undef
def nI(d:Nat):List (Nat×Oper)->Bool
 | []=>false
 | (_,o)::r=>(match o.dst with|some k=>Nat.beq k d|none=>false)||nI d r
def xL(e:St)(f:Oper)(g:Nat)(d:Bool):Option aL :=
 match f.op with
 | .pick (.tmp c) a b=>bif Nat.beq c g then some (cu e<|bif d then a else b) else none
 | _=>none
def pX(a:Array Oper):Nat->List (Nat×Oper)->St->Tree St
 | 0,_,_=>.fail
 | n+1,[],σ=>.ret σ
 | n+1,(i,o)::r,σ =>
   match o.guard with
   | none=>(pW cx nb bf inl o σ).bind λσ=>pX a n r σ
   | some (j,want) =>
     let g:=under j want [] ((i,o)::r)
     match(a[j]?).bind (·.dst) with
     | none=>.fail
     | some d=>match σ.slots d,g.2 with
       | .data .bool c,(_,b)::rest=>bif nI d g.1 then .fail else match b.guard with
         | some _=>.fail
         | none =>
           let e:=bif want then c else nt c
           bif HV cx g.1 then
            (Tree.node e ((pX a n g.1 σ).bind λσ=>match xL σ b d want with
              | some v=>.ret (σ.aW b.dst v)
              | none=>.fail)
             (match xL (σ.undef g.1) b d (!want) with
              | some v=>.ret ((σ.undef g.1).aW b.dst v)
              | none=>.fail)).bind λσ=>pX a n rest σ
           else match find cx.T b.type,b.dst with
            | some t,some f=>(Tree.node e ((pX a n g.1 σ.iJ).bind λτ=>match(xL τ b d want).bind (toD t) with
              | some x=>.ret x
              | none=>.fail)
             (match(xL (σ.undef g.1) b d<|!want).bind (toD t) with
              | some x=>.ret x
              | none=>.fail)).join λx=>pX a n rest ((σ.undef g.1).put f<|.data t x)
            | _,_=>.fail
       | _,_=>.fail
def number:Nat->List Oper->List (Nat×Oper)
 | _,[]=>[]
 | k,o::r=>(k,o)::number (k+1) r
def ID(a:Array Oper)(b:St):Tree St:=pX cx nb bf inl a (2*a.size+1) (number 0 a.toList) b
def eY:Op->List Operand
 | .move x|.assign x|.box _ x|.load _ x|.nilCheck x|.unOp _ _ x|.convert _ _ x|.fieldAddr _ x _|.field _ x _|.extract x _=>[x]
 | .pick c a b=>[c,a,b]
 | .build _ ps|.buildSlice _ _ ps=>ps.toList.map (·.2)
 | .store _ a x=>[a,x]
 | .binOp _ _ x y _=>[x,y]
 | .makeFunc _ f c=>f.toList++c.toList
 | .slice _ x lo hi _=>x::(lo.toList++hi.toList)
 | .indexAddr _ x i|.index _ x i=>[x,i]
 | .makeSlice _ l c=>[l,c]
 | .call c=>(match c.callee with|.value f=>[f]|.invoke r _=>[r]|_=>[])++c.args.toList
 | .makeInterface _ x=>[x]
 | _=>[]
def tmpsOf:List Operand->List Nat
 | []=>[]
 | .tmp t::r=>t::tmpsOf r
 | _::r=>tmpsOf r
def ow(o:Oper)(σ:St):Option Nat:=match o.op with
 | .call c=>match c.callee with
   | .value x=>match cu σ x with
     | .fn f _=>some (QC f)
     | _=>none
   | _=>none
 | _=>none
def aeQ:Option Nat->Option Nat->Bool
 | some a,some b=>Nat.beq a b
 | none,none=>true
 | _,_=>false
def adE(f:Nat):Bool:=match find cx.Om (2*f) with
 | some _=>true
 | none=>match find cx.Om (2*f+1) with
   | some _=>true
   | none=>false
def cls(g:Option Nat)(o:Oper):Nat:=match o.op with
 | .assign _|.move _|.makeSlice ..|.convert ..=>1
 | .box e _=>match find cx.sS e with
   | some _=>3
   | none=>1
 | .alloc e=>match find cx.T e with
   | some (.slice _)=>3
   | some _=>1
   | none=>match find cx.sS e with
     | some _=>3
     | none=>1
 | .build ..|.buildSlice ..|.store ..=>2
 | .call c=>match c.callee with
   | .builtin .len|.builtin .min|.builtin .max=>0
   | .builtin .append=>2
   | .builtin _=>3
   | .value _=>match g with
     | some f=>match find cx.Ll f with
       | some (.clone _)=>2
       | some (.own _ _ _ _)=>2
       | some (.CO _)=>2
       | s=>match find cx.YH f with
         | some c=>bif c.R.flat then 0 else 2
         | none=>match s,adE cx f with
           | none,true=>2
           | _,_=>3
     | none=>3
   | .invoke ..=>2
 | .makeInterface ..=>2
 | _=>0
structure Fp where
 rd:List Nat
 wr:List Nat
 HW:Bool
 fn:Option Nat
def wT(d:St):aL->List Nat
 | .ptr b _ _=>[b]
 | .whole b _=>[b]
 | .part b _ _ _=>[b]
 | .win b _ _ _ _ _ _=>[b]
 | .fn _ c=>c.map (·.1)
 | .mix a b=>wT d a++wT d b
 | _=>[]
def refsOf(a:St):List Operand->List Nat
 | []=>[]
 | x::r=>wT a (cu a x)++refsOf a r
def aeR(o:Oper)(a:St):List Nat:=match o.op with
 | .move _|.assign _=>[]
 | _=>refsOf a (eY o.op)
def reach(o:Oper)(a:St)(g:Option Nat):List Nat:=match o.op,g with
 | .call c,some f=>match find cx.Om (WL f<|c.args.toList.map<|cu a) with
   | some k=>match ew a k.ps k.A k.U (c.args.toList.map<|cu a) with
     | some (_,_,N,M)=>bo N M
     | none=>[]
   | none=>[]
 | _,_=>[]
def own(o:Oper):List Nat:=match o.dst with|some d=>[nb+d]|none=>[]
def wU(o:Oper)(a:St):Fp :=
 let g:=ow o a
 let rd:=own nb o++(aeR o a++reach cx o a g)
 match cls cx g o with
 | 0=>⟨rd,[],false,g⟩
 | 1=>⟨rd,own nb o,false,g⟩
 | 2=>⟨rd,rd,false,g⟩
 | _=>⟨[],[],true,g⟩
def St.only(σ:St)(ts a:List Nat):St:={ slots:=λt=>bif cI ts t then σ.slots t else .undef,mem:=λb=>bif cI a b then σ.mem b else none }
def lay(a:St)(d:Option Nat)(e:List Nat)(c:St):St :=
 { slots:=match d with|some d=>λt=>bif Nat.beq t d then c.slots d else a.slots t|none=>a.slots
   mem:=λb=>bif cI e b then c.mem b else a.mem b }
def zm(_:Nat)(_:List aL)(_:St):Tree (aL×St):=.fail
def Zt(b:Fp)(o:Oper)(a:St):Tree St:=bif aeQ (ow o a) b.fn then pW cx nb bf zm o a else .fail
def iK(a:Fp)(o:Oper)(σ:St):Tree St :=
 bif a.HW then pW cx nb bf inl o σ
 else(Zt cx nb bf a o<|σ.only (tmpsOf<|eY o.op) a.rd).bind λτ=>.ret (lay σ o.dst a.wr τ)
abbrev zn:=Nat×Oper×Fp×Nat
def maskAt:List zn->Nat->Nat
 | [],_=>0
 | (i,_,_,m)::r,k=>bif Nat.beq i k then m else maskAt r k
def tW(a:List zn):List Edge->Nat
 | []=>0
 | e::r=>bif Region.binds .any e then(tW a r ||| 2 ^ e.on) ||| maskAt a e.on else tW a r
def mask(a:List zn)(o:Oper):Nat:=tW a o.after.toList
def WM(a b:List Nat):Bool:=a.all λx=>!cI b x
def apart(x y:Oper)(f g:Fp):Bool :=
 !f.HW&&!g.HW&&WM f.wr g.rd&&WM g.wr f.rd &&
 (match x.dst with|some d=>!cI (tmpsOf<|eY y.op) d&&(match y.dst with|some e=>!Nat.beq d e|none=>true)|none=>true) &&
 (match y.dst with|some e=>!cI (tmpsOf<|eY x.op) e|none=>true)
def loose(o:Oper)(f:Fp)(m:Nat):List zn->Bool
 | []=>true
 | (k,ok,a,_)::r=>(Nat.testBit m k||apart ok o a f)&&loose o f m r
def IE:List (Nat×Oper)->List zn->St->Tree St
 | [],_,σ=>.ret σ
 | (i,o)::r,done,σ=>match o.guard with
   | some _=>.fail
   | none =>
     let f:=wU cx nb o σ
     let m:=mask done o
     bif loose o f m done&&(o.after.all λe=>!Region.binds .any e||Nat.blt e.on i) then
      (iK cx nb bf inl f o σ).bind λσ=>IE r ((i,o,f,m)::done) σ
     else .fail
def M6(a:Array Oper)(o:Oper):List Nat:=match o.guard with
 | some (g,_)=>match(a[g]?).bind (·.dst) with|some d=>[d]|none=>[]
 | none=>[]
def BW(a:Array Oper)(o:Oper):List Nat:=M6 a o++tmpsOf (eY o.op)
def wV(o:Oper)(k:Nat):Bool:=match o.guard with|some (g,_)=>!Nat.beq g k|none=>true
def zo(a:Array Oper)(i j:Nat)(x y:Oper)(f g:Fp):Bool :=
 !f.HW&&!g.HW&&WM f.wr g.rd&&WM g.wr f.rd&&wV x j&&wV y i &&
 (match x.dst with|some d=>!cI (BW a y) d&&(match y.dst with|some e=>!Nat.beq d e|none=>true)|none=>true) &&
 (match y.dst with|some e=>!cI (BW a x) e|none=>true)
def BX(a:Array Oper)(i:Nat)(o:Oper)(f:Fp)(m:Nat):List zn->Bool
 | []=>true
 | (k,ok,b,_)::r=>(Nat.testBit m k||zo a k i ok o b f)&&BX a i o f m r
def gM(i:Nat)(a:Nat->Bool):Nat->Bool:=λk=>Nat.beq k i||a k
def tc(a:Array Oper):List (Nat×Oper)->List zn->St->(Nat->Bool)->Tree St
 | [],_,σ,_=>.ret σ
 | (i,o)::r,done,σ,b =>
   let f:=wU cx nb o σ
   let m:=mask done o
   bif BX a i o f m done&&(o.after.all λe=>!Region.binds .any e||Nat.blt e.on i) then
    match o.guard with
    | none=>(iK cx nb bf inl f o σ).bind λσ=>tc a r ((i,o,f,m)::done) σ b
    | some (g,want)=>match(a[g]?).bind (·.dst) with
      | none=>.fail
      | some dg=>bif b g then tc a r ((i,o,f,m)::done) (σ.aW o.dst .undef) (gM i b)
        else match σ.slots dg with
         | .data .bool c=>.node c
          (bif want then(iK cx nb bf inl f o<|σ.put dg<|.data .bool true).bind λσ=>tc a r ((i,o,f,m)::done) σ b
           else tc a r ((i,o,f,m)::done) ((σ.put dg<|.data .bool true).aW o.dst .undef) (gM i b))
          (bif want then tc a r ((i,o,f,m)::done) ((σ.put dg<|.data .bool false).aW o.dst .undef) (gM i b)
           else(iK cx nb bf inl f o<|σ.put dg<|.data .bool false).bind λσ=>tc a r ((i,o,f,m)::done) σ b)
         | _=>.fail
   else .fail
def kU:List Oper->Bool
 | []=>true
 | o::r=>(match o.dst with|some d=>!cI (EL r) d|none=>true)&&kU r
where EL:List Oper->List Nat
 | []=>[]
 | o::r=>match o.dst with|some d=>d::EL r|none=>EL r
def wW(a:Array Oper)(b:St):Tree St :=
 bif a.any λo=>o.guard.isSome then(bif kU a.toList then tc cx nb bf inl a (number 0 a.toList) [] b (λ_=>false) else .fail)
 else IE cx nb bf inl (number 0 a.toList) [] b
end
def rounds{S R:Type}(f:S->Option (S⊕R)):Nat->S->Option R
 | 0,_=>none
 | n+1,s=>(f s).bind λx=>match x with|.inl s=>rounds f n s|.inr r=>some r
theorem FZ{S R:Type}{f:S->Option (S⊕R)}:∀{n:Nat} {s:S} {r:R},rounds f n s=some r->∀m,n<=m->rounds f m s=some r:=by
 intro n;induction n with
 | zero=>intro s r h;cases h
 | succ n b =>
   intro s r h m c;obtain⟨k,rfl⟩:∃k,m=k+1:=⟨m-1,by omega⟩;simp only[rounds] at h⊢;cases a:f s with
   | none=>rw[a] at h;cases h
   | some x =>
     rw[a] at h;cases x with
     | inl d=>exact b h k (by omega)
     | inr e=>exact h
open Classical in
def QG{S R:Type}(f:S->Option (S⊕R))(s:S):Option R :=
 if h:∃n r,rounds f n s=some r then some (Classical.choose<|Li h) else none
theorem yD{S R:Type}{f:S->Option (S⊕R)}{n:Nat}{s:S}{r:R}(h:rounds f n s=some r):QG f s=some r:=by
 have c:∃n r,rounds f n s=some r:=⟨n,r,h⟩;unfold QG;rw[dif_pos c];have d:=Li (Li c);have a:=FZ h (max n<|Classical.choose c) (by omega);have b:=FZ d (max n<|Classical.choose c) (by omega);rw[a] at b;exact b.symm
class Lp where
 loop:{S R:Type}->(S->Option (S⊕R))->S->Option R
 ok:∀{S R:Type} (f:S->Option (S⊕R)) (s:S),loop f s=QG f s
theorem Lp.one(i j:Lp):i=j:=by
 obtain⟨l,h⟩:=i;obtain⟨m,k⟩:=j;have:@l=@m:=by funext S R f s;rw[h,k]
 subst this;rfl
@[reducible] noncomputable def Lp.mg:Lp where
 loop:=λf s=>match rounds f 100000 s with|some r=>some r|none=>QG f s
 ok:=λf s=>by
  generalize 100000=k;cases a:rounds f k s with
  | some r=>exact(yD a).symm
  | none=>rfl
section
variable [Lp]
def Loop{S R:Type}(f:S->Option (S⊕R))(s:S):Option R:=Lp.loop f s
theorem pY{S R:Type}{f:S->Option (S⊕R)}{n:Nat}{s:S}{r:R}(h:rounds f n s=some r):Loop f s=some r:=(Lp.ok f s).trans (yD h)
theorem pZ{S R:Type}{f:S->Option (S⊕R)}{s:S}{r:R}(h:Loop f s=some r):∃n,rounds f n s=some r:=by
 replace h:=(Lp.ok f s).symm.trans h;unfold QG at h;split at h
 .rename_i a;have b:=Li (Li a);exact⟨_,by rw[b];exact h⟩
 .cases h
theorem aI{S R:Type}(f:S->Option (S⊕R))(s:S):Loop f s=(f s).bind λx=>match x with|.inl s=>Loop f s|.inr r=>some r:=by
 cases c:f s with
 | none =>
   cases b:Loop f s with
   | none=>rfl
   | some r =>
     obtain⟨n,a⟩:=pZ b;cases n with
     | zero=>cases a
     | succ n=>simp[rounds,c] at a
 | some x =>
   cases x with
   | inr r=>exact pY (n:=1) (by simp[rounds,c])
   | inl e =>
     show Loop f s=Loop f e
     cases b:Loop f e with
     | some r =>
       obtain⟨n,a⟩:=pZ b;exact pY (n:=n+1) (by simp[rounds,c,a])
     | none =>
       cases d:Loop f s with
       | none=>rfl
       | some r =>
         obtain⟨n,a⟩:=pZ d;cases n with
         | zero=>cases a
         | succ n =>
           simp[rounds,c] at a;rw[pY a] at b;cases b
end
inductive Sh where
 | d (t:Ty)
 | k (v:aL)
 | m (a b:Sh)
def Sh.ty:Sh->Ty
 | .d t=>t
 | .k _=>.unit
 | .m a b=>.pair a.ty b.ty
def HX:List BV->List BV->Bool
 | [],[]=>true
 | .fW k o::p,.fW a b::q=>Nat.beq k a&&Nat.beq o b&&HX p q
 | _,_=>false
def HY:List (Nat×Nat)->List (Nat×Nat)->Bool
 | [],[]=>true
 | (a,b)::r,(c,d)::s=>Nat.beq a c&&Nat.beq b d&&HY r s
 | _,_=>false
theorem Tl:∀{p q:List BV},HX p q=true->p=q:=by
 intro p;induction p with
 | nil=>intro q h;cases q<;>first|rfl|cases h
 | cons s p a =>
   intro q h;cases s with
   | idx i n=>cases q<;>cases h
   | fW k o =>
     cases q with
     | nil=>cases h
     | cons b q =>
       cases b with
       | idx i n=>cases h
       | fW c d =>
         simp only[HX,dv] at h;rw[eX h.1.1,eX h.1.2,a h.2]
theorem Tm:∀{p q:List (Nat×Nat)},HY p q=true->p=q:=by
 intro p;induction p with
 | nil=>intro q h;cases q<;>first|rfl|cases h
 | cons s p e =>
   intro q h;obtain⟨a,b⟩:=s;cases q with
   | nil=>cases h
   | cons f q =>
     obtain⟨c,d⟩:=f;simp only[HY,dv] at h;rw[eX h.1.1,eX h.1.2,e h.2]
def xM(V:Nat->Bool->Bool)(d g:St):aL->aL->Bool
 | .ptr b v p,.ptr e a h=>Nat.beq b e&&HX p h&&(bif V b false then(match d.mem b,g.mem b with|some x,some y=>Nat.beq x.aM v&&Nat.beq y.aM a|_,_=>false) else Nat.beq v a)
 | .whole b v,.whole e a=>Nat.beq b e&&(match d.mem b,g.mem b with|some x,some y=>Nat.beq x.aM v&&Nat.beq y.aM a&&y.buf|_,_=>false)
 | .fn f c,.fn i j=>Nat.beq f i&&HY c j
 | .dM,.dM=>true
 | .sf,.sf=>true
 | .vj b v,.vj e a=>Nat.beq b e&&Nat.beq v a
 | _,_=>false
def aby:aL->Sh
 | .data t _=>.d t
 | .mix a b=>.m (aby a) (aby b)
 | v=>.k v
def Sh.out(V:Nat->Bool->Bool)(c e:St):(s:Sh)->aL->Option s.ty.den
 | .d t,v=>toD t v
 | .k u,v=>bif xM V c e u v then some () else none
 | .m a b,.mix v w=>match Sh.out V c e a v,Sh.out V c e b w with
   | some x,some y=>some (x,y)
   | _,_=>none
 | .m _ _,_=>none
def bump(M:Nat->Bool)(V:Nat->Bool->Bool):aL->aL
 | .whole b v=>bif M b&&V b true then .whole b (v+1) else .whole b v
 | .ptr b v p=>bif M b&&V b false then .ptr b (v+1) p else .ptr b v p
 | v=>v
def Sh.qL(M:Nat->Bool)(V:Nat->Bool->Bool):(s:Sh)->s.ty.den->aL
 | .d t,x=>.data t x
 | .k v,_=>bump M V v
 | .m a b,x=>.mix (a.qL M V x.1) (b.qL M V x.2)
structure CT where
 S:List (Nat×Nat)
 M:List Nat
 fz:Bool
structure td where
 marks:List (Option CT)
 Oo:List Nat
structure Carry where
 S:List (Nat×Sh)
 M:List (Nat×Sh×bB)
 V:Nat->Bool->Bool
def tyS:List (Nat×Sh)->Ty
 | []=>.unit
 | (_,s)::r=>.pair s.ty (tyS r)
def tyM:List (Nat×Sh×bB)->Ty
 | []=>.unit
 | (_,s,_)::r=>.pair s.ty (tyM r)
def Carry.ty(c:Carry):Ty:=.pair (tyS c.S) (tyM c.M)
def abz(V:Nat->Bool->Bool)(a b:St):(l:List (Nat×Sh))->Option (tyS l).den
 | []=>some ()
 | (i,s)::r=>match Sh.out V a b s (b.slots i),abz V a b r with
   | some x,some y=>some (x,y)
   | _,_=>none
def F0(c d:Bool)(a b:bB):Bool:=(c||(a.ro==b.ro))&&Nat.beq a.tid b.tid&&(a.buf==b.buf)&&(d||Nat.beq a.aM b.aM)
def abA(V:Nat->Bool->Bool)(d:Bool)(a c:St):(l:List (Nat×Sh×bB))->Option (tyM l).den
 | []=>some ()
 | (i,s,b)::r=>match c.mem i with
   | some e=>bif F0 d (V i b.buf) e b then(match Sh.out V a c s e.val,abA V d a c r with
     | some x,some y=>some (x,y)
     | _,_=>none) else none
   | none=>none
def Carry.out(c:Carry)(fz:Bool)(a b:St):Option c.ty.den :=
 match abz c.V a b c.S,abA c.V fz a b c.M with
 | some x,some y=>some (x,y)
 | _,_=>none
def Oq(M:Nat->Bool)(V:Nat->Bool->Bool):(l:List (Nat×Sh))->(tyS l).den->Nat->Option aL
 | [],_,_=>none
 | (i,s)::r,x,t=>bif Nat.beq t i then some (s.qL M V x.1) else Oq M V r x.2 t
def IF(a:Bool)(M:Nat->Bool)(V:Nat->Bool->Bool):(l:List (Nat×Sh×bB))->(tyM l).den->Nat->Option bB
 | [],_,_=>none
 | (i,s,b)::r,x,t=>bif Nat.beq t i then some { b with val:=s.qL M V x.1,ro:=b.ro||a,aM:=bif V t b.buf then b.aM+1 else b.aM } else IF a M V r x.2 t
def uk:List (Nat×Sh×bB)->Nat->Bool
 | [],_=>false
 | (i,_,_)::r,t=>Nat.beq t i||uk r t
def Carry.qL(c:Carry)(fz lock:Bool)(wr:List Nat)(a:St)(x:c.ty.den):St :=
 { slots:=λt=>match Oq (uk c.M) c.V c.S x.1 t with
    | some v=>v
    | none=>bif cI wr t then .undef else a.slots t
   mem:=λb=>match IF fz (uk c.M) c.V c.M x.2 b with
    | some d=>some d
    | none=>match a.mem b with
      | some d=>some { d with lk:=d.lk||lock }
      | none=>none }
def settle:List (Nat×Sh)->St->Option St
 | [],σ=>some σ
 | (i,.d t)::r,σ=>match wQ σ t (σ.slots i) with
   | some (x,σ)=>settle r (σ.put i<|.data t x)
   | none=>none
 | _::r,σ=>settle r σ
def Carry.IG(c:Carry)(fz:Bool)(a b:St):Option c.ty.den :=
 bif fz then(match settle c.S b with
  | some b=>c.out true a b
  | none=>none)
 else c.out false a b
def Carry.lock(c:Carry)(a:St):St :=
 { a with mem:=λb=>match a.mem b with
  | some d=>some (bif uk c.M b then d else { d with lk:=true })
  | none=>none }
def p4:List Oper->List Nat
 | []=>[]
 | o::r=>match o.dst with|some d=>d::p4 r|none=>p4 r
def writes:Code->List Nat
 | .region _ ops _=>p4 ops.toList
 | .seq a b=>writes a++writes b
 | .cond _ a b=>writes a++writes b
 | .block _ a=>writes a
 | .loop a=>writes a
 | .scope a=>writes a
 | _=>[]
def te:Code->List Nat
 | .seq a b=>te a++(te b).filter λe=>!cI (te a) e
 | .cond _ a b=>te a++(te b).filter λe=>!cI (te a) e
 | .block i a=>(te a).filter λe=>!Nat.beq e (i+2)
 | .loop a=>te a
 | .scope a=>te a
 | .ret=>[1]
 | .exit i=>[i+2]
 | _=>[]
def marks:Code->Nat
 | .seq a b=>marks a+marks b
 | .cond _ a b=>marks a+marks b+1
 | .block _ a=>marks a
 | .loop a=>marks a+1
 | .scope a=>marks a
 | _=>0
def GP:List Nat->Nat->Option Nat
 | [],_=>none
 | e::r,k=>bif Nat.beq e k then some 0 else(GP r k).map (·+1)
def Tn:List Nat->List Nat->List Nat
 | [],l=>l
 | b::r,l=>bif cI l b then Tn r l else Tn r (l++[b])
section
variable (cx:Ctx)
def mkS(a:St):List (Nat×Nat)->Option (List<|Nat×Sh)
 | []=>some []
 | (i,ty)::r=>match mkS a r with
   | none=>none
   | some l=>bif Nat.beq ty 999999 then(match a.slots i with
     | .whole b v=>some ((i,.k (.whole b v))::l)
     | _=>some l) else match a.slots i with
     | .data t _=>some ((i,.d t)::l)
     | .undef|.oq=>match find cx.T ty with
       | some t=>some ((i,.d t)::l)
       | none=>none
     | v=>some ((i,.k v)::l)
def Aw(a:St):List Nat->List Nat
 | []=>[]
 | b::r=>(match a.mem b with|some d=>(match d.val with|.mix u v=>wT a (.mix u v)|.whole c _=>[c]|.fn f c=>wT a (.fn f c)|_=>[])|none=>[])++Aw a r
def Ot(a:St):List Nat->List Nat
 | []=>[]
 | i::r =>
   let b:=wT a (a.slots i)
   let c:=Aw a b
   let r2:=Aw a c
   Tn (b++(c++(r2++Aw a r2))) (Ot a r)
def mkM(c:St):List Nat->Option (List<|Nat×Sh×bB)
 | []=>some []
 | b::r=>match c.mem b,mkM c r with
   | some a,some l=>bif a.lk then none else some ((b,aby a.val,a)::l)
   | _,_=>none
def adG:aL->Option Nat
 | .whole b _=>some b
 | .part b _ _ _=>some b
 | _=>none
def CU:List Nat->St->Option St
 | [],σ=>some σ
 | m::r,σ=>bif Nat.ble 2000000 m then(match adG (σ.slots<|m-2000000) with
  | some b=>match σ.mem b with
    | some a=>match a.val with
      | .data (.slice e) _=>match wQ σ (.slice e) (σ.slots<|m-2000000) with
        | some (x,σ)=>CU r (σ.put (m-2000000)<|.data (.slice e) x)
        | none=>none
      | _=>none
    | none=>none
  | none=>CU r σ) else CU r σ
def aeT(a:Nat)(c:List Nat)(d:St)(b:Nat):Bool:=cI (c.map (a+·)) b&&(match d.mem b with|some x=>!x.buf&&!HT x.val|none=>false)
def HZ(d:Nat)(e:List Nat)(a:St)(p:CT):Option Carry :=
 match mkS cx a p.S,mkM a (Ot a p.M) with
 | some s,some m=>some ⟨s,m,λb c=>bif c then !cI p.M 3999999 else aeT d e a b⟩
 | _,_=>none
variable (nb:Nat) (bf:List Nat) (inl:Nat->List aL->St->Tree (aL×St))
def CV{a:Type}:List Nat->Nat->(Nat->Tree a)->Tree a
 | [],_,_=>.fail
 | [e],_,f=>f e
 | e::r,i,f=>.node (du i 0) (f e) (CV r (i-1) f)
variable [Lp]
def again{S:Type}(f:S->Tree (Nat×S)):Nat->S->Tree (Nat×S)
 | 0,_=>.fail
 | n+1,s=>(f s).bind λr=>bif Nat.beq r.1 0 then again f n r.2 else .ret r
def To(p:CT):Option Nat:=match p.M with
 | [m]=>bif Nat.ble 6000000 m then some (m-6000000) else none
 | _=>none
def EM(f:St->Tree (Nat×St))(c:Nat):Nat->Nat->St->Tree (Nat×St)
 | 0,_,_=>.fail
 | n+1,j,σ=>match σ.slots c with
   | .data (.int .i64) x=>.need (aZ x j) ((f<|σ.put c<|.data (.int .i64) (j:Int)).bind λr=>bif Nat.beq r.1 0 then EM f c n (j+1) r.2 else .ret r)
   | _=>.fail
def iS:Code->List (Option CT)->St->Tree (Nat×St)
 | .skip,_,σ=>.ret (0,σ)
 | .label _,_,σ=>.ret (0,σ)
 | .ret,_,σ=>.ret (1,σ)
 | .exit i,_,σ=>.ret (i+2,σ)
 | .region _ ops f,_,σ=>(bif f then wW cx nb bf inl ops σ else ID cx nb bf inl ops σ).bind λσ=>.ret (0,σ)
 | .seq a b,pl,σ=>(iS a pl σ).bind λr=>bif Nat.beq r.1 0 then iS b (pl.drop<|marks a) r.2 else .ret r
 | .block i a,pl,σ=>(iS a pl σ).bind λr=>.ret (bif Nat.beq r.1 (i+2) then 0 else r.1,r.2)
 | .scope a,pl,σ=>iS a pl σ
 | .cond c a b,pl,σ=>match cu σ c,pl with
   | .data .bool c,none::pl=>.node c (iS a pl σ) (iS b (pl.drop<|marks a) σ)
   | .data .bool c,some p::pl=>match CU p.M σ with
    | none=>.fail
    | some σ=>match HZ cx nb bf σ p with
     | none=>.fail
     | some k =>
       let t:=Tree.node c (iS a pl<|k.lock σ) (iS b (pl.drop<|marks a)<|k.lock σ)
       let wr:=writes a++writes b
       match te a++(te b).filter (λe=>!cI (te a) e) with
       | []=>(t.bind λr=>bif Nat.beq r.1 0 then Tree.Zm (k.IG p.fz σ r.2) else .fail).join λx=>.ret (0,k.qL p.fz false wr σ x)
       | es=>(t.bind λr=>match GP (0::es) r.1,k.IG p.fz σ r.2 with
        | some i,some x=>.ret (i,x)
        | _,_=>.fail).join λx=>CV (0::es) x.1 λe=>.ret (e,k.qL p.fz false wr σ x.2)
   | _,_=>.fail
 | .loop a,pl,σ=>match pl with
   | some p::pl=>match To p with
    | some c=>EM (λσ=>iS a pl σ) c 100 0 σ
    | none=>match CU p.M σ with
    | none=>.fail
    | some σ=>match HZ cx nb bf σ p with
     | none=>.fail
     | some k=>match k.out false σ σ with
       | none=>.fail
       | some d =>
         let wr:=writes a
         let es:=te a
         let body (x:k.ty.den):Option (k.ty.den⊕(Nat×k.ty.den)):=((iS a pl<|k.qL false true wr σ x).bind λr=>bif Nat.beq r.1 0 then(match k.out false σ r.2 with
           | some y=>.ret (.inl y)
           | none=>.fail)
          else match GP es r.1,k.IG p.fz σ r.2 with
           | some i,some y=>.ret (.inr (i,y))
           | _,_=>.fail).run
         match es with
         | [e]=>.look (Loop (λx=>dK (body x)) d) λx=>.ret (e,k.qL p.fz false wr σ x)
         | es=>.look (Loop body d) λx=>CV es x.1 λe=>.ret (e,k.qL p.fz false wr σ x.2)
   | none::pl=>again (λσ=>iS a pl σ) 100000 σ
   | _=>.fail
 | _,_,_=>.fail
end
variable [Lp]
def uo(mem:Nat->Option bB)(a:List aL):St:={ slots:=λt=>(a[t]?).getD .undef,mem }
def EN(c:Ctx)(b:St):ResultVar->Tree aL
 | .tmp t=>.ret (b.slots t)
 | .cell a ty=>(lv c (some 0) ty (b.slots a) b).bind λτ=>.ret (τ.slots 0)
def CW(a:Ctx)(b:St):List ResultVar->Tree aL
 | []=>.ret .nl
 | r::rs=>(EN a b r).bind λv=>(CW a b rs).bind λl=>.ret (.mix v l)
def results1(a:Ctx)(b:St):List ResultVar->Tree aL
 | [r]=>EN a b r
 | rs=>(CW a b rs).bind λl=>.ret (.yC l)
def jk(mem:Nat->Option bB):St:={ slots:=λ_=>.undef,mem }
def adi(a:Ctx):List TypeId->Option (List Ty)
 | []=>some []
 | t::r=>match find a.T t,adi a r with
   | some u,some l=>some (u::l)
   | _,_=>none
def Zu(b:Ctx)(a:List TypeId):List Nat->Option (Bool×List Ty)
 | []=>none
 | m::r=>bif Nat.ble 7000000 m&&Nat.ble m 7999999 then(bif Nat.beq m 7999999 then(adi b a).map λl=>(true,l) else(find b.T<|m-7000000).map λR=>(false,[R])) else Zu b a r
def spread(a:Bool)(v:aL):Nat->aL :=
 match a,v with
 | false,v=>λt=>bif Nat.beq t 0 then v else .undef
 | true,.yC m=>λt=>match nth m t with|some u=>u|none=>.undef
 | true,_=>λ_=>.undef
def IH:aL->Nat
 | .mix _ b=>IH b+1
 | _=>0
def QH(a:Bool)(v:aL)(n:Nat):Bool :=
 match a,v with
 | false,_=>Nat.beq n 1
 | true,.yC m=>Nat.beq (IH m) n
 | true,_=>false
def adH(a:Nat->aL):Nat->Nat->aL
 | _,0=>.nl
 | i,n+1=>.mix (a i) (adH a (i+1) n)
def Ou(b:Bool)(n:Nat)(a:Nat->aL):aL :=
 match b with
 | false=>a 0
 | true=>.yC (adH a 0 n)
def Zv(a:Bool)(v:aL)(mem:Nat->Option bB):St:={ slots:=spread a v,mem }
def VF:List Ty->Nat->List (Nat×Sh)
 | [],_=>[]
 | t::r,i=>(i,.d t)::VF r (i+1)
def VG(R:Bool×List Ty)(b:List aL)(a:Nat->Option bB)(F:(Nat->Option bB)->Tree (aL×(Nat->Option bB))):Tree (aL×(Nat->Option bB)) :=
 match mkM (jk a) (Ot (uo a b)<|List.range b.length) with
 | none=>.fail
 | some m =>
   let k:Carry:=⟨VF R.2 0,m,λ_ c=>c⟩
   let wr:=List.range R.2.length
   ((F (k.lock<|jk a).mem).bind λr=>bif QH R.1 r.1 R.2.length then Tree.Zm (k.out false (jk a)<|Zv R.1 r.1 r.2) else .fail).join λx =>
    .ret (Ou R.1 R.2.length (k.qL false false wr (jk a) x).slots,(k.qL false false wr (jk a) x).mem)
def II(d:Ctx)(e:Nat)(p:td)(inl:Nat->List aL->St->Tree (aL×St))(fn:Func)(c:Code)(a:List aL)(b:Nat->Option bB):Tree (aL×(Nat->Option bB)) :=
 (iS d e p.Oo inl c p.marks<|uo b a).bind λr =>
  bif Nat.beq r.1 0||Nat.beq r.1 1 then(results1 d r.2 fn.results.toList).bind λv=>.ret (v,r.2.mem) else .fail
def Zw(a:Nat->Option bB)(s:Nat):Nat->Nat->Nat
 | 0,b=>b
 | k+1,b=>match a (b+s) with
   | none=>b
   | some _=>Zw a s k (b+200)
def BZ(a:Nat->Option bB)(b:Nat):List Nat->Nat
 | []=>b
 | m::r=>bif Nat.ble 9000000 m then Zw a (m-9000000) 4 b else BZ a b r
def yE(a:Ctx):Nat->(nb:Nat)->(pA:Nat->td)->Nat->List aL->(Nat->Option bB)->Tree (aL×(Nat->Option bB))
 | 0,_,_,_,_,_=>.fail
 | n+1,nb,pA,f,args,mem=>match find a.fns f with
   | some fn=>match fn.body with
     | some c=>match Zu a fn.resultTypes.toList (pA f).Oo with
       | none=>II a nb (pA f) (λg b σ=>(yE a n (BZ σ.mem ((nb+g+1)*1000) (pA g).Oo) pA g b σ.mem).bind λr=>.ret (r.1,{ σ with mem:=r.2 })) fn c args mem
       | some R=>VG R args mem (II a nb (pA f) (λg b σ=>(yE a n (BZ σ.mem ((nb+g+1)*1000) (pA g).Oo) pA g b σ.mem).bind λr=>.ret (r.1,{ σ with mem:=r.2 })) fn c args)
     | none=>.fail
   | none=>.fail
def EO:(A:Ty)->A.den->List aL
 | .pair t r,x=>.data t x.1::EO r x.2
 | _,_=>[]
def CX:aL->List aL
 | .mix a b=>a::CX b
 | _=>[]
def CY:(R:Ty)->aL->List aL
 | .pair _ .unit,v=>[v]
 | _,.yC v=>CX v
 | _,v=>[v]
def CZ(k:Nat):Nat:=777000000+k
def abB(k:Nat):Nat:=778000000+k
def mh(k:Nat):Nat->List (Nat×Nat)
 | 0=>[]
 | n+1=>(CZ k,0)::mh (k+1) n
def pR(k:Nat):Nat->List (Nat×Nat)
 | 0=>[]
 | n+1=>(abB k,0)::pR (k+1) n
def yF:List Bool->OT->(A:Ty)->A.den->Nat->List aL
 | [],_,_,_,_=>[]
 | false::ps,U,A,x,k=>match A,x with
   | .pair t A,x=>.data t x.1::yF ps U A x.2 k
   | _,_=>[]
 | true::ps,U,A,x,k=>match U with
   | .pair .dM U=>.dM::yF ps U A x k
   | .pair o U=>.ptr (CZ k) 0 []::yF ps U A x (k+o.nr)
   | _=>[]
def IJ(a:Nat->Option bB):(U:OT)->Nat->Option (U.den×List (Nat×Nat)×List (Nat×Nat))
 | .pair .dM U,k=>match IJ a U k with
   | some (u,N,M)=>some (((),u),N,M)
   | none=>none
 | .pair o U,k=>match db a o (.ptr (CZ k) 0 []),IJ a U (k+o.nr) with
   | some (x,N,M),some (u,b,c)=>some ((x,u),N++b,M++c)
   | _,_=>none
 | .unit,_=>some ((),[],[])
 | _,_=>none
def Ov:List (Nat×Nat)->List (Nat×Nat)->Bool
 | [],[]=>true
 | (a,b)::r,(c,d)::s=>Nat.beq a c&&Nat.beq b d&&Ov r s
 | _,_=>false
def WN(b:Ctx)(n:Nat)(a:Nat->td)(f:Nat)(c:List Bool)(A:Ty)(U:OT)(R:Ty)(x:A.den×U.den):Option (R.den×U.den) :=
 ((yE b n 0 a f (yF c U A x.1 0)<|iV U x.2 (mh 0 U.nr)<|pR 0 U.nb).bind λr=>match kS (jk r.2) R (CY R r.1) with
  | some (y,σ)=>(match IJ σ.mem U 0 with
    | some (u,N,M)=>bif Ov N (mh 0 U.nr)&&IC (bo N M)&&IC (bo (mh 0 U.nr)<|pR 0 U.nb) then .ret (y,u) else .fail
    | none=>.fail)
  | none=>.fail).run
def sem(b:Ctx)(n:Nat)(a:Nat->td)(f:Nat)(A R:Ty)(x:A.den):Option R.den :=
 ((yE b n 0 a f (EO A x) λ_=>none).bind λr=>match iI (jk r.2) R (CY R r.1) with
  | some y=>.ret y
  | none=>.fail).run
end Go.Ge
