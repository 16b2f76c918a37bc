import Derived.WalkKit
set_option linter.unusedVariables false
set_option linter.unusedSectionVars false
set_option linter.unusedSimpArgs false
abbrev aq:=List UInt8
abbrev ai:=Unit
abbrev aE:=@Option.some.inj
abbrev eT:=@Nat.eq_of_beq_eq_true
abbrev dF:=@Bool.and_eq_true
abbrev dL:=@decide_eq_false
abbrev bb:=@if_neg
abbrev jE:=@List.getElem?_eq_getElem
abbrev bd:=@if_pos
abbrev dz:=@Prod.mk.inj
abbrev iP:=@List.length_append
abbrev gM:=@List.length_take
abbrev cd:=@decide_eq_true
abbrev ix:=@List.getElem?_eq_some_iff
abbrev dW:=@List.length_cons
abbrev fN:=@Nat.mul_le_mul_right
abbrev cD:=@Nat.le_refl
abbrev iy:=@List.mem_of_getElem?
abbrev gm:=@List.getElem?_take
abbrev gi:=@List.length_nil
abbrev mP:=@List.mem_append_right
abbrev kx:=@of_decide_eq_true
abbrev fY:=@List.mem_cons
abbrev nB:=@List.mem_append_left
abbrev l9:=@List.getElem?_drop
abbrev kS:=@Bool.not_eq_true'
abbrev ky:=@decide_eq_decide
abbrev oA:=@List.mem_cons_of_mem
abbrev ma:=@List.length_drop
abbrev u9:=@Array.getElem?_eq_some_iff
abbrev eG:=@cond_true
abbrev oB:=@List.mem_cons_self
abbrev iz:=@Nat.le_trans
abbrev nI:=@decide_eq_true_eq
abbrev gn:=@Nat.add_mul
abbrev ub:=@List.head_eq_of_cons_eq
abbrev oC:=@List.append_assoc
abbrev uc:=@Option.map_eq_some_iff
abbrev vY:=@List.length_eq_zero_iff
abbrev iD:=@cond_false
abbrev rK:=@Int.toNat_natCast
abbrev su:=@Option.some.injEq
abbrev BJ:=@List.drop_eq_getElem_cons
abbrev x6:=@List.take_append_drop
abbrev zM:=@Option.bind_eq_some_iff
abbrev sv:=@List.mem_append
abbrev sw:=@Nat.min_eq_left
abbrev zN:=@List.take_of_length_le
abbrev va:=@List.all_eq_true
abbrev pv:=@Nat.zero_add
abbrev Kf:=@List.takeWhile_append_dropWhile
abbrev pj:=@Nat.zero_le
abbrev BK:=@Bool.or_eq_false_iff
abbrev CO:=@Nat.le_of_ble_eq_true
abbrev tg:=@List.map_cons
abbrev zO:=@List.mem_singleton
abbrev wX:=@List.append_nil
abbrev wY:=@List.nil_append
abbrev wZ:=@List.mem_filter
abbrev vZ:=@List.drop_drop
abbrev x7:=@Bool.or_eq_true
abbrev ud:=@Nat.lt_or_ge
abbrev zP:=@List.cons_append
abbrev CP:=@Nat.lt_of_lt_of_le
abbrev vb:=@List.mem_map
abbrev Kg:=@Option.isSome_iff_exists
abbrev v7:=@Nat.add_zero
abbrev Ng:=@List.pairwise_iff_getElem
abbrev x8:=@Nat.add_assoc
abbrev mh:=@if_true
abbrev Kh:=@List.drop_of_length_le
abbrev CQ:=@Array.toList_inj
abbrev Qg:=@List.getD_eq_getElem?_getD
abbrev Qh:=@List.getElem?_append_left
abbrev CR:=@List.map_append
abbrev CS:=@List.length_map
abbrev BL:=@List.drop_left
abbrev Nh:=@Classical.choose_spec
abbrev CT:=@List.drop_zero
abbrev Ni:=@List.getElem?_eq_none
abbrev Ki:=@List.dropWhile_cons
abbrev zQ:=@Nat.succ_mul
abbrev Iv:=@List.size_toArray
abbrev Nj:=@List.mem_of_mem_take
abbrev FT:=@Option.map_some
abbrev Iw:=@List.take_length
abbrev Vs:=@Array.getD_eq_getD_getElem?
abbrev Qi:=@List.length_singleton
abbrev Kj:=@List.getElem?_map
abbrev Vt:=@List.getElem?_append_right
abbrev YZ:=@List.drop_append_of_le_length
abbrev Y0:=@List.take_append_of_le_length
abbrev Qj:=@List.map_congr_left
abbrev Nk:=@List.ext_getElem?
abbrev Nl:=@List.nodup_append
abbrev Sy:=@List.length_replicate
abbrev Vu:=@decide_eq_false_iff_not
abbrev Sz:=@List.getElem?_append
abbrev w8:=@Eq.trans
abbrev DY:=@Int.le_refl
abbrev Qk:=@List.take_add_one
abbrev aaT:=@List.eq_nil_of_length_eq_zero
abbrev B5:=@List.mem_range
abbrev Kk:=@List.mem_of_mem_drop
abbrev OY:=@List.getElem?_replicate
abbrev DZ:=@List.nodup_cons
abbrev Kl:=@Array.length_toList
abbrev Km:=@List.takeWhile_cons
abbrev zR:=@Nat.le_of_eq
abbrev w9:=@Nat.mod_lt
abbrev B6:=@Bool.false_or
abbrev sR:=@if_false
abbrev HA:=@Option.bind_some
abbrev Kn:=@Bool.false_eq_true
abbrev OZ:=@List.mem_iff_getElem?
abbrev O0:=@List.length_filter_le
abbrev Ko:=@List.pairwise_cons
abbrev SA:=@Classical.byContradiction
abbrev HB:=@List.drop_left'
abbrev HC:=@Bool.eq_iff_iff
abbrev HD:=@List.take_left'
abbrev D0:=@Prod.mk.injEq
abbrev O1:=@List.getElem_of_mem
abbrev O2:=@Array.toList_append
abbrev O3:=@List.getElem?_range
abbrev B7:=@Nat.mul_one
abbrev SB:=@Array.getElem?_eq_none
abbrev Xx:=@List.take_length_add_append
abbrev D1:=@Nat.beq_refl
abbrev O4:=@Bool.not_eq_false'
abbrev O5:=@List.mem_filterMap
abbrev SC:=@Array.getElem?_modify
abbrev Xy:=@List.getElem?_zip_eq_some
abbrev aaU:=@List.findIdx?_eq_some_iff_getElem
abbrev Kp:=@List.take_left
abbrev Kq:=@List.take_zero
abbrev Kr:=@List.take_take
abbrev O6:=@Array.toList_map
abbrev Xz:=@List.filterMap_cons_some
abbrev SD:=@List.length_pos_iff
abbrev SE:=@Nat.eq_zero_or_pos
abbrev O7:=@List.cons.injEq
abbrev SF:=@of_decide_eq_false
abbrev aaV:=@List.find?_eq_some_iff_getElem
abbrev SG:=@List.find?_eq_none
abbrev HE:=@decide_true
abbrev XA:=@List.length_eq_one_iff
abbrev SH:=@Nat.lt_trichotomy
abbrev XB:=@Nat.div_lt_iff_lt_mul
abbrev aaW:=@Array.getElem?_setIfInBounds
abbrev XC:=@List.singleton_append
abbrev XD:=@List.eq_nil_or_concat
abbrev XE:=@List.dropLast_eq_take
abbrev SI:=@Nat.lt_succ_self
abbrev SJ:=@List.drop_length
abbrev O8:=@List.all_cons
abbrev aaX:=@Option.ne_none_iff_exists'
abbrev XF:=@List.take_succ_cons
abbrev SK:=@Nat.div_add_mod
abbrev SL:=@UInt8.toNat_inj
abbrev aaY:=@List.findIdx?_eq_none_iff
abbrev aaZ:=@List.mem_of_find?_eq_some
abbrev O9:=@Nat.zero_mul
abbrev Pb:=@List.map_map
abbrev XG:=@decide_eq_true_iff
abbrev aa0:=@List.getLast_eq_getLastD
abbrev aa1:=@List.getElem?_cons_zero
abbrev aa2:=@List.getElem?_cons_succ
abbrev aa3:=@Int.eq_ofNat_of_zero_le
abbrev XH:=@List.getElem?_set
abbrev XI:=@List.length_range
abbrev SM:=@List.cons.inj
abbrev XJ:=@Nat.lt_of_not_le
abbrev XK:=@List.any_eq_true
abbrev XL:=@List.mem_flatMap
abbrev XM:=@List.mem_reverse
abbrev aa4:=@Array.getElem?_toList
abbrev aa5:=@Array.mem_of_getElem?
abbrev aa6:=@BitVec.eq_of_toNat_eq
abbrev aa7:=@List.concat_eq_append
abbrev afo:=@List.mk_mem_zipIdx_iff_getElem?
abbrev SN:=@Nat.mul_comm
abbrev SO:=@Nat.le_of_lt
abbrev aa8:=@Bool.and_eq_true_iff
abbrev XN:=@List.foldl_cons
abbrev aa9:=@List.replicate_succ
abbrev aba:=@Int.toNat_of_nonneg
abbrev abb:=@List.length_reverse
abbrev abc:=@List.filter_eq_self
abbrev XO:=@List.drop_take
abbrev Ks:=@and_self
abbrev XP:=@List.mapM_cons
abbrev SP:=@Nat.sub_mul
abbrev abd:=@List.filterMap_map
abbrev abe:=@BitVec.toNat_ofInt
abbrev abf:=@List.getLastD_cons
abbrev afp:=@Array.toList_setIfInBounds
abbrev XQ:=@Bool.or_false
abbrev afq:=@Array.getElem?_append_left
abbrev abg:=@List.flatten_cons
abbrev abh:=@Array.size_append
abbrev abj:=@Decidable.not_not
abbrev abk:=@List.all_eq_false
abbrev abl:=@List.flatMap_cons
abbrev abm:=@List.getElem_take
abbrev abn:=@List.pairwise_map
abbrev SQ:=@Array.ext'
abbrev afr:=@List.sublist_append_right
abbrev afs:=@List.getElem?_eq_none_iff
abbrev Kt:=@Ne.symm
abbrev XR:=@Nat.add_comm
abbrev aft:=@List.sublist_append_left
abbrev HF:=@not_or
abbrev afu:=@List.filterMap_cons_none
abbrev abo:=@Nat.min_eq_right
abbrev XS:=@decide_false
abbrev afv:=@Array.setIfInBounds_comm
abbrev afw:=@Bool.eq_false_or_eq_true
abbrev abp:=@List.all_reverse
abbrev afx:=@List.getElem?_take_of_lt
abbrev abq:=@List.not_mem_nil
abbrev afy:=@List.filter_cons_of_pos
abbrev afz:=@List.filter_cons_of_neg
abbrev abr:=@List.find?_some
abbrev XT:=@Sum.inl.inj
abbrev afA:=@List.filterMap_append
abbrev afB:=@List.getElem?_toArray
abbrev abt:=@Bool.and_false
abbrev XU:=@beq_iff_eq
abbrev abu:=@Bool.not_true
abbrev abv:=@Bool.true_and
abbrev abw:=@List.map_take
abbrev abx:=@List.map_drop
abbrev aby:=@Bool.or_assoc
abbrev abz:=@Nat.ne_of_gt
abbrev abA:=@Nat.sub_self
noncomputable section
namespace Go.Ge
inductive Ty where
 | int (k:IntKind)|bool|str|slice (e:Ty)|arr (n:Nat) (e:Ty)|pair (a b:Ty)|unit
 | alt (u:Nat) (a r:Ty)|zH
def Ty.den:Ty->Type
 | .int _=>Int
 | .bool=>Bool
 | .str=>aq
 | .slice e=>List e.den
 | .arr _ e=>List e.den
 | .pair a b=>a.den×b.den
 | .unit=>ai
 | .alt _ a r=>a.den⊕r.den
 | .zH=>ai
def y6:IntKind->Nat
 | .i8=>0|.i16=>1|.i32=>2|.i64=>3|.u8=>4|.u16=>5|.u32=>6|.u64=>7
theorem xa{a b:IntKind}(h:Nat.beq (y6 a) (y6 b)=true):a=b:=by
 cases a<;>cases b<;>first|rfl|(exact absurd h<|by decide)
def Ty.beq:Ty->Ty->Bool
 | .int k,.int g=>Nat.beq (y6 k) (y6 g)
 | .bool,.bool=>true
 | .str,.str=>true
 | .slice e,.slice f=>Ty.beq e f
 | .arr n e,.arr m f=>Nat.beq n m&&Ty.beq e f
 | .pair a b,.pair c d=>Ty.beq a c&&Ty.beq b d
 | .unit,.unit=>true
 | .alt u a r,.alt v b s=>Nat.beq u v&&(Ty.beq a b&&Ty.beq r s)
 | .zH,.zH=>true
 | _,_=>false
theorem Ty.eq_of_beq:∀{a b:Ty},Ty.beq a b=true->a=b:=by
 intro a;induction a with
 | int k=>intro b h;cases b<;>first|(exact congrArg _<|xa h)|(cases h)
 | bool=>intro b h;cases b<;>first|rfl|(cases h)
 | str=>intro b h;cases b<;>first|rfl|(cases h)
 | slice e f=>intro b h;cases b<;>first|(exact congrArg _<|f h)|(cases h)
 | arr n e f =>
   intro b h;cases b<;>first|(cases h;done)|skip
   simp only[Ty.beq,dF] at h;rw[eT h.1,f h.2]
 | pair a b d g =>
   intro c h;cases c<;>first|(cases h;done)|skip
   simp only[Ty.beq,dF] at h;rw[d h.1,g h.2]
 | unit=>intro b h;cases b<;>first|rfl|(cases h)
 | alt u a r d i =>
   intro c h;cases c<;>first|(cases h;done)|skip
   simp only[Ty.beq,dF] at h;rw[eT h.1,d h.2.1,i h.2.2]
 | zH=>intro b h;cases b<;>first|rfl|(cases h)
def Ty.to(t u:Ty)(x:t.den):Option u.den :=
 if h:Ty.beq t u=true then some ((Ty.eq_of_beq h)▸x) else none
theorem Ty.beq_refl(t:Ty):Ty.beq t t=true:=by
 induction t with
 | int k=>cases k<;>rfl
 | bool=>rfl
 | str=>rfl
 | slice e d=>exact d
 | arr n e d=>simp[Ty.beq,d]
 | pair a b c f=>simp[Ty.beq,c,f]
 | unit=>rfl
 | alt u a r c g=>simp[Ty.beq,c,g]
 | zH=>rfl
theorem Ty.kz{t u:Ty}{x:t.den}{y:u.den}(h:Ty.to t u x=some y):∃e:t=u,y=e▸x:=by
 unfold Ty.to at h;split at h
 .rename_i a;exact⟨Ty.eq_of_beq a,by simpa using h.symm⟩
 .cases h
def toL(t u:Ty)(l:List t.den):Option (List u.den) :=
 if h:Ty.beq t u=true then some ((Ty.eq_of_beq h)▸l) else none
theorem jP{t u:Ty}{l:List t.den}{m:List u.den}(h:toL t u l=some m):∃e:t=u,m=e▸l:=by
 unfold toL at h;split at h
 .rename_i a;exact⟨Ty.eq_of_beq a,by simpa using h.symm⟩
 .cases h
def Ty.size:Ty->Nat
 | .int _|.bool|.str|.slice _=>1
 | .arr n e=>n*e.size
 | .pair a b=>a.size+b.size
 | .unit=>0
 | .alt _ _ r=>r.size
 | .zH=>1
def Ty.isAgg:Ty->Bool
 | .arr ..|.pair ..|.unit=>true
 | .alt _ _ r=>r.isAgg
 | _=>false
def Ty.zero:(t:Ty)->t.den
 | .int _=>(0:Int)
 | .bool=>false
 | .str=>([]:aq)
 | .slice _=>[]
 | .arr n e=>List.replicate n e.zero
 | .pair a b=>(a.zero,b.zero)
 | .unit=>()
 | .alt _ _ r=>.inr r.zero
 | .zH=>()
def aj{α:Type}(c:Bool)(x y:α):α:=bif c then x else y
def ab{a b:Type}(o:Option a)(f:a->Option b):Option b:=o.bind f
def nt(b:Bool):Bool:=!b
def an(a b:Bool):Bool:=a&&b
def oor(a b:Bool):Bool:=a||b
def aL(a b:Int):Bool:=decide (a=b)
def cR(a b:Nat):Bool:=Nat.beq a b
def aO(a b:Int):Bool:=decide (a<b)
def ca(a b:Int):Bool:=decide (a<=b)
def bz(a b:aq):Bool:=decide (a=b)
def jH(a b:aq):Bool:=Op.bytesLess a b
def eqL(a b:List Int):Bool:=decide (a=b)
def eqB(a b:Bool):Bool:=a==b
def cA{S:Type}(o:Option (S⊕(Nat×S))):Option (S⊕S):=o.map λr=>match r with|.inl x=>.inl x|.inr y=>.inr y.2
def ax(k:IntKind)(a b:Int):Int:=k.wrap (a+b)
def cE(k:IntKind)(a b:Int):Int:=k.wrap (a-b)
def gU(k:IntKind)(a b:Int):Int:=k.wrap (a*b)
def Ix(k:IntKind)(a b:Int):Int:=k.wrap (a.tdiv b)
def iA(a b:Int):Int:=a.tmod b
def kq(k:IntKind)(a:Int):Int:=k.wrap a
def jQ(k:IntKind)(x y:Int):Int:=k.wrap (BitVec.ofInt k.bits x &&& BitVec.ofInt k.bits y).toNat
def xc(k:IntKind)(x y:Int):Int:=k.wrap (BitVec.ofInt k.bits x ||| BitVec.ofInt k.bits y).toNat
def fC(k:IntKind)(x y:Int):Int:=k.wrap (BitVec.ofInt k.bits x ^^^ BitVec.ofInt k.bits y).toNat
def afC(k:IntKind)(x y:Int):Int:=k.wrap (BitVec.ofInt k.bits x &&& ~~~BitVec.ofInt k.bits y).toNat
def afT(a b:Int):Int:=bif decide (b<a) then b else a
def imax(a b:Int):Int:=bif decide (a<b) then b else a
def lS(k:IntKind)(a b:Int):Int:=k.wrap (a*2 ^ (min b.toNat k.bits))
def mQ(k:IntKind)(a b:Int):Int:=a.fdiv (2 ^ (min b.toNat k.bits))
def plus(a b:Int):Int:=a+b
def minus(a b:Int):Int:=a-b
def len{α:Type}(l:List α):Int:=l.length
def app{α:Type}(l m:List α):List α:=l++m
def one{α:Type}(x:α):List α:=[x]
def idx{α:Type}(l:List α)(i:Int):Option α:=if 0<=i then l[i.toNat]? else none
def jF{α:Type}(l:List α)(i:Int)(x:α):List α:=l.set i.toNat x
def iB{a:Type}(n:Int)(x:a):List a:=List.replicate n.toNat x
def sub{α:Type}(l:List α)(a n:Int):List α:=(l.drop a.toNat).take n.toNat
def gC{α:Type}(l:List α)(n:Int):List α:=l.take n.toNat
def over{α:Type}(l:List α)(a:Int)(c:List α):List α:=l.take a.toNat++c++l.drop (a.toNat+c.length)
def pick{d e c:Type}(f:d->c)(g:e->c)(x:d⊕e):c:=match x with|.inl a=>f a|.inr b=>g b
def u8(b:UInt8):Int:=(b.toNat:Int)
def av(s:aq):List Int:=s.map λb=>(b.toNat:Int)
def aX(l:List Int):aq:=l.map λn=>UInt8.ofNat n.toNat
def fits(n:Int):Bool:=decide (n<=4294967296)
def inside(a b n:Int):Bool:=decide (0<=a)&&decide (a<=b)&&decide (b<=n)
def within(i n:Int):Bool:=decide (0<=i)&&decide (i<n)
inductive Tree (α:Type):Type 1 where
 | ret (a:α)
 | fail
 | node (c:Bool) (t e:Tree α)
 | look {T:Type} (o:Option T) (k:T->Tree α)
namespace Tree
def bind{α b:Type}:Tree α->(α->Tree b)->Tree b
 | .ret a,f=>f a
 | .fail,_=>.fail
 | .node c t e,f=>.node c (t.bind f) (e.bind f)
 | .look o k,f=>.look o λx=>(k x).bind f
def run{α:Type}:Tree α->Option α
 | .ret a=>some a
 | .fail=>none
 | .node c t e=>aj c t.run e.run
 | .look o k=>ab o λx=>(k x).run
def join{T a:Type}(t:Tree T)(k:T->Tree a):Tree a :=
 match t with
 | .ret x=>k x
 | .node c (.ret x) (.ret y)=>k (aj c x y)
 | t=>.look t.run k
def XV{T a:Type}(b:Bool)(t:Tree T)(k:T->Tree a):Tree a:=bif b then .look t.run k else t.join k
def need{α:Type}(c:Bool)(t:Tree α):Tree α:=.node c t .fail
def abB{b:Type}:Option b->Tree b
 | some a=>.ret a
 | none=>.fail
end Tree
inductive CU where
 | fD (k off:Nat)
 | idx (i:Int) (size:Nat)
inductive aK where
 | undef
 | data (t:Ty) (x:t.den)
 | nJ
 | dK
 | rL
 | vk (b aI:Nat)
 | cell (t:Ty) (x:t.den)
 | ptr (b aI:Nat) (p:List CU)
 | whole (b aI:Nat)
 | part (b aI:Nat) (lo n:Int)
 | win (b aI:Nat) (q:List CU) (e:Ty) (k:Nat) (lo n:Int)
 | fn (f:Nat) (ag8:List (Nat×Nat))
 | mix (a b:aK)
 | y7 (vs:aK)
 | nl
structure Box where
 val:aK
 tid:TypeId
 buf:Bool
 ro:Bool
 lk:Bool
 aI:Nat
structure St where
 slots:Nat->aK
 mem:Nat->Option Box
structure x4 where
 A:Ty
 R:Ty
 spec:A.den->Option R.den
inductive OT where
 | zL (t:Ty)
 | buf (e:Ty) (Y1:Nat)
 | ref (tid:Nat) (o:OT)
 | pair (a b:OT)
 | unit
 | dK
def OT.den:OT->Type
 | .zL t=>t.den
 | .buf e _=>List e.den
 | .ref _ o=>o.den
 | .pair a b=>a.den×b.den
 | .unit=>ai
 | .dK=>ai
def OT.nr:OT->Nat
 | .ref _ o=>o.nr+1
 | .pair a b=>a.nr+b.nr
 | _=>0
def OT.nb:OT->Nat
 | .buf ..=>1
 | .ref _ o=>o.nb
 | .pair a b=>a.nb+b.nb
 | _=>0
structure xd where
 ps:List Bool
 A:Ty
 U:OT
 R:Ty
 spec:A.den×U.den->Option (R.den×U.den)
inductive mR where
 | zL (t:Ty)
 | buf (e:Ty) (Y1:Nat)
 | one
 | self
inductive Y2 where
 | chk (T:Nat)
 | str (T E:Nat)
 | clone (e:Ty)
 | own (e A:Ty) (res:Bool) (spec:List e.den->A.den->Option (List e.den))
 | D2 (g:Nat)
structure Ctx where
 T:List (Nat×Ty)
 qx:List Nat
 kT:List Nat
 fns:List (Nat×Func)
 con:List (Nat×x4)
 Ql:List (Nat×xd)
 sx:List (Nat×List mR)
 Nn:List (Nat×Y2)
 XW:List (Nat×Nat)
 inv:List (String×x4)
def SR{b:Type}:List (String×b)->String->Option b
 | [],_=>none
 | (i,a)::r,k=>bif decide (i=k) then some a else SR r k
def find{α:Type}:List (Nat×α)->Nat->Option α
 | [],_=>none
 | (i,a)::r,k=>bif Nat.beq i k then some a else find r k
def St.put(a:St)(d:Nat)(v:aK):St:={ a with slots:=λt=>bif Nat.beq t d then v else a.slots t }
def St.aS(a:St)(d:Option Nat)(v:aK):St:=match d with|some d=>a.put d v|none=>a
def St.bT(a:St)(b:Nat)(x:Box):St:={ a with mem:=λi=>bif Nat.beq i b then some x else a.mem i }
def St.aJ{c:Type}(a:St)(b:Nat)(val:aK)(tid:TypeId)(buf:Bool)(k:Nat->St->Tree c):Tree c :=
 match a.mem b with
 | some bx=>bif bx.lk then .fail else k (bx.aI+1) (a.bT b { val,tid,buf,ro:=false,lk:=false,aI:=bx.aI+1 })
 | none=>k 0 (a.bT b { val,tid,buf,ro:=false,lk:=false,aI:=0 })
def cK:List Nat->Nat->Bool
 | [],_=>false
 | i::r,t=>Nat.beq t i||cK r t
def SS(f:Nat):Nat:=bif Nat.blt f 10000000 then f else f % 10000000
def abC(f:Nat)(a b:List aK):List aK:=bif Nat.blt f 10000000 then a++b else b++a
def xe(f:Nat)(a:Array Value):Value:=bif Nat.blt f 10000000 then .func (.func f) #[] a else .func (.func<|f % 10000000) a #[]
def Ku:Value->aK
 | .int k n=>bif decide (k.min<=n)&&decide (n<=k.max) then .data (.int k) n else .undef
 | .bool b=>.data .bool b
 | .string s=>bif Nat.ble s.data.toList.length 4294967296 then .data .str s.data.toList else .undef
 | .pointer none=>.dK
 | .nilIface=>.rL
 | .slice none 0 0=>.nJ
 | _=>.undef
def cp(a:St):Operand->aK
 | .tmp t=>a.slots t
 | .const v=>Ku v
 | .func f=>bif Nat.blt f 10000000 then .fn f [] else .undef
 | .global _=>.undef
def jr:Ty->Nat->Option Nat
 | .pair _ _,0=>some 0
 | .pair a b,k+1=>(jr b k).map (a.size+·)
 | _,_=>none
def da:aK->Nat
 | .data t _=>t.size
 | .mix a b=>da a+da b
 | .nl=>0
 | _=>1
def oD:(t:Ty)->t.den->Nat->Option (Nat×aK)
 | .pair a _,x,0=>some (0,.data a x.1)
 | .pair a b,x,k+1=>match oD b x.2 k with|some r=>some (a.size+r.1,r.2)|none=>none
 | _,_,_=>none
def mi:aK->Nat->Option (Nat×aK)
 | .data t x,k=>oD t x k
 | .mix a _,0=>some (0,a)
 | .mix a b,k+1=>match mi b k with|some r=>some (da a+r.1,r.2)|none=>none
 | _,_=>none
def toD(t:Ty):aK->Option t.den
 | .data u x=>Ty.to u t x
 | .nJ=>match t with|.slice _=>some []|_=>none
 | _=>none
def toS(t:Ty):aK->Option t.den
 | .data u x=>Ty.to u t x
 | _=>none
def JH:(t:Ty)->t.den->Nat->(aK->Tree aK)->Tree t.den
 | .pair a b,x,0,f=>(f<|.data a x.1).bind λv=>match toS a v with
   | some y=>.ret (y,x.2)
   | none=>.fail
 | .pair a b,x,k+1,f=>(JH b x.2 k f).bind λy=>.ret (x.1,y)
 | _,_,_,_=>.fail
def FU:aK->Nat->(aK->Tree aK)->Tree aK
 | .data t x,k,f=>(JH t x k f).bind λy=>.ret (.data t y)
 | .mix a b,0,f=>(f a).bind λv=>.ret (.mix v b)
 | .mix a b,k+1,f=>(FU b k f).bind λv=>.ret (.mix a v)
 | _,_,_=>.fail
def Y3:List CU->aK->Tree aK
 | [],v=>.ret v
 | .fD k off::p,v=>match mi v k with
   | some (o,u)=>bif Nat.beq o off then Y3 p u else .fail
   | none=>.fail
 | .idx i size::p,v=>match v with
   | .data (.arr _ e) l=>bif Nat.beq size e.size then .look (idx (α:=e.den) l i) λx=>Y3 p (.data e x) else .fail
   | _=>.fail
def Y4(a:Bool)(p:List CU)(v:aK):Tree aK :=
 match a with
 | false=>Y3 p v
 | true=>match p,v with
   | .idx i size::p,.data (.slice e) l=>bif Nat.beq size e.size then .look (idx (α:=e.den) l i) λx=>Y3 p (.data e x) else .fail
   | _,_=>.fail
def v8:List CU->aK->aK->Tree aK
 | [],_,u=>.ret u
 | .fD k off::p,v,u=>FU v k λw=>v8 p w u
 | .idx i size::p,v,u=>match v with
   | .data (.arr n e) l=>.look (idx (α:=e.den) l i) λx=>(v8 p (.data e x) u).bind λw=>match toS e w with
     | some y=>.ret (.data (.arr n e)<|jF (α:=e.den) l i y)
     | none=>.fail
   | _=>.fail
def JI(a:Bool)(p:List CU)(v u:aK):Tree aK :=
 match a with
 | false=>v8 p v u
 | true=>match p,v with
   | .idx i size::p,.data (.slice e) l=>.look (idx (α:=e.den) l i) λx=>(v8 p (.data e x) u).bind λw=>match toS e w with
     | some y=>.ret (.data (.slice e)<|jF (α:=e.den) l i y)
     | none=>.fail
   | _,_=>.fail
namespace Tree
theorem run_bind{α g:Type}(t:Tree α)(f:α->Tree g):(t.bind f).run=t.run.bind λa=>(f a).run:=by
 induction t with
 | ret a=>rfl
 | fail=>rfl
 | node c t e b d=>cases c<;>simp[bind,run,b,d,aj]
 | look o k h=>cases o<;>simp[bind,run,h,ab]
theorem D3{T b:Type}(t:Tree T)(k:T->Tree b):(t.join k).run=t.run.bind λa=>(k a).run:=by
 unfold join;split
 .rfl
 .rename_i c x y;cases c<;>rfl
 .rfl
theorem FV{T c:Type}(b:Bool)(t:Tree T)(k:T->Tree c):(t.XV b k).run=t.run.bind λa=>(k a).run:=by
 cases b with
 | true=>rfl
 | false=>exact D3 t k
end Tree
def rM:Ty->Nat->Option Ty
 | .pair a _,0=>some a
 | .pair _ b,k+1=>rM b k
 | _,_=>none
def Ty.flat:Ty->Bool
 | .slice _=>false
 | .arr _ e=>e.flat
 | .pair a b=>a.flat&&b.flat
 | .alt _ a r=>a.flat&&r.flat
 | _=>true
def Box.row(bx:Box):Option (Ty×Nat) :=
 match bx.buf,bx.val with
 | true,.data (.slice e) l=>some (e,List.length (α:=e.den) l)
 | false,.data (.arr n e) _=>some (e,n)
 | _,_=>none
def fZ(e:Ty)(c:St):aK->Option (List e.den)
 | .data (.slice u) l=>toL u e l
 | .nJ=>some []
 | .whole b aI=>match c.mem b with
   | some a=>bif Nat.beq a.aI aI&&a.buf then(match a.val with|.data (.slice u) l=>toL u e l|_=>none) else none
   | none=>none
 | .part b aI lo n=>match c.mem b with
   | some a=>bif Nat.beq a.aI aI then(match a.buf,a.val with
     | true,.data (.slice u) l=>toL u e (sub (α:=u.den) l lo n)
     | false,.data (.arr _ u) l=>toL u e (sub (α:=u.den) l lo n)
     | _,_=>none) else none
   | none=>none
 | _=>none
def live(c:St)(b a:Nat):Bool:=match c.mem b with|some d=>Nat.beq d.aI a|none=>false
def qg(c:St):(t:Ty)->aK->Option t.den
 | .slice e,v=>(fZ e c v:Option (List e.den))
 | .pair a b,v=>match v with
   | .data u x=>Ty.to u (.pair a b) x
   | .mix p q=>(match qg c a p,qg c b q with
     | some x,some y=>some (x,y)
     | _,_=>none)
   | _=>none
 | .alt n a r,v=>match v with
   | .data u x=>Ty.to u (.alt n a r) x
   | .rL=>match qg c r .rL with
     | some x=>some (.inr x)
     | none=>none
   | _=>none
 | .zH,v=>match v with
   | .data u x=>Ty.to u .zH x
   | .rL=>some ()
   | _=>none
 | t,v=>match v with
   | .data u x=>Ty.to u t x
   | _=>none
def freeze(a:St)(b:Nat):Option St :=
 match a.mem b with
 | some c=>bif c.ro then some a else bif c.lk then none else some (a.bT b { c with ro:=true })
 | none=>none
def gp(a:St):aK->Option St
 | .whole b _=>freeze a b
 | .part b _ _ _=>freeze a b
 | .mix v w=>match gp a v with
   | some a=>gp a w
   | none=>none
 | _=>some a
def xf(a:St)(t:Ty)(v:aK):Option (t.den×St) :=
 match v with
 | .data u x=>match Ty.to u t x with|some y=>some (y,a)|none=>none
 | v=>match qg a t v,gp a v with
   | some x,some a=>some (x,a)
   | _,_=>none
def ig(σ:St):(A:Ty)->List aK->Option A.den
 | .unit,[]=>some ()
 | .pair t r,v::vs=>match qg σ t v,ig σ r vs with
   | some x,some y=>some (x,y)
   | _,_=>none
 | _,_=>none
def kA(a:St):(A:Ty)->List aK->Option (A.den×St)
 | .unit,[]=>some ((),a)
 | .pair t r,v::vs=>match xf a t v with
   | some (x,a)=>match kA a r vs with
     | some (y,a)=>some ((x,y),a)
     | none=>none
   | none=>none
 | _,_=>none
def zS:(R:Ty)->R.den->aK
 | .pair t r,x=>.mix (.data t x.1) (zS r x.2)
 | _,_=>.nl
def ue(R:Ty)(x:R.den):aK :=
 match R,x with
 | .pair t .unit,x=>.data t x.1
 | R,x=>.y7 (zS R x)
def nth:aK->Nat->Option aK
 | .mix a _,0=>some a
 | .mix _ b,k+1=>nth b k
 | _,_=>none
def bitsOf(a:BinOp)(k:IntKind)(x y:Int):Option Int :=
 match a with
 | .and=>some (jQ k x y)
 | .or=>some (xc k x y)
 | .xor=>some (fC k x y)
 | .andNot=>some (afC k x y)
 | _=>none
def Ty.eqv:(t:Ty)->t.den->t.den->Option Bool
 | .int _,x,y=>some (aL x y)
 | .bool,x,y=>some (eqB x y)
 | .str,x,y=>some (bz x y)
 | .pair a b,x,y=>match Ty.eqv a x.1 y.1,Ty.eqv b x.2 y.2 with
   | some p,some q=>some (an p q)
   | _,_=>none
 | .unit,_,_=>some true
 | .arr _ e,x,y=>match e,x,y with
   | .int _,x,y=>some (eqL x y)
   | _,_,_=>none
 | _,_,_=>none
def Ty.D4:Ty->Nat
 | .pair a b=>a.D4+b.D4+1
 | .arr _ e=>e.D4+1
 | _=>1
def Vv(d:BinOp)(k:IntKind)(a b:Int):Tree aK :=
 match d with
 | .add=>.ret (.data (.int k)<|ax k a b)
 | .sub=>.ret (.data (.int k)<|cE k a b)
 | .mul=>.ret (.data (.int k)<|gU k a b)
 | .quo=>.node (aL b 0) .fail (.ret<|.data (.int k)<|Ix k a b)
 | .rem=>.node (aL b 0) .fail (.ret<|.data (.int k)<|iA a b)
 | .eql=>.ret (.data .bool<|aL a b)
 | .neq=>.ret (.data .bool<|nt<|aL a b)
 | .lss=>.ret (.data .bool<|aO a b)
 | .leq=>.ret (.data .bool<|ca a b)
 | .gtr=>.ret (.data .bool<|aO b a)
 | .geq=>.ret (.data .bool<|ca b a)
 | d=>match bitsOf d k a b with
   | some c=>.ret (.data (.int k) c)
   | none=>.fail
def Vw(a:BinOp)(x y:aq):Tree aK :=
 match a with
 | .add=>.need (fits<|plus (len x)<|len y) (.ret<|.data .str<|app x y)
 | .eql=>.ret (.data .bool<|bz x y)
 | .neq=>.ret (.data .bool<|nt<|bz x y)
 | .lss=>.ret (.data .bool<|jH x y)
 | .leq=>.ret (.data .bool<|oor (jH x y)<|bz x y)
 | .gtr=>.ret (.data .bool<|nt<|oor (jH x y)<|bz x y)
 | .geq=>.ret (.data .bool<|nt<|jH x y)
 | _=>.fail
def isEq:BinOp->Option Bool
 | .eql=>some true
 | .neq=>some false
 | _=>none
def D5:BinOp->Option Bool
 | .shl=>some true
 | .shr=>some false
 | _=>none
def FW(o:Option Ty)(t:Ty):Bool:=match o with|some u=>Ty.beq u t|none=>false
def bin(f:Option Ty)(g:Bool)(d:BinOp)(x y:aK):Tree aK :=
 match x,y with
 | .data (.int k) a,.data (.int h) b =>
   match D5 d with
   | some left=>.node (aO b 0) .fail (.ret<|.data (.int k)<|bif left then lS k a b else mQ k a b)
   | none=>bif Nat.beq (y6 k) (y6 h) then Vv d k a b else .fail
 | .data .str a,.data .str b=>Vw d a b
 | .data .bool a,.data .bool b=>bif FW f .bool then(match isEq d with
   | some true=>.ret (.data .bool<|eqB a b)
   | some false=>.ret (.data .bool<|nt<|eqB a b)
   | none=>.fail) else .fail
 | .data (.pair a b) x,.data t y=>bif FW f (.pair a b)&&Nat.ble (Ty.pair a b).D4 9000 then(match Ty.to t (.pair a b) y,isEq d with
   | some y,some e=>match Ty.eqv (.pair a b) x y with
     | some c=>.ret (.data .bool<|bif e then c else nt c)
     | none=>.fail
   | _,_=>.fail) else .fail
 | .data (.arr n e) x,.data t y=>bif FW f (.arr n e)&&Nat.ble (Ty.arr n e).D4 9000 then(match Ty.to t (.arr n e) y,isEq d with
   | some y,some q=>match Ty.eqv (.arr n e) x y with
     | some c=>.ret (.data .bool<|bif q then c else nt c)
     | none=>.fail
   | _,_=>.fail) else .fail
 | .dK,.dK=>match g,isEq d with|true,some e=>.ret (.data .bool e)|_,_=>.fail
 | _,_=>.fail
def abD(d:St)(f:Option Ty)(a:Bool)(c:BinOp)(x y:aK):Tree aK :=
 match x,y with
 | .ptr b aI _,.dK=>bif live d b aI&&a then(match isEq c with|some e=>.ret (.data .bool<|!e)|none=>.fail) else .fail
 | .dK,.ptr b aI _=>bif live d b aI&&a then(match isEq c with|some e=>.ret (.data .bool<|!e)|none=>.fail) else .fail
 | x,y=>bin f a c x y
def Qm(c:Bool)(x y:aK):Tree aK :=
 match x,y with
 | .data (.int k) a,.data (.int d) b=>bif Nat.beq (y6 k) (y6 d) then .ret (.data (.int k)<|bif c then afT a b else imax a b) else .fail
 | _,_=>.fail
def un(a:UnOp)(x:aK):Tree aK :=
 match a,x with
 | .not,.data .bool b=>.ret (.data .bool<|nt b)
 | .neg,.data (.int k) n=>.ret (.data (.int k)<|cE k 0 n)
 | .xor,.data (.int k) n=>.ret (.data (.int k)<|fC k (bif k.signed then -1 else k.max) n)
 | _,_=>.fail
def Kv:(t:Ty)->t.den->Nat->(u:Ty)->u.den->Option t.den
 | .pair a b,x,0,u,y=>match Ty.to u a y with|some y=>some (y,x.2)|none=>none
 | .pair a b,x,k+1,u,y=>match Kv b x.2 k u y with|some z=>some (x.1,z)|none=>none
 | _,_,_,_,_=>none
def ga(a:St)(t:Ty)(x:t.den):List (Nat×Operand)->Option (t.den×St)
 | []=>some (x,a)
 | (k,o)::r=>match rM t k with
   | some u=>match xf a u (cp a o) with
     | some (y,a)=>match Kv t x k u y with
       | some x=>ga a t x r
       | none=>none
     | none=>none
   | none=>none
def fb(a:St)(e:Ty)(l:List e.den):List (Nat×Operand)->Option (List e.den×St)
 | []=>some (l,a)
 | (k,o)::r=>match xf a e (cp a o) with
   | some (y,a)=>bif Nat.blt k l.length then fb a e (l.set k y) r else none
   | none=>none
def lenOf(c:St):aK->Option Int
 | .data .str s=>some (len (α:=UInt8) s)
 | .data (.slice e) l=>some (len (α:=e.den) l)
 | .data (.arr n _) _=>bif Nat.ble n 4294967296 then some n else none
 | .nJ=>some 0
 | .whole b aI=>match c.mem b with
   | some a=>bif Nat.beq a.aI aI&&a.buf then(match a.val with|.data (.slice u) l=>some (len (α:=u.den) l)|_=>none) else none
   | none=>none
 | .part b aI _ n=>bif live c b aI then some n else none
 | _=>none
def XX(o:Option Ty):aK->Bool
 | .data .str _=>FW o .str
 | .data (.slice e) _=>FW o (.slice e)
 | .data (.arr n e) _=>FW o (.arr n e)
 | .nJ|.whole ..|.part ..=>match o with|some (.slice _)=>true|_=>false
 | _=>false
def bounds(c:St)(n:Int)(d e:Option Operand):Option (Int×Int) :=
 match d,e with
 | none,none=>some (0,n)
 | some a,none=>match cp c a with|.data (.int _) x=>some (x,n)|_=>none
 | none,some b=>match cp c b with|.data (.int _) y=>some (0,y)|_=>none
 | some a,some b=>match cp c a,cp c b with|.data (.int _) x,.data (.int _) y=>some (x,y)|_,_=>none
def isRef:aK->Bool
 | .ptr ..|.whole ..|.part ..|.fn ..|.dK|.rL|.vk ..|.mix ..|.cell ..|.nJ=>true
 | _=>false
section
variable (cx:Ctx) (nb:Nat) (bf:List Nat) (inl:Nat->List aK->St->Tree (aK×St))
def js(d:Option Nat)(c:TypeId)(v:aK)(a:St):Tree St :=
 match v with
 | .undef=>bif cK cx.qx c then .ret (a.aS d .undef) else .fail
 | .nJ=>match d,find cx.T c with
   | some d,some (.slice e)=>bif cK bf d then a.aJ (nb+d) (.data (.slice e) []) 0 true λb a=>.ret (a.put d<|.whole (nb+d) b)
     else .ret (a.put d<|.data (.slice e) [])
   | _,_=>.ret (a.aS d .nJ)
 | v=>.ret (a.aS d v)
def nK(d:Option Nat)(c a b:aK)(e:St):Tree St :=
 match c with
 | .data .bool c=>match a,b with
   | .data t x,.data u y=>match Ty.to u t y with
     | some y=>.ret (e.aS d<|.data t<|aj c x y)
     | none=>.fail
   | a,b=>.node c (.ret<|e.aS d a) (.ret<|e.aS d b)
 | _=>.fail
def XY:(t:Ty)->t.den->aK
 | .pair a b,x=>.mix (.data a x.1) (XY b x.2)
 | t,x=>.data t x
def abE:aK->aK
 | .data t x=>XY t x
 | v=>v
def Y5:Ty->aK->Bool
 | .slice _,.whole ..=>true
 | t,.data u _=>Ty.beq u t
 | _,_=>false
def SU:Ty->aK->Bool
 | .pair a b,.mix p q=>Y5 a p&&SU b q
 | t,.data u _=>Ty.beq u t
 | _,_=>false
def abF(u:Ty):aK->Bool
 | .whole b aI=>Y5 u (.whole b aI)
 | .mix p q=>SU u (.mix p q)
 | _=>false
def abG:aK->Bool
 | .data (.pair _ _) _=>true
 | .mix ..=>true
 | _=>false
def x9(a:TypeId):aK->Bool
 | .mix p q=>match find cx.T a with|some u=>SU u (.mix p q)|none=>false
 | _=>false
def wa(a:TypeId):aK->Bool
 | .data u _=>FW (find cx.T a) u
 | .whole ..=>match find cx.T a with|some (.slice _)=>true|_=>false
 | .ptr ..|.dK|.fn ..=>cK cx.qx a
 | _=>false
def kU(d:Option Nat)(c:TypeId)(a:aK)(e:St):Tree St :=
 match a with
 | .cell u x=>bif FW (find cx.T c) u then .ret (e.aS d<|.data u x) else .fail
 | .ptr b aI p=>match e.mem b with
   | some f=>bif Nat.beq f.aI aI then(Y4 f.buf p f.val).bind λv=>bif wa cx c v||x9 cx c v then .ret (e.aS d v) else .fail else .fail
   | none=>.fail
 | _=>.fail
def storeAt(b a:Nat)(p:List CU)(d:aK->Bool)(v:aK)(f:St):Tree St :=
 match f.mem b with
 | some bx=>bif Nat.beq bx.aI a&&!bx.lk&&!bx.ro then
    (Y4 bx.buf p bx.val).bind λe=>bif d e then(JI bx.buf p bx.val v).bind λc=>.ret (f.bT b { bx with val:=c }) else .fail
   else .fail
 | none=>.fail
def oh(b a:Nat)(p:List CU)(n:Nat)(v:aK)(e:St):Tree St :=
 match e.mem b with
 | some bx=>bif Nat.beq bx.aI a&&!bx.lk&&!bx.ro&&!bx.buf&&abG bx.val then
    (Y3 p<|abE bx.val).bind λd=>bif Nat.beq (da d) n then(v8 p (abE bx.val) v).bind λc=>bif abG c then .ret (e.bT b { bx with val:=c }) else .fail else .fail
   else .fail
 | none=>.fail
def Y6(u:Ty):aK->Bool
 | .data t _=>Ty.beq t u
 | _=>false
def XZ:aK->Bool
 | .undef=>true
 | _=>false
def lD(e:TypeId)(a v:aK)(d:St):Tree St :=
 match a with
 | .ptr b aI p=>match d.mem b with
   | some f=>bif Nat.beq f.aI aI then(Y4 f.buf p f.val).bind λc=>match c with
      | .data u _=>bif FW (find cx.T e) u then(bif cK bf 8000000&&abF u v then oh b aI p u.size v d else match xf d u v with
       | some (y,d)=>storeAt b aI p (Y6 u) (.data u y) d
       | none=>.fail) else .fail
      | _=>bif wa cx e v&&isRef v then storeAt b aI p (λc=>(wa cx e c&&isRef c)||XZ c) v d else .fail
     else .fail
   | none=>.fail
 | _=>.fail
def ya:Operand->Bool
 | .const (.slice none 0 0)=>true
 | _=>false
def D6(d:TypeId)(a:aK)(c:St):Tree St :=
 match a,find cx.T d with
 | .ptr b aI p,some (.slice e)=>bif Nat.blt 0 e.size then c.aJ (b*1000+990) (.data (.slice e) []) 0 true λv c=>oh b aI p 1 (.whole (b*1000+990) v) c else .fail
 | _,_=>.fail
def abH(d:Nat):List Nat->Option Nat
 | []=>none
 | m::r=>bif Nat.ble 8500000 m&&Nat.blt m 8999999&&Nat.beq ((m-8500000) / 10) d then some ((m-8500000) % 10) else abH d r
def afV:Ty->Nat->aK->aK
 | .pair _ b,0,v=>.mix v (XY b b.zero)
 | .pair a b,k+1,v=>.mix (.data a a.zero) (afV b k v)
 | t,_,_=>.data t t.zero
def uf(d:Nat)(t:Ty)(k:Nat)(a:St):Tree St :=
 match rM t k with
 | some (.slice e)=>bif Nat.blt 0 e.size then a.aJ (nb+d) (.data (.slice e) []) 0 true λb a=>.ret (a.put d<|afV t k<|.whole (nb+d) b) else .fail
 | _=>.fail
def zeroAt(d:Option Nat)(a:List (Nat×Operand)):Option (Nat×Nat):=match d,a with
 | some d,[]=>match abH d bf with|some k=>some (d,k)|none=>none
 | _,_=>none
def lE(d:Option Nat)(j:TypeId)(x:aK)(h i:Option Operand)(f:St):Tree St :=
 match find cx.T j,x with
 | some .str,.data .str s=>match bounds f (len (α:=UInt8) s) h i with
   | some (a,b)=>.need (inside a b<|len (α:=UInt8) s) (.ret<|f.aS d<|.data .str<|sub (α:=UInt8) s a<|minus b a)
   | none=>.fail
 | some (.slice u),.data (.slice e) l=>bif Ty.beq u e then(match bounds f (len (α:=e.den) l) h i with
   | some (a,b)=>.need (inside a b<|len (α:=e.den) l) (.ret<|f.aS d<|.data (.slice e)<|sub (α:=e.den) l a<|minus b a)
   | none=>.fail) else .fail
 | some (.slice u),.part c aI l n=>match f.mem c with
   | some g=>bif Nat.beq g.aI aI&&(match g.row with|some (e,_)=>Ty.beq u e|none=>false) then(match bounds f n h i with
     | some (a,b)=>.need (inside a b n) (.ret<|f.aS d<|.part c aI (plus l a)<|minus b a)
     | none=>.fail) else .fail
   | none=>.fail
 | some (.slice u),.whole c aI=>match f.mem c with
   | some g=>bif Nat.beq g.aI aI&&g.buf then(match g.val with
     | .data (.slice e) l=>bif Ty.beq u e then(match h,i with
       | none,none=>.ret (f.aS d<|.whole c aI)
       | h,i=>match bounds f (len (α:=e.den) l) h i with
         | some (a,b)=>.need (inside a b<|len (α:=e.den) l) (.ret<|f.aS d<|.part c aI a<|minus b a)
         | none=>.fail) else .fail
     | _=>.fail) else .fail
   | none=>.fail
 | some (.arr m u),.ptr c aI (s::q)=>bif live f c aI&&Nat.ble m 4294967296 then(match bounds f m h i with
   | some (a,b)=>.need (inside a b m) (.ret<|f.aS d<|.win c aI (s::q) u m a<|minus b a)
   | none=>.fail) else .fail
 | some (.arr m u),.ptr c aI []=>match f.mem c with
   | some g=>bif Nat.beq g.aI aI&&!g.buf then(match g.val with
     | .data (.arr n e) _=>bif Nat.beq m n&&Ty.beq u e&&Nat.ble n 4294967296 then(match bounds f n h i with
       | some (a,b)=>.need (inside a b n) (.ret<|f.aS d<|.part c aI a<|minus b a)
       | none=>.fail) else .fail
     | _=>.fail) else .fail
   | none=>.fail
 | _,_=>.fail
def yb(d:St)(b a:Nat):Option (Ty×Int):=match d.mem b with
 | some c=>bif Nat.beq c.aI a then(match c.buf,c.val with
   | true,.data (.slice e) l=>some (e,len (α:=e.den) l)
   | false,.data (.arr n e) _=>some (e,n)
   | _,_=>none) else none
 | none=>none
def Pc(a:TypeId):Option Nat :=
 match find cx.T a with
 | some _=>none
 | none=>match find cx.XW a with
   | some e=>bif cK cx.qx e then some e else none
   | none=>none
def Kw(d:Option Nat)(b a:Nat)(c:St)(i:Int):Nat->Nat->Tree St
 | 0,_=>.fail
 | m+1,k=>.node (aL i k) (.ret<|c.aS d<|.ptr b a [.fD k k]) (Kw d b a c i m<|k+1)
def JJ:List CU->Bool
 | [.fD _ off]=>Nat.beq off 0
 | _=>false
def ev(d:Option Nat)(c:TypeId)(x:aK)(i:Int)(a:St):Tree St :=
 match find cx.T c,x with
 | some (.slice u),.data (.slice e) l=>bif Ty.beq u e then .look (idx (l:List e.den) i) λy=>.ret (a.aS d<|.cell e y) else .fail
 | some (.arr m u),.cell (.arr n e) l=>bif Ty.beq u e&&Nat.beq m n then .look (idx (l:List e.den) i) λy=>.ret (a.aS d<|.cell e y) else .fail
 | some (.slice u),.whole b aI=>match yb a b aI with
   | some (e,n)=>bif Ty.beq u e then .need (within i n) (.ret<|a.aS d<|.ptr b aI [.idx i e.size]) else .fail
   | none=>.fail
 | some (.slice u),.part b aI lo n=>match yb a b aI with
   | some (e,_)=>bif Ty.beq u e then .need (within i n) (.ret<|a.aS d<|.ptr b aI [.idx (plus lo i) e.size]) else .fail
   | none=>.fail
 | some (.arr m u),.ptr b aI p=>bif live a b aI then .need (within i m) (.ret<|a.aS d<|.ptr b aI<|p++[.idx i u.size]) else .fail
 | none,.win b aI q _ _ lo n=>match Pc cx c with
   | some _=>bif JJ q&&decide (lo=0)&&live a b aI then Kw d b aI a i n.toNat 0 else .fail
   | none=>.fail
 | _,_=>.fail
def lF(d:Option Nat)(c:TypeId)(x:aK)(i:Int)(a:St):Tree St :=
 match x,Pc cx c with
 | .win b aI q _ _ lo n,some _=>bif JJ q&&decide (lo=0)&&live a b aI then(match i with
  | .ofNat k=>bif decide ((k:Int)<n) then .ret (a.aS d<|.ptr b aI [.fD k k]) else .fail
  | .negSucc _=>.fail) else .fail
 | x,_=>ev cx d c x i a
def lG(d:Option Nat)(c:TypeId)(x:aK)(i:Int)(a:St):Tree St :=
 match find cx.T c,x with
 | some .str,.data .str s=>.look (idx (s:aq) i) λb=>.ret (a.aS d<|.data (.int .u8)<|u8 b)
 | some (.arr m u),.data (.arr n e) l=>bif Ty.beq u e&&Nat.beq m n then .look (idx (l:List e.den) i) λy=>.ret (a.aS d<|.data e y) else .fail
 | _,_=>.fail
def mR.size:mR->Nat
 | .zL t=>t.size
 | _=>1
def yc:List mR->Nat->Option Nat
 | [],_=>none
 | _::_,0=>some 0
 | f::r,k+1=>match yc r k with|some o=>some (f.size+o)|none=>none
def eU(d:Option Nat)(s:TypeId)(x:aK)(k:Nat)(a:St):Tree St :=
 match x with
 | .cell u y=>bif FW (find cx.T s) u then(match mi (.data u y) k with
   | some (_,.data t z)=>.ret (a.aS d<|.cell t z)
   | _=>.fail) else .fail
 | .ptr b aI p=>bif live a b aI then(match find cx.T s with
   | some t=>match jr t k,rM t k with
     | some off,some _=>.ret (a.aS d<|.ptr b aI<|p++[.fD k off])
     | _,_=>.fail
   | none=>match find cx.sx s with
     | some c=>match yc c k with
       | some off=>.ret (a.aS d<|.ptr b aI<|p++[.fD k off])
       | none=>.fail
     | none=>.fail) else .fail
 | _=>.fail
def gD(d:Option Nat)(b dst:TypeId)(x:aK)(a:St):Tree St :=
 match find cx.T b,find cx.T dst,x with
 | some (.int _),some (.int k),.data (.int _) n=>.ret (a.aS d<|.data (.int k)<|kq k n)
 | some .str,some .str,.data .str s=>.ret (a.aS d<|.data .str s)
 | some .str,some (.slice<|.int .u8),.data .str s=>match d with
   | some d=>.need (fits<|len (α:=UInt8) s) (a.aJ (nb+d) (.data (.slice<|.int .u8)<|av s) 0 true λc a=>.ret (a.put d<|.whole (nb+d) c))
   | none=>.fail
 | some (.slice<|.int .u8),some .str,x=>match fZ (.int .u8) a x with
   | some l=>.ret (a.aS d<|.data .str<|aX l)
   | none=>.fail
 | _,_,_=>.fail
def ug(e:Ty)(a:St)(x:aK):Option (List e.den):=match x with
 | .data .str t=>toL (.int .u8) e (av t)
 | x=>fZ e a x
def afW(a t:Nat):Bool:=Nat.beq t 0||(match find cx.XW a with|some e=>Nat.beq e t|none=>false)
def gV(d:Option Nat)(ty:TypeId)(s x:aK)(a:St):Tree St :=
 match d,find cx.T ty with
 | some d,some (.slice e) =>
   match ug e a x with
   | some m=>match s with
     | .nJ=>.need (fits<|len (α:=e.den) m) (a.aJ (nb+d) (.data (.slice e) m) 0 true λaI a=>.ret (a.put d<|.whole (nb+d) aI))
     | .whole b aI=>match a.mem b,fZ e a (.whole b aI) with
       | some c,some l=>bif c.lk||!afW cx ty c.tid then .fail else
         .need (fits<|plus (len (α:=e.den) l)<|len (α:=e.den) m) (.ret<|(a.bT b { c with val:=.data (.slice e) (app (α:=e.den) l m),aI:=aI+1 }).put d<|.whole b<|aI+1)
       | _,_=>.fail
     | _=>.fail
   | none=>.fail
 | _,_=>.fail
def jR(e:Ty)(m:List e.den)(b d:Nat)(q:List CU)(f:Nat->Ty->Bool)(i:Int)(g:St):Tree St :=
 match g.mem b with
 | some a=>bif Nat.beq a.aI d&&!a.lk&&!a.ro then
    (match a.buf with
    | true=>match q,a.val with
      | [],.data (.slice u) l=>match toL e u m with
        | some m=>.ret (g.bT b { a with val:=.data (.slice u) (over (α:=u.den) l i m) })
        | none=>.fail
      | _,_=>.fail
    | false=>(Y3 q a.val).bind λh=>match h with
      | .data (.arr k u) l=>bif f k u then(match toL e u m with
        | some m=>(v8 q a.val<|.data (.arr k u)<|over (α:=u.den) l i m).bind λc=>.ret (g.bT b { a with val:=c })
        | none=>.fail) else .fail
      | _=>.fail)
   else .fail
 | none=>.fail
def FX(e:Ty)(m:Int->List e.den)(t:aK)(a:St):Tree (Int×St) :=
 match t with
 | .part b aI lo n=>(jR e (m n) b aI [] (λ_ _=>true) lo a).bind λa=>.ret (n,a)
 | .whole b aI=>match lenOf a t with|some n=>(jR e (m n) b aI [] (λ_ _=>true) 0 a).bind λa=>.ret (n,a)|none=>.fail
 | .win b aI q u k lo n=>(jR e (m n) b aI q (λc d=>Nat.beq k c&&Ty.beq u d) lo a).bind λa=>.ret (n,a)
 | _=>.fail
def xg(d:Option Nat)(b:TypeId)(t x:aK)(a:St):Tree St :=
 match find cx.T b with
 | some (.slice e)=>match ug e a x with
   | none=>.fail
   | some m=>(FX e (λn=>gC (α:=e.den) m n) t a).bind λr=>.ret (r.2.aS d<|.data (.int .i64)<|len<|gC (α:=e.den) m r.1)
 | _=>.fail
def xh(a:TypeId)(t:aK)(b:St):Tree St :=
 match find cx.T a with
 | some (.slice e)=>(FX e (λn=>iB n e.zero) t b).bind λr=>.ret r.2
 | _=>.fail
def D7:(o:OT)->o.den->(N M:List (Nat×Nat))->aK
 | .zL t,x,_,_=>.data t x
 | .buf _ _,_,_,M=>match M with|(b,v)::_=>.whole b v|[]=>.undef
 | .ref _ _,_,N,_=>match N with|(b,v)::_=>.ptr b v []|[]=>.undef
 | .pair p q,u,N,M=>.mix (D7 p u.1 (N.take p.nr)<|M.take p.nb) (D7 q u.2 (N.drop p.nr)<|M.drop p.nb)
 | .unit,_,_,_=>.data .unit ()
 | .dK,_,_,_=>.dK
def iE:(o:OT)->o.den->(N M:List (Nat×Nat))->Nat->Option Box
 | .zL _,_,_,_,_=>none
 | .buf e a,l,_,M,c=>match M with
   | (b,v)::_=>bif Nat.beq c b then some { val:=.data (.slice e) l,tid:=a,buf:=true,ro:=false,lk:=false,aI:=v } else none
   | []=>none
 | .ref tid o,u,N,M,c=>match N with
   | (b,v)::N=>bif Nat.beq c b then some { val:=D7 o u N M,tid,buf:=false,ro:=false,lk:=false,aI:=v } else iE o u N M c
   | []=>none
 | .pair p q,u,N,M,c=>match iE p u.1 (N.take p.nr) (M.take p.nb) c with
   | some x=>some x
   | none=>iE q u.2 (N.drop p.nr) (M.drop p.nb) c
 | .unit,_,_,_,_=>none
 | .dK,_,_,_,_=>none
def dd(d:Nat->Option Box):(o:OT)->aK->Option (o.den×List (Nat×Nat)×List (Nat×Nat))
 | .zL t,v=>match toS t v with|some x=>some (x,[],[])|none=>none
 | .buf e f,v=>match v with
   | .whole b aI=>match d b with
     | some c=>bif Nat.beq c.aI aI&&c.buf&&!c.lk&&!c.ro&&Nat.beq c.tid f&&Nat.blt 0 e.size then(match c.val with
       | .data (.slice u) l=>match toL u e l with|some l=>some (l,[],[(b,aI)])|none=>none
       | _=>none) else none
     | none=>none
   | _=>none
 | .ref tid o,v=>match v with
   | .ptr b aI []=>match d b with
     | some c=>bif Nat.beq c.aI aI&&!c.buf&&!c.lk&&!c.ro&&Nat.beq c.tid tid then(match dd d o c.val with
       | some (u,N,M)=>some (u,(b,aI)::N,M)
       | none=>none) else none
     | none=>none
   | _=>none
 | .pair p q,v=>match v with
   | .mix a b=>match dd d p a,dd d q b with
     | some (x,N,M),some (y,g,h)=>some ((x,y),N++g,M++h)
     | _,_=>none
   | _=>none
 | .unit,v=>match v with|.data .unit _=>some ((),[],[])|_=>none
 | .dK,v=>match v with|.dK=>some ((),[],[])|_=>none
def Kx:List Nat->Bool
 | []=>true
 | b::r=>!cK r b&&Kx r
def bo(N M:List (Nat×Nat)):List Nat:=N.map (·.1)++M.map (·.1)
def eC(a:St):List Bool->(A:Ty)->(U:OT)->List aK->Option (A.den×U.den×List (Nat×Nat)×List (Nat×Nat))
 | [],A,U,vs=>match A,U,vs with
   | .unit,.unit,[]=>some ((),(),[],[])
   | _,_,_=>none
 | false::ps,A,U,vs=>match A,vs with
   | .pair t A,v::vs=>match toD t v,eC a ps A U vs with
     | some x,some (y,u,q)=>some ((x,y),u,q)
     | _,_=>none
   | _,_=>none
 | true::ps,A,U,vs=>match U,vs with
   | .pair (.ref tid o) U,v::vs=>match dd a.mem (.ref tid o) v,eC a ps A U vs with
     | some (x,N,M),some (y,u,b,c)=>some (y,(x,u),N++b,M++c)
     | _,_=>none
   | .pair .dK U,.dK::vs=>match eC a ps A U vs with
     | some (y,u,q)=>some (y,((),u),q)
     | none=>none
   | _,_=>none
def Y7(f:Nat):List aK->Nat
 | .dK::_=>2*f+1
 | _=>2*f
def kB(U:OT)(u:U.den)(N M:List (Nat×Nat))(a:St):St :=
 { a with mem:=λc=>match iE U u N (M.map λp=>(p.1,p.2+1)) c with
  | some b=>some b
  | none=>a.mem c }
def JK:aK->Bool
 | .whole ..=>true
 | _=>false
def Bh(s:Y2)(d:Option Nat)(c:List aK)(e:St):Tree St :=
 match s,c with
 | .chk T,[.ptr b aI []]=>match e.mem b with
   | some a=>match a.val with
     | .mix (.vk f g) (.mix u<|.data .unit _)=>bif Nat.beq a.aI aI&&!a.buf&&!a.lk&&!a.ro&&Nat.beq a.tid T&&Nat.blt 0 T&&Nat.beq f b&&Nat.beq g aI&&JK u then .ret (e.aS d<|.y7 .nl) else .fail
     | _=>.fail
   | none=>.fail
 | .str T E,[.ptr b aI []]=>match e.mem b with
   | some a=>match a.val with
     | .mix (.vk _ _) (.mix (.whole h hv)<|.data .unit _)=>bif Nat.beq a.aI aI&&!a.buf&&Nat.beq a.tid T&&Nat.blt 0 T&&!Nat.beq h b then(match e.mem h with
       | some hx=>bif Nat.beq hx.aI hv&&hx.buf&&!hx.lk&&Nat.beq hx.tid E&&Nat.blt 0 E then(match hx.val with
         | .data (.slice<|.int .u8) l=>.ret ((e.bT h { hx with val:=.data (.slice<|.int .u8) [],aI:=hx.aI+1 }).aS d<|.data .str<|aX l)
         | _=>.fail) else .fail
       | none=>.fail) else .fail
     | _=>.fail
   | none=>.fail
 | _,_=>.fail
def ownRow(d:Option Nat):Option Nat:=match d with|some d=>bif cK bf (4000000+d) then some d else none|none=>none
def SV(d:Option Nat):Option Nat:=match d with|some d=>bif cK bf d then some d else none|none=>none
def lH(e:Ty)(d:Option Nat)(a:List aK)(b:St):Tree St :=
 match d,a with
 | some d,[x]=>match xf b (.slice e) x with
   | some (l,b)=>bif Nat.blt 0 e.size then .need (fits<|len (α:=e.den) l) (b.aJ (nb+d) (.data (.slice e) l) 0 true λc b=>.ret (b.put d<|.whole (nb+d) c)) else .fail
   | none=>.fail
 | _,_=>.fail
def lI(g:Nat)(d:Option Nat)(a:List aK)(b:St):Tree St :=
 match d,a with
 | some _,[.undef]=>.fail
 | some _,[.y7 _]=>.fail
 | some d,[v]=>bif Nat.blt g 10000000 then b.aJ (nb+d) v 0 false λc b=>.ret (b.put d<|.fn g [(nb+d,c)]) else .fail
 | _,_=>.fail
def yd(e:Ty)(c:St):aK->Option (Nat×Nat×Box×List e.den)
 | .whole b aI=>match c.mem b with
   | some a=>bif Nat.beq a.aI aI&&a.buf&&!a.lk&&!a.ro&&Nat.beq a.tid 0 then(match a.val with
     | .data (.slice u) l=>(match toL u e l with|some l=>some (b,aI,a,l)|none=>none)
     | _=>none) else none
   | none=>none
 | .part b aI lo n=>match c.mem b with
   | some a=>bif Nat.beq a.aI aI&&a.buf&&!a.lk&&!a.ro&&Nat.beq a.tid 0&&decide (lo=0) then(match a.val with
     | .data (.slice u) l=>(match toL u e l with|some l=>some (b,aI,a,sub (α:=e.den) l lo n)|none=>none)
     | _=>none) else none
   | none=>none
 | _=>none
def qU(e A:Ty)(g:Bool)(a:List e.den->A.den->Option (List e.den))(d:Option Nat)(c:List aK)(f:St):Tree St :=
 match c with
 | v::vs=>match kA f A vs with
   | some (x,f)=>match yd e f v with
     | some (b,aI,h,l)=>.look (a l x) λi=>match g,d with
       | true,some d=>.ret ((f.bT b { h with val:=.data (.slice e) i,aI:=aI+1 }).put d<|.whole b<|aI+1)
       | false,d=>bif JK v then .ret ((f.bT b { h with val:=.data (.slice e) i }).aS d<|.y7 .nl) else .fail
       | _,_=>.fail
     | none=>.fail
   | none=>.fail
 | []=>.fail
def uh(d:Option Nat)(f:Nat):Option Y2 :=
 match find cx.Nn f with
 | some (.clone e)=>match SV bf d with|some _=>some (.clone e)|none=>none
 | some (.own e A r s)=>some (.own e A r s)
 | some (.D2 g)=>some (.D2 g)
 | _=>none
def wc(d:Option Nat)(f:Nat)(a:List aK)(b:St):Tree St :=
 match find cx.con f with
 | some c=>match c.R.flat with
   | true=>match ig b c.A a with
     | some x=>.look (c.spec x) λy=>.ret (b.aS d<|ue c.R y)
     | none=>.fail
   | false=>match kA b c.A a with
     | some (x,b)=>.look (c.spec x) λy=>.ret (b.aS d<|ue c.R y)
     | none=>.fail
 | none=>match find cx.Nn f with
  | some s=>Bh s d a b
  | none=>match find cx.Ql (Y7 f a) with
   | some c=>(match eC b c.ps c.A c.U a with
     | some (x,u,N,M)=>bif Kx (bo N M) then .look (c.spec (x,u)) λy=>.ret ((kB c.U y.2 N M b).aS d<|ue c.R y.1) else .fail
     | none=>(inl f a b).bind λr=>.ret (r.2.aS d r.1))
   | none=>(inl f a b).bind λr=>.ret (r.2.aS d r.1)
def ti(d:Option Nat)(f:Nat)(a:List aK)(b:St):Tree St :=
 match uh cx bf d f with
 | some (.clone e)=>lH nb e d a b
 | some (.own e A r s)=>qU e A r s d a b
 | some (.D2 g)=>lI nb g d a b
 | _=>wc cx inl d f a b
def SW:(t:Ty)->(u:Nat)->Option ((a:Ty)×(a.den->t.den))
 | .alt n a r,u=>bif Nat.beq n u then some ⟨a,.inl⟩ else match SW r u with
   | some ⟨b,f⟩=>some ⟨b,λx=>.inr (f x)⟩
   | none=>none
 | _,_=>none
def qy(d:Option Nat)(c u:TypeId)(x:aK)(b:St):Tree St :=
 match find cx.T c with
 | some t=>match SW t u with
   | some ⟨a,f⟩=>match xf b a x with
     | some (y,b)=>.ret (b.aS d<|.data t<|f y)
     | none=>.fail
   | none=>.fail
 | none=>.fail
def qz(d:Option Nat)(a:String)(b:List aK)(e:St):Tree St :=
 match SR cx.inv a with
 | some c=>match kA e c.A b with
   | some (x,e)=>.look (c.spec x) λy=>.ret (e.aS d<|ue c.R y)
   | none=>.fail
 | none=>.fail
def ui(d:Option Nat)(h:TypeId)(c:Call)(a:St):Tree St :=
 match c.callee with
 | .builtin b=>match b,c.args.toList.map (cp a),c.argTypes.toList with
   | .len,[x],[t]=>bif XX (find cx.T t) x then(match lenOf a x with
     | some n=>.ret (a.aS d<|.data (.int .i64) n)
     | none=>.fail) else(match Pc cx t,x with
     | some _,.win b aI _ _ _ _ n=>bif live a b aI&&decide (n<=64) then .ret (a.aS d<|.data (.int .i64) n) else .fail
     | _,_=>.fail)
   | .append,[s,x],[t,u]=>match find cx.T u with
     | some .str|some (.slice _)=>gV cx nb d t s x a
     | _=>.fail
   | .copy,[t,x],[g,tx]=>match find cx.T tx with
     | some .str|some (.slice _)=>xg cx d g t x a
     | _=>.fail
   | .clear,[t],[g]=>match d with|none=>xh cx g t a|some _=>.fail
   | .min,[x,y],_=>Qm true x y |>.bind λv=>.ret (a.aS d v)
   | .max,[x,y],_=>Qm false x y |>.bind λv=>.ret (a.aS d v)
   | _,_,_=>.fail
 | .value f=>match cp a f with
   | .fn f e=>bif e.all (λb=>live a b.1 b.2) then ti cx nb bf inl d (SS f) (abC f (c.args.toList.map<|cp a)<|e.map λb=>.ptr b.1 b.2 []) a else .fail
   | _=>.fail
 | .invoke r name=>qz cx d name (cp a r::c.args.toList.map (cp a)) a
def zT:List aK->Option (List<|Nat×Nat)
 | []=>some []
 | .ptr b aI []::r=>(zT r).map ((b,aI)::·)
 | _=>none
def JL(a:St)(b:Nat):Nat:=match a.mem b with|some bx=>bx.aI+1|none=>0
def mkObj(b a:Nat):List mR->Nat->St->Tree (aK×St)
 | [],_,σ=>.ret (.data .unit (),σ)
 | .zL t::r,j,σ=>(mkObj b a r (j+1) σ).bind λx=>.ret (.mix (.data t t.zero) x.1,x.2)
 | .one::r,j,σ=>(mkObj b a r (j+1) σ).bind λx=>.ret (.mix .dK x.1,x.2)
 | .self::r,j,σ=>(mkObj b a r (j+1) σ).bind λx=>.ret (.mix (.vk b a) x.1,x.2)
 | .buf e c::r,j,σ=>bif Nat.blt 0 e.size then σ.aJ (b*1000+999-j) (.data (.slice e) []) c true λv σ=>(mkObj b a r (j+1) σ).bind λx=>.ret (.mix (.whole (b*1000+999-j) v) x.1,x.2) else .fail
def qV:List mR->Option aK
 | []=>some (.data .unit ())
 | .zL t::r=>match qV r with|some v=>some (.mix (.data t t.zero) v)|none=>none
 | .buf _ _::r=>match qV r with|some v=>some (.mix .nJ v)|none=>none
 | .one::r=>match qV r with|some v=>some (.mix .dK v)|none=>none
 | .self::_=>none
def mj(b:St)(a:List mR):aK->List (Nat×Operand)->Option aK
 | v,[]=>some v
 | v,(k,x)::r=>match mi v k,yc a k,a[k]? with
   | some (o,.data t _),some c,some f=>bif Nat.beq o c&&Nat.beq t.size f.size then(match toS t (cp b x) with
     | some y=>match(FU v k λ_=>.ret (.data t y)).run with
       | some v=>mj b a v r
       | none=>none
     | none=>none) else none
   | _,_,_=>none
def mS(b:Nat):List mR->Nat->aK->St->Tree (aK×St)
 | [],_,.data .unit x,σ=>.ret (.data .unit x,σ)
 | .zL _::r,j,.mix (.data u y) v,σ=>(mS b r (j+1) v σ).bind λx=>.ret (.mix (.data u y) x.1,x.2)
 | .one::r,j,.mix .dK v,σ=>(mS b r (j+1) v σ).bind λx=>.ret (.mix .dK x.1,x.2)
 | .buf e a::r,j,.mix .nJ v,σ=>bif Nat.blt 0 e.size then σ.aJ (b*1000+999-j) (.data (.slice e) []) a true λc σ=>(mS b r (j+1) v σ).bind λx=>.ret (.mix (.whole (b*1000+999-j) c) x.1,x.2) else .fail
 | _,_,_,_=>.fail
def zU(a:St):Nat->List (Nat×Operand)->Option aK
 | _,[]=>some (.data .unit ())
 | k,(j,x)::r=>bif Nat.beq j k then(match cp a x,zU a (k+1) r with
   | .dK,some v=>some (.mix .dK v)
   | .ptr b aI p,some v=>some (.mix (.ptr b aI p) v)
   | .fn f c,some v=>some (.mix (.fn f c) v)
   | _,_=>none) else none
def Bi(d:Option Nat)(t:TypeId)(a:Nat)(b:List (Nat×Operand))(c:St):Tree St :=
 match d,Pc cx t,zU c 0 b with
 | some d,some _,some v=>bif Nat.beq a b.length&&Nat.blt 0 a&&Nat.ble a 64 then
  c.aJ (nb+d) v 0 false λe c=>.ret (c.put d<|.win (nb+d) e [.fD 0 0] .bool a 0 a) else .fail
 | _,_,_=>.fail
def D8(d:Option Nat)(a:TypeId)(x:aK)(c:St):Tree St :=
 match d,x with
 | some _,.undef=>.fail
 | some _,.y7 _=>.fail
 | some d,v=>match find cx.sx a with
   | some e=>(mS (nb+d) e 0 v c).bind λr=>r.2.aJ (nb+d) r.1 a false λb c=>.ret (c.put d<|.ptr (nb+d) b [])
   | none=>c.aJ (nb+d) v 0 false λb c=>.ret (c.put d<|.ptr (nb+d) b [])
 | none,_=>.fail
def tT(d:Nat)(t:Ty)(a:St):Tree St :=
 match SV bf (some d),t with
 | some _,.slice e=>bif Nat.blt 0 e.size then a.aJ ((nb+d)*1000+999) (.data (.slice e) []) 0 true λv a =>
  a.aJ (nb+d) (.whole ((nb+d)*1000+999) v) 0 false λb a=>.ret (a.put d<|.ptr (nb+d) b []) else .fail
 | _,t=>a.aJ (nb+d) (.data t t.zero) 0 false λb a=>.ret (a.put d<|.ptr (nb+d) b [])
def pw(o:Oper)(σ:St):Tree St :=
 match o.op with
 | .move x|.assign x=>js cx nb bf o.dst o.type (cp σ x) σ
 | .pick c a b=>nK o.dst (cp σ c) (cp σ a) (cp σ b) σ
 | .alloc elem=>match o.dst,find cx.T elem with
   | some d,some t=>tT nb bf d t σ
   | some d,none=>match find cx.sx elem with
     | some j=>(mkObj (nb+d) (JL σ<|nb+d) j 0 σ).bind λr=>r.2.aJ (nb+d) r.1 elem false λg σ=>.ret (σ.put d<|.ptr (nb+d) g [])
     | none=>bif cK cx.qx elem then σ.aJ (nb+d) .undef 0 false λg σ=>.ret (σ.put d<|.ptr (nb+d) g []) else .fail
   | _,_=>.fail
 | .box elem x=>D8 cx nb o.dst elem (cp σ x) σ
 | .build t parts=>match find cx.T t with
   | some (.pair a b)=>match zeroAt bf o.dst parts.toList with
     | some (d,k)=>uf nb d (.pair a b) k σ
     | none=>match ga σ (.pair a b) (Ty.pair a b).zero parts.toList with
       | some (x,σ)=>.ret (σ.aS o.dst<|.data (.pair a b) x)
       | none=>.fail
   | some (.arr n e)=>match fb σ e (List.replicate n e.zero) parts.toList with
     | some (l,σ)=>.ret (σ.aS o.dst<|.data (.arr n e) l)
     | none=>.fail
   | none=>match find cx.sx t with
     | some j=>match qV j with
       | some z=>match mj σ j z parts.toList with
         | some (.mix p q)=>.ret (σ.aS o.dst<|.mix p q)
         | some (.data .unit _)=>.ret (σ.aS o.dst<|.data .unit ())
         | _=>.fail
       | none=>.fail
     | none=>.fail
   | _=>.fail
 | .buildSlice t len parts=>match find cx.T t with
   | some (.slice e)=>match SV bf o.dst,len,parts.toList with
     | some d,0,[]=>σ.aJ (nb+d) (.data (.slice e) []) 0 true λg σ=>.ret (σ.put d<|.whole (nb+d) g)
     | _,_,_=>bif Nat.ble (len*e.size) 65536 then(match fb σ e (List.replicate len e.zero) parts.toList with
     | some (l,σ)=>(match ownRow bf o.dst with
       | some d=>σ.aJ (nb+d) (.data (.slice e) l) 0 true λg σ=>.ret (σ.put d<|.whole (nb+d) g)
       | none=>.ret (σ.aS o.dst<|.data (.slice e) l))
     | none=>.fail) else .fail
   | none=>Bi cx nb o.dst t len parts.toList σ
   | _=>.fail
 | .load t a=>kU cx o.dst t (cp σ a) σ
 | .store t a x=>match o.dst with|none=>bif cK bf 8000001&&ya x then D6 cx t (cp σ a) σ else lD cx bf t (cp σ a) (cp σ x) σ|some _=>.fail
 | .nilCheck x=>match cp σ x with
   | .ptr b g p=>bif live σ b g then .ret (σ.aS o.dst<|.ptr b g p) else .fail
   | .cell t x=>.ret (σ.aS o.dst<|.cell t x)
   | .fn f c=>.ret (σ.aS o.dst<|.fn f c)
   | _=>.fail
 | .binOp op m x y _=>(abD σ (find cx.T m) (cK cx.kT m) op (cp σ x)<|cp σ y).bind λv=>.ret (σ.aS o.dst v)
 | .unOp op _ x=>(un op<|cp σ x).bind λv=>.ret (σ.aS o.dst v)
 | .convert src dst x=>gD cx nb o.dst src dst (cp σ x) σ
 | .makeFunc (.func f) first h=>match first.toList,zT (h.toList.map<|cp σ) with
   | [],some cs=>bif Nat.blt f 10000000 then .ret (σ.aS o.dst<|.fn f cs) else .fail
   | [x],some []=>(match zT [cp σ x] with
     | some cs=>bif Nat.blt f 10000000 then .ret (σ.aS o.dst<|.fn (f+10000000) cs) else .fail
     | none=>.fail)
   | _,_=>.fail
 | .slice t x lo hi none=>lE cx o.dst t (cp σ x) lo hi σ
 | .fieldAddr s x k=>eU cx o.dst s (cp σ x) k σ
 | .field m x k=>match cp σ x with
   | .data u y=>bif FW (find cx.T m) u then(match mi (.data u y) k with
     | some (_,v)=>.ret (σ.aS o.dst v)
     | none=>.fail) else .fail
   | _=>.fail
 | .indexAddr t x i=>match cp σ i with
   | .data (.int _) i=>bif cK bf 5000000 then lF cx o.dst t (cp σ x) i σ else ev cx o.dst t (cp σ x) i σ
   | _=>.fail
 | .index t x i=>match cp σ i with
   | .data (.int _) i=>lG cx o.dst t (cp σ x) i σ
   | _=>.fail
 | .makeSlice t l c=>match o.dst,find cx.T t,cp σ l,cp σ c with
   | some d,some (.slice e),.data (.int _) l,.data (.int _) c =>
     .need (inside 0 l c) (.need (fits c)
      (σ.aJ (nb+d) (.data (.slice e)<|iB l e.zero) 0 true λg σ=>.ret (σ.put d<|.whole (nb+d) g)))
   | _,_,_,_=>.fail
 | .extract t k=>match cp σ t with
   | .y7 vs=>match nth vs k with
     | some v=>.ret (σ.aS o.dst v)
     | none=>.fail
   | _=>.fail
 | .call c=>ui cx nb bf inl o.dst o.type c σ
 | .makeInterface u x=>qy cx o.dst o.type u (cp σ x) σ
 | _=>.fail
def ye(g:Option (Nat×Bool))(j:Nat)(a:Bool):Bool :=
 match g with|some (i,b)=>Nat.beq i j&&(b==a)|none=>false
def under(j:Nat)(want:Bool):(inner:List Nat)->List (Nat×Oper)->List (Nat×Oper)×List (Nat×Oper)
 | _,[]=>([],[])
 | inner,(i,o)::r =>
   bif ye o.guard j want then let x:=under j want (i::inner) r;((i,{ o with guard:=none })::x.1,x.2)
   else bif (match o.guard with|some (k,_)=>inner.any (Nat.beq k)|none=>false) then let x:=under j want (i::inner) r;((i,o)::x.1,x.2)
   else([],(i,o)::r)
def JM(a:Ctx):List (Nat×Oper)->Bool
 | []=>false
 | (_,o)::r=>(match o.op with
   | .call c=>match c.callee with
     | .value (.func f)=>match find a.con f with|some _=>false|none=>true
     | .value _=>true
     | .builtin .append=>true
     | _=>false
   | .store ..=>true
   | _=>false)||JM a r
def St.ij(σ:St):St:={ σ with mem:=λi=>match σ.mem i with|some b=>some { b with lk:=true }|none=>none }
def St.undef(a:St):List (Nat×Oper)->St
 | []=>a
 | (_,o)::r=>(a.undef r).aS o.dst .undef
def mT(d:Nat):List (Nat×Oper)->Bool
 | []=>false
 | (_,o)::r=>(match o.dst with|some k=>Nat.beq k d|none=>false)||mT d r
def yf(e:St)(f:Oper)(g:Nat)(d:Bool):Option aK :=
 match f.op with
 | .pick (.tmp c) a b=>bif Nat.beq c g then some (cp e<|bif d then a else b) else none
 | _=>none
def px(a:Array Oper):Nat->List (Nat×Oper)->St->Tree St
 | 0,_,_=>.fail
 | n+1,[],σ=>.ret σ
 | n+1,(i,o)::r,σ =>
   match o.guard with
   | none=>(pw cx nb bf inl o σ).bind λσ=>px a n r σ
   | some (j,want) =>
     let g:=under j want [] ((i,o)::r)
     match(a[j]?).bind (·.dst) with
     | none=>.fail
     | some d=>match σ.slots d,g.2 with
       | .data .bool c,(_,b)::rest=>bif mT d g.1 then .fail else match b.guard with
         | some _=>.fail
         | none =>
           let e:=bif want then c else nt c
           bif JM cx g.1 then
            (Tree.node e ((px a n g.1 σ).bind λσ=>match yf σ b d want with
              | some v=>.ret (σ.aS b.dst v)
              | none=>.fail)
             (match yf (σ.undef g.1) b d (!want) with
              | some v=>.ret ((σ.undef g.1).aS b.dst v)
              | none=>.fail)).bind λσ=>px a n rest σ
           else match find cx.T b.type,b.dst with
            | some t,some f=>(Tree.node e ((px a n g.1 σ.ij).bind λτ=>match(yf τ b d want).bind (toD t) with
              | some x=>.ret x
              | none=>.fail)
             (match(yf (σ.undef g.1) b d<|!want).bind (toD t) with
              | some x=>.ret x
              | none=>.fail)).join λx=>px a n rest ((σ.undef g.1).put f<|.data t x)
            | _,_=>.fail
       | _,_=>.fail
def number:Nat->List Oper->List (Nat×Oper)
 | _,[]=>[]
 | k,o::r=>(k,o)::number (k+1) r
def Ky(a:Array Oper)(b:St):Tree St:=px cx nb bf inl a (2*a.size+1) (number 0 a.toList) b
def eY:Op->List Operand
 | .move x|.assign x|.box _ x|.load _ x|.nilCheck x|.unOp _ _ x|.convert _ _ x|.fieldAddr _ x _|.field _ x _|.extract x _=>[x]
 | .pick c a b=>[c,a,b]
 | .build _ ps|.buildSlice _ _ ps=>ps.toList.map (·.2)
 | .store _ a x=>[a,x]
 | .binOp _ _ x y _=>[x,y]
 | .makeFunc _ f c=>f.toList++c.toList
 | .slice _ x lo hi _=>x::(lo.toList++hi.toList)
 | .indexAddr _ x i|.index _ x i=>[x,i]
 | .makeSlice _ l c=>[l,c]
 | .call c=>(match c.callee with|.value f=>[f]|.invoke r _=>[r]|_=>[])++c.args.toList
 | .makeInterface _ x=>[x]
 | _=>[]
def tmpsOf:List Operand->List Nat
 | []=>[]
 | .tmp t::r=>t::tmpsOf r
 | _::r=>tmpsOf r
def nL(o:Oper)(σ:St):Option Nat:=match o.op with
 | .call c=>match c.callee with
   | .value x=>match cp σ x with
     | .fn f _=>some (SS f)
     | _=>none
   | _=>none
 | _=>none
def ag9:Option Nat->Option Nat->Bool
 | some a,some b=>Nat.beq a b
 | none,none=>true
 | _,_=>false
def afX(f:Nat):Bool:=match find cx.Ql (2*f) with
 | some _=>true
 | none=>match find cx.Ql (2*f+1) with
   | some _=>true
   | none=>false
def cls(g:Option Nat)(o:Oper):Nat:=match o.op with
 | .assign _|.move _|.makeSlice ..|.convert ..=>1
 | .box e _=>match find cx.sx e with
   | some _=>3
   | none=>1
 | .alloc e=>match find cx.T e with
   | some (.slice _)=>3
   | some _=>1
   | none=>match find cx.sx e with
     | some _=>3
     | none=>1
 | .build ..|.buildSlice ..=>2
 | .store _ _ x=>bif ya x then 3 else 2
 | .call c=>match c.callee with
   | .builtin .len|.builtin .min|.builtin .max=>0
   | .builtin .append=>2
   | .builtin _=>3
   | .value _=>match g with
     | some f=>match find cx.Nn f with
       | some (.clone _)=>2
       | some (.own _ _ _ _)=>2
       | some (.D2 _)=>2
       | s=>match find cx.con f with
         | some c=>bif c.R.flat then 0 else 2
         | none=>match s,afX cx f with
           | none,true=>2
           | _,_=>3
     | none=>3
   | .invoke ..=>2
 | .makeInterface ..=>2
 | _=>0
structure Fp where
 rd:List Nat
 wr:List Nat
 JN:Bool
 fn:Option Nat
def xj(d:St):aK->List Nat
 | .ptr b _ _=>[b]
 | .whole b _=>[b]
 | .part b _ _ _=>[b]
 | .win b _ _ _ _ _ _=>[b]
 | .fn _ c=>c.map (·.1)
 | .mix a b=>xj d a++xj d b
 | _=>[]
def refsOf(a:St):List Operand->List Nat
 | []=>[]
 | x::r=>xj a (cp a x)++refsOf a r
def aha(o:Oper)(a:St):List Nat:=match o.op with
 | .move _|.assign _=>[]
 | _=>refsOf a (eY o.op)
def reach(o:Oper)(a:St)(g:Option Nat):List Nat:=match o.op,g with
 | .call c,some f=>match find cx.Ql (Y7 f<|c.args.toList.map<|cp a) with
   | some k=>match eC a k.ps k.A k.U (c.args.toList.map<|cp a) with
     | some (_,_,N,M)=>bo N M
     | none=>[]
   | none=>[]
 | _,_=>[]
def own(o:Oper):List Nat:=match o.dst with|some d=>[nb+d]|none=>[]
def xk(o:Oper)(a:St):Fp :=
 let g:=nL o a
 let rd:=own nb o++(aha o a++reach cx o a g)
 match cls cx g o with
 | 0=>⟨rd,[],false,g⟩
 | 1=>⟨rd,own nb o,false,g⟩
 | 2=>⟨rd,rd,false,g⟩
 | _=>⟨[],[],true,g⟩
def St.only(σ:St)(ts a:List Nat):St:={ slots:=λt=>bif cK ts t then σ.slots t else .undef,mem:=λb=>bif cK a b then σ.mem b else none }
def lay(a:St)(d:Option Nat)(e:List Nat)(c:St):St :=
 { slots:=match d with|some d=>λt=>bif Nat.beq t d then c.slots d else a.slots t|none=>a.slots
   mem:=λb=>bif cK e b then c.mem b else a.mem b }
def zV(_:Nat)(_:List aK)(_:St):Tree (aK×St):=.fail
def abI(b:Fp)(o:Oper)(a:St):Tree St:=bif ag9 (nL o a) b.fn then pw cx nb bf zV o a else .fail
def ik(a:Fp)(o:Oper)(σ:St):Tree St :=
 bif a.JN then pw cx nb bf inl o σ
 else(abI cx nb bf a o<|σ.only (tmpsOf<|eY o.op) a.rd).bind λτ=>.ret (lay σ o.dst a.wr τ)
abbrev zW:=Nat×Oper×Fp×Nat
def maskAt:List zW->Nat->Nat
 | [],_=>0
 | (i,_,_,m)::r,k=>bif Nat.beq i k then m else maskAt r k
def tU(a:List zW):List Edge->Nat
 | []=>0
 | e::r=>bif Region.binds .any e then(tU a r ||| 2 ^ e.on) ||| maskAt a e.on else tU a r
def mask(a:List zW)(o:Oper):Nat:=tU a o.after.toList
def Y8(a b:List Nat):Bool:=a.all λx=>!cK b x
def apart(x y:Oper)(f g:Fp):Bool :=
 !f.JN&&!g.JN&&Y8 f.wr g.rd&&Y8 g.wr f.rd &&
 (match x.dst with|some d=>!cK (tmpsOf<|eY y.op) d&&(match y.dst with|some e=>!Nat.beq d e|none=>true)|none=>true) &&
 (match y.dst with|some e=>!cK (tmpsOf<|eY x.op) e|none=>true)
def loose(o:Oper)(f:Fp)(m:Nat):List zW->Bool
 | []=>true
 | (k,ok,a,_)::r=>(Nat.testBit m k||apart ok o a f)&&loose o f m r
def Kz:List (Nat×Oper)->List zW->St->Tree St
 | [],_,σ=>.ret σ
 | (i,o)::r,done,σ=>match o.guard with
   | some _=>.fail
   | none =>
     let f:=xk cx nb o σ
     let m:=mask done o
     bif loose o f m done&&(o.after.all λe=>!Region.binds .any e||Nat.blt e.on i) then
      (ik cx nb bf inl f o σ).bind λσ=>Kz r ((i,o,f,m)::done) σ
     else .fail
def Pd(a:Array Oper)(o:Oper):List Nat:=match o.guard with
 | some (g,_)=>match(a[g]?).bind (·.dst) with|some d=>[d]|none=>[]
 | none=>[]
def CV(a:Array Oper)(o:Oper):List Nat:=Pd a o++tmpsOf (eY o.op)
def xn(o:Oper)(k:Nat):Bool:=match o.guard with|some (g,_)=>!Nat.beq g k|none=>true
def zX(a:Array Oper)(i j:Nat)(x y:Oper)(f g:Fp):Bool :=
 !f.JN&&!g.JN&&Y8 f.wr g.rd&&Y8 g.wr f.rd&&xn x j&&xn y i &&
 (match x.dst with|some d=>!cK (CV a y) d&&(match y.dst with|some e=>!Nat.beq d e|none=>true)|none=>true) &&
 (match y.dst with|some e=>!cK (CV a x) e|none=>true)
def CW(a:Array Oper)(i:Nat)(o:Oper)(f:Fp)(m:Nat):List zW->Bool
 | []=>true
 | (k,ok,b,_)::r=>(Nat.testBit m k||zX a k i ok o b f)&&CW a i o f m r
def gq(i:Nat)(a:Nat->Bool):Nat->Bool:=λk=>Nat.beq k i||a k
def sS(a:Array Oper):List (Nat×Oper)->List zW->St->(Nat->Bool)->Tree St
 | [],_,σ,_=>.ret σ
 | (i,o)::r,done,σ,b =>
   let f:=xk cx nb o σ
   let m:=mask done o
   bif CW a i o f m done&&(o.after.all λe=>!Region.binds .any e||Nat.blt e.on i) then
    match o.guard with
    | none=>(ik cx nb bf inl f o σ).bind λσ=>sS a r ((i,o,f,m)::done) σ b
    | some (g,want)=>match(a[g]?).bind (·.dst) with
      | none=>.fail
      | some dg=>bif b g then sS a r ((i,o,f,m)::done) (σ.aS o.dst .undef) (gq i b)
        else match σ.slots dg with
         | .data .bool c=>.node c
          (bif want then(ik cx nb bf inl f o<|σ.put dg<|.data .bool true).bind λσ=>sS a r ((i,o,f,m)::done) σ b
           else sS a r ((i,o,f,m)::done) ((σ.put dg<|.data .bool true).aS o.dst .undef) (gq i b))
          (bif want then sS a r ((i,o,f,m)::done) ((σ.put dg<|.data .bool false).aS o.dst .undef) (gq i b)
           else(ik cx nb bf inl f o<|σ.put dg<|.data .bool false).bind λσ=>sS a r ((i,o,f,m)::done) σ b)
         | _=>.fail
   else .fail
def kC:List Oper->Bool
 | []=>true
 | o::r=>(match o.dst with|some d=>!cK (FY r) d|none=>true)&&kC r
where FY:List Oper->List Nat
 | []=>[]
 | o::r=>match o.dst with|some d=>d::FY r|none=>FY r
def xo(a:Array Oper)(b:St):Tree St :=
 bif a.any λo=>o.guard.isSome then(bif kC a.toList then sS cx nb bf inl a (number 0 a.toList) [] b (λ_=>false) else .fail)
 else Kz cx nb bf inl (number 0 a.toList) [] b
end
def rounds{S R:Type}(f:S->Option (S⊕R)):Nat->S->Option R
 | 0,_=>none
 | n+1,s=>(f s).bind λx=>match x with|.inl s=>rounds f n s|.inr r=>some r
theorem HG{S R:Type}{f:S->Option (S⊕R)}:∀{n:Nat} {s:S} {r:R},rounds f n s=some r->∀m,n<=m->rounds f m s=some r:=by
 intro n;induction n with
 | zero=>intro s r h;cases h
 | succ n b =>
   intro s r h m c;obtain⟨k,rfl⟩:∃k,m=k+1:=⟨m-1,by omega⟩;simp only[rounds] at h⊢;cases a:f s with
   | none=>rw[a] at h;cases h
   | some x =>
     rw[a] at h;cases x with
     | inl d=>exact b h k (by omega)
     | inr e=>exact h
open Classical in
def SX{S R:Type}(f:S->Option (S⊕R))(s:S):Option R :=
 if h:∃n r,rounds f n s=some r then some (Classical.choose<|Nh h) else none
theorem y8{S R:Type}{f:S->Option (S⊕R)}{n:Nat}{s:S}{r:R}(h:rounds f n s=some r):SX f s=some r:=by
 have c:∃n r,rounds f n s=some r:=⟨n,r,h⟩;unfold SX;rw[dif_pos c];have d:=Nh (Nh c);have a:=HG h (max n<|Classical.choose c) (by omega);have b:=HG d (max n<|Classical.choose c) (by omega);rw[a] at b;exact b.symm
class Lp where
 loop:{S R:Type}->(S->Option (S⊕R))->S->Option R
 ok:∀{S R:Type} (f:S->Option (S⊕R)) (s:S),loop f s=SX f s
theorem Lp.one(i j:Lp):i=j:=by
 obtain⟨l,h⟩:=i;obtain⟨m,k⟩:=j;have:@l=@m:=by funext S R f s;rw[h,k]
 subst this;rfl
@[reducible] noncomputable def Lp.kD:Lp where
 loop:=λf s=>match rounds f 100000 s with|some r=>some r|none=>SX f s
 ok:=λf s=>by
  generalize 100000=k;cases a:rounds f k s with
  | some r=>exact(y8 a).symm
  | none=>rfl
section
variable [Lp]
def Loop{S R:Type}(f:S->Option (S⊕R))(s:S):Option R:=Lp.loop f s
theorem py{S R:Type}{f:S->Option (S⊕R)}{n:Nat}{s:S}{r:R}(h:rounds f n s=some r):Loop f s=some r:=(Lp.ok f s).trans (y8 h)
theorem pz{S R:Type}{f:S->Option (S⊕R)}{s:S}{r:R}(h:Loop f s=some r):∃n,rounds f n s=some r:=by
 replace h:=(Lp.ok f s).symm.trans h;unfold SX at h;split at h
 .rename_i a;have b:=Nh (Nh a);exact⟨_,by rw[b];exact h⟩
 .cases h
theorem aR{S R:Type}(f:S->Option (S⊕R))(s:S):Loop f s=(f s).bind λx=>match x with|.inl s=>Loop f s|.inr r=>some r:=by
 cases c:f s with
 | none =>
   cases b:Loop f s with
   | none=>rfl
   | some r =>
     obtain⟨n,a⟩:=pz b;cases n with
     | zero=>cases a
     | succ n=>simp[rounds,c] at a
 | some x =>
   cases x with
   | inr r=>exact py (n:=1) (by simp[rounds,c])
   | inl e =>
     show Loop f s=Loop f e
     cases b:Loop f e with
     | some r =>
       obtain⟨n,a⟩:=pz b;exact py (n:=n+1) (by simp[rounds,c,a])
     | none =>
       cases d:Loop f s with
       | none=>rfl
       | some r =>
         obtain⟨n,a⟩:=pz d;cases n with
         | zero=>cases a
         | succ n =>
           simp[rounds,c] at a;rw[py a] at b;cases b
end
inductive Sh where
 | d (t:Ty)
 | k (v:aK)
 | m (a b:Sh)
def Sh.ty:Sh->Ty
 | .d t=>t
 | .k _=>.unit
 | .m a b=>.pair a.ty b.ty
def JO:List CU->List CU->Bool
 | [],[]=>true
 | .fD k o::p,.fD a b::q=>Nat.beq k a&&Nat.beq o b&&JO p q
 | _,_=>false
def JP:List (Nat×Nat)->List (Nat×Nat)->Bool
 | [],[]=>true
 | (a,b)::r,(c,d)::s=>Nat.beq a c&&Nat.beq b d&&JP r s
 | _,_=>false
theorem Vx:∀{p q:List CU},JO p q=true->p=q:=by
 intro p;induction p with
 | nil=>intro q h;cases q<;>first|rfl|cases h
 | cons s p a =>
   intro q h;cases s with
   | idx i n=>cases q<;>cases h
   | fD k o =>
     cases q with
     | nil=>cases h
     | cons b q =>
       cases b with
       | idx i n=>cases h
       | fD c d =>
         simp only[JO,dF] at h;rw[eT h.1.1,eT h.1.2,a h.2]
theorem Vy:∀{p q:List (Nat×Nat)},JP p q=true->p=q:=by
 intro p;induction p with
 | nil=>intro q h;cases q<;>first|rfl|cases h
 | cons s p e =>
   intro q h;obtain⟨a,b⟩:=s;cases q with
   | nil=>cases h
   | cons f q =>
     obtain⟨c,d⟩:=f;simp only[JP,dF] at h;rw[eT h.1.1,eT h.1.2,e h.2]
def yg(V:Nat->Bool->Bool)(d g:St):aK->aK->Bool
 | .ptr b v p,.ptr e a h=>Nat.beq b e&&JO p h&&(bif V b false then(match d.mem b,g.mem b with|some x,some y=>Nat.beq x.aI v&&Nat.beq y.aI a|_,_=>false) else Nat.beq v a)
 | .whole b v,.whole e a=>Nat.beq b e&&(match d.mem b,g.mem b with|some x,some y=>Nat.beq x.aI v&&Nat.beq y.aI a&&y.buf|_,_=>false)
 | .fn f c,.fn i j=>Nat.beq f i&&JP c j
 | .dK,.dK=>true
 | .rL,.rL=>true
 | .vk b v,.vk e a=>Nat.beq b e&&Nat.beq v a
 | _,_=>false
def ad3:aK->Sh
 | .data t _=>.d t
 | .mix a b=>.m (ad3 a) (ad3 b)
 | v=>.k v
def Sh.out(V:Nat->Bool->Bool)(c e:St):(s:Sh)->aK->Option s.ty.den
 | .d t,v=>toD t v
 | .k u,v=>bif yg V c e u v then some () else none
 | .m a b,.mix v w=>match Sh.out V c e a v,Sh.out V c e b w with
   | some x,some y=>some (x,y)
   | _,_=>none
 | .m _ _,_=>none
def bump(M:Nat->Bool)(V:Nat->Bool->Bool):aK->aK
 | .whole b v=>bif M b&&V b true then .whole b (v+1) else .whole b v
 | .ptr b v p=>bif M b&&V b false then .ptr b (v+1) p else .ptr b v p
 | v=>v
def Sh.pn(M:Nat->Bool)(V:Nat->Bool->Bool):(s:Sh)->s.ty.den->aK
 | .d t,x=>.data t x
 | .k v,_=>bump M V v
 | .m a b,x=>.mix (a.pn M V x.1) (b.pn M V x.2)
structure D9 where
 S:List (Nat×Nat)
 M:List Nat
 fz:Bool
structure sT where
 marks:List (Option D9)
 Qn:List Nat
structure Carry where
 S:List (Nat×Sh)
 M:List (Nat×Sh×Box)
 V:Nat->Bool->Bool
def tyS:List (Nat×Sh)->Ty
 | []=>.unit
 | (_,s)::r=>.pair s.ty (tyS r)
def tyM:List (Nat×Sh×Box)->Ty
 | []=>.unit
 | (_,s,_)::r=>.pair s.ty (tyM r)
def Carry.ty(c:Carry):Ty:=.pair (tyS c.S) (tyM c.M)
def ad4(V:Nat->Bool->Bool)(a b:St):(l:List (Nat×Sh))->Option (tyS l).den
 | []=>some ()
 | (i,s)::r=>match Sh.out V a b s (b.slots i),ad4 V a b r with
   | some x,some y=>some (x,y)
   | _,_=>none
def HH(c d:Bool)(a b:Box):Bool:=(c||(a.ro==b.ro))&&Nat.beq a.tid b.tid&&(a.buf==b.buf)&&(d||Nat.beq a.aI b.aI)
def ad5(V:Nat->Bool->Bool)(d:Bool)(a c:St):(l:List (Nat×Sh×Box))->Option (tyM l).den
 | []=>some ()
 | (i,s,b)::r=>match c.mem i with
   | some e=>bif HH d (V i b.buf) e b then(match Sh.out V a c s e.val,ad5 V d a c r with
     | some x,some y=>some (x,y)
     | _,_=>none) else none
   | none=>none
def Carry.out(c:Carry)(fz:Bool)(a b:St):Option c.ty.den :=
 match ad4 c.V a b c.S,ad5 c.V fz a b c.M with
 | some x,some y=>some (x,y)
 | _,_=>none
def Qo(M:Nat->Bool)(V:Nat->Bool->Bool):(l:List (Nat×Sh))->(tyS l).den->Nat->Option aK
 | [],_,_=>none
 | (i,s)::r,x,t=>bif Nat.beq t i then some (s.pn M V x.1) else Qo M V r x.2 t
def KA(a:Bool)(M:Nat->Bool)(V:Nat->Bool->Bool):(l:List (Nat×Sh×Box))->(tyM l).den->Nat->Option Box
 | [],_,_=>none
 | (i,s,b)::r,x,t=>bif Nat.beq t i then some { b with val:=s.pn M V x.1,ro:=b.ro||a,aI:=bif V t b.buf then b.aI+1 else b.aI } else KA a M V r x.2 t
def uj:List (Nat×Sh×Box)->Nat->Bool
 | [],_=>false
 | (i,_,_)::r,t=>Nat.beq t i||uj r t
def Carry.pn(c:Carry)(fz lock:Bool)(wr:List Nat)(a:St)(x:c.ty.den):St :=
 { slots:=λt=>match Qo (uj c.M) c.V c.S x.1 t with
    | some v=>v
    | none=>bif cK wr t then .undef else a.slots t
   mem:=λb=>match KA fz (uj c.M) c.V c.M x.2 b with
    | some d=>some d
    | none=>match a.mem b with
      | some d=>some { d with lk:=d.lk||lock }
      | none=>none }
def settle:List (Nat×Sh)->St->Option St
 | [],σ=>some σ
 | (i,.d t)::r,σ=>match xf σ t (σ.slots i) with
   | some (x,σ)=>settle r (σ.put i<|.data t x)
   | none=>none
 | _::r,σ=>settle r σ
def Carry.KB(c:Carry)(fz:Bool)(a b:St):Option c.ty.den :=
 bif fz then(match settle c.S b with
  | some b=>c.out true a b
  | none=>none)
 else c.out false a b
def Carry.lock(c:Carry)(a:St):St :=
 { a with mem:=λb=>match a.mem b with
  | some d=>some (bif uj c.M b then d else { d with lk:=true })
  | none=>none }
def pA:List Oper->List Nat
 | []=>[]
 | o::r=>match o.dst with|some d=>d::pA r|none=>pA r
def writes:Code->List Nat
 | .region _ ops _=>pA ops.toList
 | .seq a b=>writes a++writes b
 | .cond _ a b=>writes a++writes b
 | .block _ a=>writes a
 | .loop a=>writes a
 | .scope a=>writes a
 | _=>[]
def sU:Code->List Nat
 | .seq a b=>sU a++(sU b).filter λe=>!cK (sU a) e
 | .cond _ a b=>sU a++(sU b).filter λe=>!cK (sU a) e
 | .block i a=>(sU a).filter λe=>!Nat.beq e (i+2)
 | .loop a=>sU a
 | .scope a=>sU a
 | .ret=>[1]
 | .exit i=>[i+2]
 | _=>[]
def marks:Code->Nat
 | .seq a b=>marks a+marks b
 | .cond _ a b=>marks a+marks b+1
 | .block _ a=>marks a
 | .loop a=>marks a+1
 | .scope a=>marks a
 | _=>0
def Iy:List Nat->Nat->Option Nat
 | [],_=>none
 | e::r,k=>bif Nat.beq e k then some 0 else(Iy r k).map (·+1)
def Vz:List Nat->List Nat->List Nat
 | [],l=>l
 | b::r,l=>bif cK l b then Vz r l else Vz r (l++[b])
section
variable (cx:Ctx)
def mkS(a:St):List (Nat×Nat)->Option (List<|Nat×Sh)
 | []=>some []
 | (i,ty)::r=>match mkS a r with
   | none=>none
   | some l=>bif Nat.beq ty 999999 then(match a.slots i with
     | .whole b v=>some ((i,.k (.whole b v))::l)
     | _=>some l) else match a.slots i with
     | .data t _=>some ((i,.d t)::l)
     | .undef|.nJ=>match find cx.T ty with
       | some t=>some ((i,.d t)::l)
       | none=>none
     | v=>some ((i,.k v)::l)
def Bj(a:St):List Nat->List Nat
 | []=>[]
 | b::r=>(match a.mem b with|some d=>(match d.val with|.mix u v=>xj a (.mix u v)|.whole c _=>[c]|.fn f c=>xj a (.fn f c)|_=>[])|none=>[])++Bj a r
def Qp(a:St):List Nat->List Nat
 | []=>[]
 | i::r =>
   let b:=xj a (a.slots i)
   let c:=Bj a b
   let r2:=Bj a c
   Vz (b++(c++(r2++Bj a r2))) (Qp a r)
def mkM(c:St):List Nat->Option (List<|Nat×Sh×Box)
 | []=>some []
 | b::r=>match c.mem b,mkM c r with
   | some a,some l=>bif a.lk then none else some ((b,ad3 a.val,a)::l)
   | _,_=>none
def afZ:aK->Option Nat
 | .whole b _=>some b
 | .part b _ _ _=>some b
 | _=>none
def Ea:List Nat->St->Option St
 | [],σ=>some σ
 | m::r,σ=>bif Nat.ble 2000000 m then(match afZ (σ.slots<|m-2000000) with
  | some b=>match σ.mem b with
    | some a=>match a.val with
      | .data (.slice e) _=>match xf σ (.slice e) (σ.slots<|m-2000000) with
        | some (x,σ)=>Ea r (σ.put (m-2000000)<|.data (.slice e) x)
        | none=>none
      | _=>none
    | none=>none
  | none=>Ea r σ) else Ea r σ
def ahc(a:Nat)(c:List Nat)(d:St)(b:Nat):Bool:=cK (c.map (a+·)) b&&(match d.mem b with|some x=>!x.buf&&!JK x.val|none=>false)
def JQ(d:Nat)(e:List Nat)(a:St)(p:D9):Option Carry :=
 match mkS cx a p.S,mkM a (Qp a p.M) with
 | some s,some m=>some ⟨s,m,λb c=>bif c then !cK p.M 3999999 else ahc d e a b⟩
 | _,_=>none
variable (nb:Nat) (bf:List Nat) (inl:Nat->List aK->St->Tree (aK×St))
def Eb{a:Type}:List Nat->Nat->(Nat->Tree a)->Tree a
 | [],_,_=>.fail
 | [e],_,f=>f e
 | e::r,i,f=>.node (cR i 0) (f e) (Eb r (i-1) f)
variable [Lp]
def again{S:Type}(f:S->Tree (Nat×S)):Nat->S->Tree (Nat×S)
 | 0,_=>.fail
 | n+1,s=>(f s).bind λr=>bif Nat.beq r.1 0 then again f n r.2 else .ret r
def VA(p:D9):Option Nat:=match p.M with
 | [m]=>bif Nat.ble 6000000 m then some (m-6000000) else none
 | _=>none
def FZ(f:St->Tree (Nat×St))(c:Nat):Nat->Nat->St->Tree (Nat×St)
 | 0,_,_=>.fail
 | n+1,j,σ=>match σ.slots c with
   | .data (.int .i64) x=>.need (aL x j) ((f<|σ.put c<|.data (.int .i64) (j:Int)).bind λr=>bif Nat.beq r.1 0 then FZ f c n (j+1) r.2 else .ret r)
   | _=>.fail
def iC:Code->List (Option D9)->St->Tree (Nat×St)
 | .skip,_,σ=>.ret (0,σ)
 | .label _,_,σ=>.ret (0,σ)
 | .ret,_,σ=>.ret (1,σ)
 | .exit i,_,σ=>.ret (i+2,σ)
 | .region _ ops f,_,σ=>(bif f then xo cx nb bf inl ops σ else Ky cx nb bf inl ops σ).bind λσ=>.ret (0,σ)
 | .seq a b,pl,σ=>(iC a pl σ).bind λr=>bif Nat.beq r.1 0 then iC b (pl.drop<|marks a) r.2 else .ret r
 | .block i a,pl,σ=>(iC a pl σ).bind λr=>.ret (bif Nat.beq r.1 (i+2) then 0 else r.1,r.2)
 | .scope a,pl,σ=>iC a pl σ
 | .cond c a b,pl,σ=>match cp σ c,pl with
   | .data .bool c,none::pl=>.node c (iC a pl σ) (iC b (pl.drop<|marks a) σ)
   | .data .bool c,some p::pl=>match Ea p.M σ with
    | none=>.fail
    | some σ=>match JQ cx nb bf σ p with
     | none=>.fail
     | some k =>
       let t:=Tree.node c (iC a pl<|k.lock σ) (iC b (pl.drop<|marks a)<|k.lock σ)
       let wr:=writes a++writes b
       match sU a++(sU b).filter (λe=>!cK (sU a) e) with
       | []=>(t.bind λr=>bif Nat.beq r.1 0 then Tree.abB (k.KB p.fz σ r.2) else .fail).XV (cK p.M 3888888) λx=>.ret (0,k.pn p.fz false wr σ x)
       | es=>(t.bind λr=>match Iy (0::es) r.1,k.KB p.fz σ r.2 with
        | some i,some x=>.ret (i,x)
        | _,_=>.fail).XV (cK p.M 3888888) λx=>Eb (0::es) x.1 λe=>.ret (e,k.pn p.fz false wr σ x.2)
   | _,_=>.fail
 | .loop a,pl,σ=>match pl with
   | some p::pl=>match VA p with
    | some c=>FZ (λσ=>iC a pl σ) c 100 0 σ
    | none=>match Ea p.M σ with
    | none=>.fail
    | some σ=>match JQ cx nb bf σ p with
     | none=>.fail
     | some k=>match k.out false σ σ with
       | none=>.fail
       | some d =>
         let wr:=writes a
         let es:=sU a
         let body (x:k.ty.den):Option (k.ty.den⊕(Nat×k.ty.den)):=((iC a pl<|k.pn false true wr σ x).bind λr=>bif Nat.beq r.1 0 then(match k.out false σ r.2 with
           | some y=>.ret (.inl y)
           | none=>.fail)
          else match Iy es r.1,k.KB p.fz σ r.2 with
           | some i,some y=>.ret (.inr (i,y))
           | _,_=>.fail).run
         match es with
         | [e]=>.look (Loop (λx=>cA (body x)) d) λx=>.ret (e,k.pn p.fz false wr σ x)
         | es=>.look (Loop body d) λx=>Eb es x.1 λe=>.ret (e,k.pn p.fz false wr σ x.2)
   | none::pl=>again (λσ=>iC a pl σ) 100000 σ
   | _=>.fail
 | _,_,_=>.fail
end
variable [Lp]
def nM(mem:Nat->Option Box)(a:List aK):St:={ slots:=λt=>(a[t]?).getD .undef,mem }
def F0(c:Ctx)(b:St):ResultVar->Tree aK
 | .tmp t=>.ret (b.slots t)
 | .cell a ty=>(kU c (some 0) ty (b.slots a) b).bind λτ=>.ret (τ.slots 0)
def Ec(a:Ctx)(b:St):List ResultVar->Tree aK
 | []=>.ret .nl
 | r::rs=>(F0 a b r).bind λv=>(Ec a b rs).bind λl=>.ret (.mix v l)
def results1(a:Ctx)(b:St):List ResultVar->Tree aK
 | [r]=>F0 a b r
 | rs=>(Ec a b rs).bind λl=>.ret (.y7 l)
def iQ(mem:Nat->Option Box):St:={ slots:=λ_=>.undef,mem }
def afD(a:Ctx):List TypeId->Option (List Ty)
 | []=>some []
 | t::r=>match find a.T t,afD a r with
   | some u,some l=>some (u::l)
   | _,_=>none
def abJ(b:Ctx)(a:List TypeId):List Nat->Option (Bool×List Ty)
 | []=>none
 | m::r=>bif Nat.ble 7000000 m&&Nat.ble m 7999999 then(bif Nat.beq m 7999999 then(afD b a).map λl=>(true,l) else(find b.T<|m-7000000).map λR=>(false,[R])) else abJ b a r
def spread(a:Bool)(v:aK):Nat->aK :=
 match a,v with
 | false,v=>λt=>bif Nat.beq t 0 then v else .undef
 | true,.y7 m=>λt=>match nth m t with|some u=>u|none=>.undef
 | true,_=>λ_=>.undef
def KC:aK->Nat
 | .mix _ b=>KC b+1
 | _=>0
def SY(a:Bool)(v:aK)(n:Nat):Bool :=
 match a,v with
 | false,_=>Nat.beq n 1
 | true,.y7 m=>Nat.beq (KC m) n
 | true,_=>false
def af0(a:Nat->aK):Nat->Nat->aK
 | _,0=>.nl
 | i,n+1=>.mix (a i) (af0 a (i+1) n)
def Qq(b:Bool)(n:Nat)(a:Nat->aK):aK :=
 match b with
 | false=>a 0
 | true=>.y7 (af0 a 0 n)
def abK(a:Bool)(v:aK)(mem:Nat->Option Box):St:={ slots:=spread a v,mem }
def X0:List Ty->Nat->List (Nat×Sh)
 | [],_=>[]
 | t::r,i=>(i,.d t)::X0 r (i+1)
def X1(R:Bool×List Ty)(b:List aK)(a:Nat->Option Box)(F:(Nat->Option Box)->Tree (aK×(Nat->Option Box))):Tree (aK×(Nat->Option Box)) :=
 match mkM (iQ a) (Qp (nM a b)<|List.range b.length) with
 | none=>.fail
 | some m =>
   let k:Carry:=⟨X0 R.2 0,m,λ_ c=>c⟩
   let wr:=List.range R.2.length
   ((F (k.lock<|iQ a).mem).bind λr=>bif SY R.1 r.1 R.2.length then Tree.abB (k.out false (iQ a)<|abK R.1 r.1 r.2) else .fail).join λx =>
    .ret (Qq R.1 R.2.length (k.pn false false wr (iQ a) x).slots,(k.pn false false wr (iQ a) x).mem)
def KD(d:Ctx)(e:Nat)(p:sT)(inl:Nat->List aK->St->Tree (aK×St))(fn:Func)(c:Code)(a:List aK)(b:Nat->Option Box):Tree (aK×(Nat->Option Box)) :=
 (iC d e p.Qn inl c p.marks<|nM b a).bind λr =>
  bif Nat.beq r.1 0||Nat.beq r.1 1 then(results1 d r.2 fn.results.toList).bind λv=>.ret (v,r.2.mem) else .fail
def abL(a:Nat->Option Box)(s:Nat):Nat->Nat->Nat
 | 0,b=>b
 | k+1,b=>match a (b+s) with
   | none=>b
   | some _=>abL a s k (b+200)
def CX(a:Nat->Option Box)(b:Nat):List Nat->Nat
 | []=>b
 | m::r=>bif Nat.ble 9000000 m then abL a (m-9000000) 4 b else CX a b r
def y9(a:Ctx):Nat->(nb:Nat)->(oR:Nat->sT)->Nat->List aK->(Nat->Option Box)->Tree (aK×(Nat->Option Box))
 | 0,_,_,_,_,_=>.fail
 | n+1,nb,oR,f,args,mem=>match find a.fns f with
   | some fn=>match fn.body with
     | some c=>match abJ a fn.resultTypes.toList (oR f).Qn with
       | none=>KD a nb (oR f) (λg b σ=>(y9 a n (CX σ.mem ((nb+g+1)*1000) (oR g).Qn) oR g b σ.mem).bind λr=>.ret (r.1,{ σ with mem:=r.2 })) fn c args mem
       | some R=>X1 R args mem (KD a nb (oR f) (λg b σ=>(y9 a n (CX σ.mem ((nb+g+1)*1000) (oR g).Qn) oR g b σ.mem).bind λr=>.ret (r.1,{ σ with mem:=r.2 })) fn c args)
     | none=>.fail
   | none=>.fail
def F1:(A:Ty)->A.den->List aK
 | .pair t r,x=>.data t x.1::F1 r x.2
 | _,_=>[]
def Ed:aK->List aK
 | .mix a b=>a::Ed b
 | _=>[]
def Ee:(R:Ty)->aK->List aK
 | .pair _ .unit,v=>[v]
 | _,.y7 v=>Ed v
 | _,v=>[v]
def Ef(k:Nat):Nat:=777000000+k
def ad6(k:Nat):Nat:=778000000+k
def lT(k:Nat):Nat->List (Nat×Nat)
 | 0=>[]
 | n+1=>(Ef k,0)::lT (k+1) n
def po(k:Nat):Nat->List (Nat×Nat)
 | 0=>[]
 | n+1=>(ad6 k,0)::po (k+1) n
def za:List Bool->OT->(A:Ty)->A.den->Nat->List aK
 | [],_,_,_,_=>[]
 | false::ps,U,A,x,k=>match A,x with
   | .pair t A,x=>.data t x.1::za ps U A x.2 k
   | _,_=>[]
 | true::ps,U,A,x,k=>match U with
   | .pair .dK U=>.dK::za ps U A x k
   | .pair o U=>.ptr (Ef k) 0 []::za ps U A x (k+o.nr)
   | _=>[]
def KE(a:Nat->Option Box):(U:OT)->Nat->Option (U.den×List (Nat×Nat)×List (Nat×Nat))
 | .pair .dK U,k=>match KE a U k with
   | some (u,N,M)=>some (((),u),N,M)
   | none=>none
 | .pair o U,k=>match dd a o (.ptr (Ef k) 0 []),KE a U (k+o.nr) with
   | some (x,N,M),some (u,b,c)=>some ((x,u),N++b,M++c)
   | _,_=>none
 | .unit,_=>some ((),[],[])
 | _,_=>none
def Qr:List (Nat×Nat)->List (Nat×Nat)->Bool
 | [],[]=>true
 | (a,b)::r,(c,d)::s=>Nat.beq a c&&Nat.beq b d&&Qr r s
 | _,_=>false
def Y9(b:Ctx)(n:Nat)(a:Nat->sT)(f:Nat)(c:List Bool)(A:Ty)(U:OT)(R:Ty)(x:A.den×U.den):Option (R.den×U.den) :=
 ((y9 b n 0 a f (za c U A x.1 0)<|iE U x.2 (lT 0 U.nr)<|po 0 U.nb).bind λr=>match kA (iQ r.2) R (Ee R r.1) with
  | some (y,σ)=>(match KE σ.mem U 0 with
    | some (u,N,M)=>bif Qr N (lT 0 U.nr)&&Kx (bo N M)&&Kx (bo (lT 0 U.nr)<|po 0 U.nb) then .ret (y,u) else .fail
    | none=>.fail)
  | none=>.fail).run
def sem(b:Ctx)(n:Nat)(a:Nat->sT)(f:Nat)(A R:Ty)(x:A.den):Option R.den :=
 ((y9 b n 0 a f (F1 A x) λ_=>none).bind λr=>match ig (iQ r.2) R (Ee R r.1) with
  | some y=>.ret y
  | none=>.fail).run
end Go.Ge
