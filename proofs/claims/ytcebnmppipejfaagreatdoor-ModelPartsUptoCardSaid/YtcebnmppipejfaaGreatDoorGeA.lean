import Derived.WalkKit
set_option linter.unusedVariables false
set_option linter.unusedSectionVars false
set_option linter.unusedSimpArgs false
set_option linter.defProp false
open Option renaming some->ab,none->ah
def ai{p:Prop}(h:p:=by omega):p:=h
def aK{p:Prop}(h:p:=by decide):p:=h
def aY{p:Prop}(h:p:=by simp):p:=h
def nU{p:Prop}(h:p:=by simp;omega):p:=h
def BF{p:Prop}(h:p:=by dsimp only;omega):p:=h
def cm{p:Prop}(h:p:=by intro k;cases k):p:=h
def Fx{p:Prop}(h:p:=by intro x k;cases k):p:=h
abbrev aw:=List UInt8
abbrev al:=Unit
abbrev aR:=@Option.some.inj
abbrev aQ:=@if_neg
abbrev aW:=@if_pos
abbrev cL:=@decide_eq_false
abbrev ia:=@List.getElem?_eq_getElem
abbrev dE:=@decide_eq_true
abbrev ja:=@Nat.eq_of_beq_eq_true
abbrev hY:=@List.length_append
abbrev gw:=@Bool.and_eq_true
abbrev km:=@List.length_take
abbrev eT:=@List.mem_of_getElem?
abbrev cg:=@Prod.mk.inj
abbrev ib:=@List.getElem?_eq_some_iff
abbrev cq:=@Nat.le_refl
abbrev eU:=@List.length_cons
abbrev ic:=@Nat.mul_le_mul_right
abbrev gj:=@List.length_nil
abbrev iy:=@of_decide_eq_true
abbrev hH:=@decide_eq_decide
abbrev jU:=@List.getElem?_take
abbrev pL:=@List.mem_cons_self
abbrev nV:=@List.length_drop
abbrev jb:=@Nat.le_trans
abbrev pR:=@decide_eq_true_eq
abbrev pS:=@Int.toNat_natCast
abbrev ld:=@List.mem_cons
abbrev BP:=@List.takeWhile_append_dropWhile
abbrev zf:=@Array.getElem?_eq_some_iff
abbrev jc:=@Nat.add_mul
abbrev vi:=@List.mem_cons_of_mem
abbrev zg:=@List.drop_eq_getElem_cons
abbrev tf:=@List.getElem?_drop
abbrev uH:=@List.append_assoc
abbrev zY:=@List.length_eq_zero_iff
abbrev DC:=@List.pairwise_iff_getElem
abbrev gk:=@Iff.rfl
abbrev BQ:=@List.head_eq_of_cons_eq
abbrev uI:=@List.length_map
abbrev vR:=@List.all_eq_true
abbrev yE:=@List.mem_singleton
abbrev DD:=@Option.bind_eq_some_iff
abbrev BR:=@List.take_append_drop
abbrev qO:=@Nat.zero_le
abbrev zh:=@Bool.not_eq_true'
abbrev DE:=@List.length_singleton
abbrev EA:=@Option.map_eq_some_iff
abbrev DF:=@List.mem_append_left
abbrev yF:=@Nat.min_eq_left
abbrev sN:=@Int.le_refl
abbrev zi:=@List.append_nil
abbrev zj:=@List.mem_filter
abbrev JS:=@Classical.byContradiction
abbrev yG:=@List.drop_drop
abbrev vS:=@Nat.lt_or_ge
abbrev Hp:=@List.take_of_length_le
abbrev BG:=@List.nil_append
abbrev EB:=@Nat.lt_of_lt_of_le
abbrev zZ:=@List.drop_zero
abbrev Lq:=@Option.isSome_iff_exists
abbrev JT:=@List.drop_of_length_le
abbrev Hq:=@List.mem_of_mem_take
abbrev DG:=@List.take_length
abbrev EC:=@List.getElem?_map
abbrev BS:=@Bool.or_eq_true
abbrev ED:=@List.take_add_one
abbrev JU:=@Nat.le_of_ble_eq_true
abbrev JV:=@List.mem_append_right
abbrev Hr:=@List.dropWhile_cons
abbrev Hs:=@List.filter_eq_self
abbrev Lr:=@List.getElem?_eq_none
abbrev Fy:=@Array.toList_inj
abbrev BT:=@Nat.zero_add
abbrev OM:=@Bool.or_eq_false_iff
abbrev aa3:=@List.findIdx?_eq_some_iff_getElem
abbrev Ht:=@List.mem_append
abbrev JW:=@List.cons_append
abbrev Xc:=@Array.getD_eq_getD_getElem?
abbrev Ls:=@List.ext_getElem?
abbrev Lt:=@Option.some.injEq
abbrev Lu:=@List.size_toArray
abbrev Fz:=@Nat.add_assoc
abbrev Xd:=@List.getD_eq_getElem?_getD
abbrev RE:=@List.getElem?_append
abbrev Lv:=@List.mem_flatMap
abbrev Xe:=@List.getElem?_append_left
abbrev Xf:=@List.mem_of_find?_eq_some
abbrev z6:=@cond_true
abbrev RF:=@List.takeWhile_cons
abbrev T5:=@Classical.choose_spec
abbrev JX:=@List.drop_left
abbrev RG:=@decide_eq_true_iff
abbrev zk:=@Eq.trans
abbrev aa4:=@List.getElem?_append_right
abbrev adr:=@List.take_append_of_le_length
abbrev JY:=@Nat.succ_mul
abbrev T6:=@List.find?_eq_none
abbrev T7:=@List.pairwise_cons
abbrev FA:=@cond_false
abbrev Xg:=@List.mem_of_mem_drop
abbrev RH:=@Bool.eq_iff_iff
abbrev Lw:=@List.map_congr_left
abbrev Lx:=@List.getElem?_range
abbrev Ly:=@List.length_pos_iff
abbrev Qj:=@List.length_replicate
abbrev Qk:=@List.mem_iff_getElem?
abbrev LA:=@List.filter_append
abbrev Bc:=@Nat.mod_lt
abbrev DW:=@Nat.le_of_eq
abbrev Zy:=@List.drop_append_of_le_length
abbrev Ql:=@List.length_reverse
abbrev I0:=@List.take_take
abbrev vD:=@if_true
abbrev LB:=@List.drop_length
abbrev T8:=@Array.getElem?_eq_none
abbrev FB:=@Nat.add_zero
abbrev LC:=@Option.map_some
abbrev T9:=@Array.getElem?_modify
abbrev Ua:=@List.length_filter_le
abbrev Ub:=@List.dropLast_eq_take
abbrev Qm:=@Nat.lt_trichotomy
abbrev LD:=@List.mem_range
abbrev Qn:=@List.any_eq_true
abbrev Uc:=@Array.length_toList
abbrev Ud:=@List.take_succ_cons
abbrev Zz:=@List.getElem?_replicate
abbrev ZA:=@decide_eq_false_iff_not
abbrev LF:=@Bool.false_or
abbrev ads:=@List.find?_eq_some_iff_getElem
abbrev Qo:=@List.find?_some
abbrev ZB:=@List.length_eq_one_iff
abbrev Ue:=@List.pairwise_map
abbrev ZC:=@Nat.div_lt_iff_lt_mul
abbrev ZD:=@List.singleton_append
abbrev ZE:=@List.eq_nil_or_concat
abbrev adt:=@List.take_length_add_append
abbrev Uf:=@List.mem_reverse
abbrev LG:=@Nat.mul_one
abbrev LH:=@decide_true
abbrev ZF:=@Array.toList_append
abbrev ZG:=@List.map_eq_flatMap
abbrev Ug:=@Nat.div_add_mod
abbrev Uh:=@UInt8.toNat_inj
abbrev adu:=@List.getElem?_zip_eq_some
abbrev adv:=@List.findIdx?_eq_none_iff
abbrev ZH:=@Nat.eq_zero_or_pos
abbrev Ui:=@List.take_left
abbrev adw:=@List.getElem?_cons_succ
abbrev adx:=@Int.eq_ofNat_of_zero_le
abbrev ZI:=@List.getElem?_set
abbrev ZJ:=@List.length_range
abbrev ZK:=@List.flatMap_cons
abbrev aiy:=@List.set_eq_take_append_cons_drop
abbrev ZL:=@Nat.lt_of_not_le
abbrev ZM:=@Nat.lt_succ_self
abbrev ZN:=@Option.bind_some
abbrev ady:=@Array.getElem?_toList
abbrev adz:=@Array.mem_of_getElem?
abbrev adA:=@BitVec.eq_of_toNat_eq
abbrev adB:=@List.concat_eq_append
abbrev aiz:=@List.mk_mem_zipIdx_iff_getElem?
abbrev Uj:=@Nat.mul_comm
abbrev ZO:=@List.foldl_cons
abbrev Uk:=@List.mem_map
abbrev ZP:=@List.map_append
abbrev adC:=@List.pairwise_append
abbrev aiA:=@List.eq_nil_of_length_eq_zero
abbrev adD:=@List.getElem_of_mem
abbrev adE:=@List.replicate_succ
abbrev adF:=@Int.toNat_of_nonneg
abbrev ZQ:=@List.take_zero
abbrev ZR:=@List.drop_take
abbrev aiB:=@Array.getElem?_setIfInBounds
abbrev ZS:=@List.mapM_cons
abbrev aiC:=@List.dropLast_concat_getLast
abbrev Ul:=@Sum.inl.inj
abbrev Um:=@Nat.sub_mul
abbrev adG:=@BitVec.toNat_ofInt
abbrev adH:=@of_decide_eq_false
abbrev ZT:=@Bool.or_assoc
abbrev aiD:=@Array.getElem?_append_left
abbrev adI:=@List.flatten_cons
abbrev adJ:=@List.getElem_take
abbrev Un:=@beq_iff_eq
abbrev aiE:=@List.getElem?_eq_none_iff
abbrev LI:=@Ne.symm
abbrev ZU:=@Nat.add_comm
abbrev ZV:=@Nat.le_of_lt
abbrev adK:=@Array.toList_map
abbrev aiF:=@Array.setIfInBounds_comm
abbrev aiG:=@Bool.eq_false_or_eq_true
abbrev adL:=@List.getElem_mem
abbrev adM:=@List.length_tail
abbrev aiH:=@List.getElem?_cons_zero
abbrev aiI:=@List.filter_cons_of_pos
abbrev adN:=@List.length_set
abbrev adO:=@List.take_left'
abbrev adP:=@List.length_zip
abbrev adQ:=@Nat.mul_le_mul
abbrev aiJ:=@List.getElem?_toArray
abbrev adR:=@Bool.and_false
abbrev Uo:=@and_self
abbrev adS:=@Bool.or_false
abbrev adT:=@List.cons.inj
abbrev adU:=@List.all_cons
abbrev adV:=@Bool.and_true
abbrev adW:=@Nat.beq_refl
abbrev adX:=@decide_false
abbrev adY:=@Nat.zero_mul
abbrev adZ:=@Nat.min_self
abbrev ad0:=@Bool.not_not
noncomputable section
namespace Go.Ge
inductive Ty where
 | int (k:IntKind)|bool|str|slice (e:Ty)|arr (n:Nat) (e:Ty)|pair (a b:Ty)|unit
 | alt (u:Nat) (a r:Ty)|BH
def Ty.den:Ty->Type
 | .int _=>Int
 | .bool=>Bool
 | .str=>aw
 | .slice e=>List e.den
 | .arr _ e=>List e.den
 | .pair a b=>a.den×b.den
 | .unit=>al
 | .alt _ a r=>a.den⊕r.den
 | .BH=>al
def Bd:IntKind->Nat
 | .i8=>0|.i16=>1|.i32=>2|.i64=>3|.u8=>4|.u16=>5|.u32=>6|.u64=>7
def zl{a b:IntKind}(h:Nat.beq (Bd a) (Bd b)=true):a=b:=by
 cases a<;>cases b<;>first|rfl|(exact absurd h aK)
def Ty.beq:Ty->Ty->Bool
 | .int k,.int g=>Nat.beq (Bd k) (Bd g)
 | .bool,.bool=>true
 | .str,.str=>true
 | .slice e,.slice f=>Ty.beq e f
 | .arr n e,.arr m f=>Nat.beq n m&&Ty.beq e f
 | .pair a b,.pair c d=>Ty.beq a c&&Ty.beq b d
 | .unit,.unit=>true
 | .alt u a r,.alt v b s=>Nat.beq u v&&(Ty.beq a b&&Ty.beq r s)
 | .BH,.BH=>true
 | _,_=>false
def Ty.eq_of_beq:∀{a b:Ty},Ty.beq a b=true->a=b:=by
 intro a;induction a with
 | int k=>intro b h;cases b<;>first|(exact congrArg _<|zl h)|(cases h)
 | bool=>intro b h;cases b<;>first|rfl|(cases h)
 | str=>intro b h;cases b<;>first|rfl|(cases h)
 | slice e f=>intro b h;cases b<;>first|(exact congrArg _<|f h)|(cases h)
 | arr n e f =>
   intro b h;cases b<;>first|(cases h;done)|skip
   simp only[Ty.beq,gw] at h;rw[ja h.1,f h.2]
 | pair a b d g =>
   intro c h;cases c<;>first|(cases h;done)|skip
   simp only[Ty.beq,gw] at h;rw[d h.1,g h.2]
 | unit=>intro b h;cases b<;>first|rfl|(cases h)
 | alt u a r d i =>
   intro c h;cases c<;>first|(cases h;done)|skip
   simp only[Ty.beq,gw] at h;rw[ja h.1,d h.2.1,i h.2.2]
 | BH=>intro b h;cases b<;>first|rfl|(cases h)
def Ty.to(t u:Ty)(x:t.den):Option u.den :=
 if h:Ty.beq t u=true then ab ((Ty.eq_of_beq h)▸x) else ah
def Ty.beq_refl(t:Ty):Ty.beq t t=true:=by
 induction t with
 | int k=>cases k<;>rfl
 | bool=>rfl
 | str=>rfl
 | slice e d=>exact d
 | arr n e d=>simp[Ty.beq,d]
 | pair a b c f=>simp[Ty.beq,c,f]
 | unit=>rfl
 | alt u a r c g=>simp[Ty.beq,c,g]
 | BH=>rfl
def Ty.l5{t u:Ty}{x:t.den}{y:u.den}(h:Ty.to t u x=ab y):∃e:t=u,y=e▸x:=by
 unfold Ty.to at h;split at h
 .rename_i a;exact⟨Ty.eq_of_beq a,by simpa using h.symm⟩
 .cases h
def toL(t u:Ty)(l:List t.den):Option (List u.den) :=
 if h:Ty.beq t u=true then ab ((Ty.eq_of_beq h)▸l) else ah
def mD{t u:Ty}{l:List t.den}{m:List u.den}(h:toL t u l=ab m):∃e:t=u,m=e▸l:=by
 unfold toL at h;split at h
 .rename_i a;exact⟨Ty.eq_of_beq a,by simpa using h.symm⟩
 .cases h
def Ty.size:Ty->Nat
 | .int _|.bool|.str|.slice _=>1
 | .arr n e=>n*e.size
 | .pair a b=>a.size+b.size
 | .unit=>0
 | .alt _ _ r=>r.size
 | .BH=>1
def Ty.isAgg:Ty->Bool
 | .arr ..|.pair ..|.unit=>true
 | .alt _ _ r=>r.isAgg
 | _=>false
def Ty.zero:(t:Ty)->t.den
 | .int _=>(0:Int)
 | .bool=>false
 | .str=>([]:aw)
 | .slice _=>[]
 | .arr n e=>List.replicate n e.zero
 | .pair a b=>(a.zero,b.zero)
 | .unit=>()
 | .alt _ _ r=>.inr r.zero
 | .BH=>()
def ao{α:Type}(c:Bool)(x y:α):α:=bif c then x else y
def ag{a b:Type}(o:Option a)(f:a->Option b):Option b:=o.bind f
def nt(b:Bool):Bool:=!b
def an(a b:Bool):Bool:=a&&b
def oor(a b:Bool):Bool:=a||b
def aS(a b:Int):Bool:=decide (a=b)
def da(a b:Nat):Bool:=Nat.beq a b
def aZ(a b:Int):Bool:=decide (a<b)
def cj(a b:Int):Bool:=decide (a<=b)
def bG(a b:aw):Bool:=decide (a=b)
def fq(a b:aw):Bool:=Op.bytesLess a b
def eqL(a b:List Int):Bool:=decide (a=b)
def eqB(a b:Bool):Bool:=a==b
def dn{S:Type}(o:Option (S⊕(Nat×S))):Option (S⊕S):=o.map λr=>match r with|.inl x=>.inl x|.inr y=>.inr y.2
def aH(k:IntKind)(a b:Int):Int:=k.wrap (a+b)
def db(k:IntKind)(a b:Int):Int:=k.wrap (a-b)
def jH(k:IntKind)(a b:Int):Int:=k.wrap (a*b)
def LJ(k:IntKind)(a b:Int):Int:=k.wrap (a.tdiv b)
def jK(a b:Int):Int:=a.tmod b
def kF(k:IntKind)(a:Int):Int:=k.wrap a
def jV(k:IntKind)(x y:Int):Int:=k.wrap (BitVec.ofInt k.bits x &&& BitVec.ofInt k.bits y).toNat
def zX(k:IntKind)(x y:Int):Int:=k.wrap (BitVec.ofInt k.bits x ||| BitVec.ofInt k.bits y).toNat
def gQ(k:IntKind)(x y:Int):Int:=k.wrap (BitVec.ofInt k.bits x ^^^ BitVec.ofInt k.bits y).toNat
def akn(k:IntKind)(x y:Int):Int:=k.wrap (BitVec.ofInt k.bits x &&& ~~~BitVec.ofInt k.bits y).toNat
def ai2(a b:Int):Int:=bif decide (b<a) then b else a
def imax(a b:Int):Int:=bif decide (a<b) then b else a
def nW(k:IntKind)(a b:Int):Int:=k.wrap (a*2 ^ (min b.toNat k.bits))
def mE(k:IntKind)(a b:Int):Int:=a.fdiv (2 ^ (min b.toNat k.bits))
def plus(a b:Int):Int:=a+b
def minus(a b:Int):Int:=a-b
def len{α:Type}(l:List α):Int:=l.length
def ft{p:Prop}(h:p:=by unfold len;omega):p:=h
def app{α:Type}(l m:List α):List α:=l++m
def one{a:Type}(x:a):List a:=[x]
def idx{α:Type}(l:List α)(i:Int):Option α:=if 0<=i then l[i.toNat]? else ah
def lS{α:Type}(l:List α)(i:Int)(x:α):List α:=l.set i.toNat x
def kn{a:Type}(n:Int)(x:a):List a:=List.replicate n.toNat x
def sub{α:Type}(l:List α)(a n:Int):List α:=(l.drop a.toNat).take n.toNat
def jd{α:Type}(l:List α)(n:Int):List α:=l.take n.toNat
def over{α:Type}(l:List α)(a:Int)(c:List α):List α:=l.take a.toNat++c++l.drop (a.toNat+c.length)
def pick{d e c:Type}(f:d->c)(g:e->c)(x:d⊕e):c:=match x with|.inl a=>f a|.inr b=>g b
def u8(b:UInt8):Int:=(b.toNat:Int)
def aC(s:aw):List Int:=s.map λb=>(b.toNat:Int)
def bu(l:List Int):aw:=l.map λn=>UInt8.ofNat n.toNat
def fits(n:Int):Bool:=decide (n<=4294967296)
def inside(a b n:Int):Bool:=decide (0<=a)&&decide (a<=b)&&decide (b<=n)
def within(i n:Int):Bool:=decide (0<=i)&&decide (i<n)
inductive Tree (α:Type):Type 1 where
 | ret (a:α)
 | fail
 | node (c:Bool) (t e:Tree α)
 | look {T:Type} (o:Option T) (k:T->Tree α)
namespace Tree
def bind{α b:Type}:Tree α->(α->Tree b)->Tree b
 | .ret a,f=>f a
 | .fail,_=>.fail
 | .node c t e,f=>.node c (t.bind f) (e.bind f)
 | .look o k,f=>.look o λx=>(k x).bind f
def run{α:Type}:Tree α->Option α
 | .ret a=>ab a
 | .fail=>ah
 | .node c t e=>ao c t.run e.run
 | .look o k=>ag o λx=>(k x).run
def join{T a:Type}(t:Tree T)(k:T->Tree a):Tree a :=
 match t with
 | .ret x=>k x
 | .node c (.ret x) (.ret y)=>k (ao c x y)
 | t=>.look t.run k
def jL{α:Type}(c:Bool)(t:Tree α):Tree α:=.node c t .fail
def ad1{b:Type}:Option b->Tree b
 | some a=>.ret a
 | none=>.fail
end Tree
inductive Sel where
 | gD (k off:Nat)
 | idx (i:Int) (size:Nat)
inductive cA where
 | undef
 | data (t:Ty) (x:t.den)
 | pT
 | uJ
 | uK
 | xT (b aV:Nat)
 | cell (t:Ty) (x:t.den)
 | ptr (b aV:Nat) (p:List Sel)
 | whole (b aV:Nat)
 | part (b aV:Nat) (lo n:Int)
 | win (b aV:Nat) (q:List Sel) (e:Ty) (k:Nat) (lo n:Int)
 | fn (f:Nat) (ako:List (Nat×Nat))
 | mix (a b:cA)
 | BN (vs:cA)
 | nl
structure Box where
 val:cA
 tid:TypeId
 buf:Bool
 ro:Bool
 lk:Bool
 aV:Nat
structure St where
 br:Nat->cA
 mem:Nat->Option Box
structure BO where
 A:Ty
 R:Ty
 spec:A.den->Option R.den
structure BU where
 ps:List Bool
 A:Ty
 U:Ty
 R:Ty
 spec:A.den×U.den->Option (R.den×U.den)
inductive DH where
 | dat (t:Ty)
 | buf (e:Ty) (eid:Nat)
 | one
 | self
inductive Spc where
 | chk (T:Nat)
 | str (T E:Nat)
 | clone (e:Ty)
 | own (e A:Ty) (res:Bool) (spec:List e.den->A.den->Option (List e.den))
structure Ctx where
 T:List (Nat×Ty)
 rC:List Nat
 zm:List Nat
 fns:List (Nat×Func)
 con:List (Nat×BO)
 ad3:List (Nat×BU)
 sO:List (Nat×List DH)
 T4:List (Nat×Spc)
 Up:List (Nat×Nat)
 inv:List (String×BO)
def Uq{b:Type}:List (String×b)->String->Option b
 | [],_=>ah
 | (i,a)::r,k=>bif decide (i=k) then ab a else Uq r k
def find{α:Type}:List (Nat×α)->Nat->Option α
 | [],_=>ah
 | (i,a)::r,k=>bif Nat.beq i k then ab a else find r k
def St.put(a:St)(d:Nat)(v:cA):St:={ a with br:=λt=>bif Nat.beq t d then v else a.br t }
def St.bD(a:St)(d:Option Nat)(v:cA):St:=match d with|some d=>a.put d v|none=>a
def St.ch(a:St)(b:Nat)(x:Box):St:={ a with mem:=λi=>bif Nat.beq i b then ab x else a.mem i }
def St.bF{c:Type}(a:St)(b:Nat)(val:cA)(tid:TypeId)(buf:Bool)(k:Nat->St->Tree c):Tree c :=
 match a.mem b with
 | some bx=>bif bx.lk then .fail else k (bx.aV+1) (a.ch b { val,tid,buf,ro:=false,lk:=false,aV:=bx.aV+1 })
 | none=>k 0 (a.ch b { val,tid,buf,ro:=false,lk:=false,aV:=0 })
def dz:List Nat->Nat->Bool
 | [],_=>false
 | i::r,t=>Nat.beq t i||dz r t
def LK:Value->cA
 | .int k n=>bif decide (k.min<=n)&&decide (n<=k.max) then .data (.int k) n else .undef
 | .bool b=>.data .bool b
 | .string s=>bif Nat.ble s.data.toList.length 4294967296 then .data .str s.data.toList else .undef
 | .pointer ah=>.uJ
 | .nilIface=>.uK
 | .slice ah 0 0=>.pT
 | _=>.undef
def dv(a:St):Operand->cA
 | .tmp t=>a.br t
 | .const v=>LK v
 | .func f=>.fn f []
 | .global _=>.undef
def ko:Ty->Nat->Option Nat
 | .pair _ _,0=>ab 0
 | .pair a b,k+1=>(ko b k).map (a.size+·)
 | _,_=>ah
def en:cA->Nat
 | .data t _=>t.size
 | .mix a b=>en a+en b
 | .nl=>0
 | _=>1
def yH:(t:Ty)->t.den->Nat->Option (Nat×cA)
 | .pair a _,x,0=>ab (0,.data a x.1)
 | .pair a b,x,k+1=>match yH b x.2 k with|some r=>ab (a.size+r.1,r.2)|none=>ah
 | _,_,_=>ah
def vE:cA->Nat->Option (Nat×cA)
 | .data t x,k=>yH t x k
 | .mix a _,0=>ab (0,a)
 | .mix a b,k+1=>match vE b k with|some r=>ab (en a+r.1,r.2)|none=>ah
 | _,_=>ah
def toD(t:Ty):cA->Option t.den
 | .data u x=>Ty.to u t x
 | .pT=>match t with|.slice _=>ab []|_=>ah
 | _=>ah
def toS(t:Ty):cA->Option t.den
 | .data u x=>Ty.to u t x
 | _=>ah
def RI:(t:Ty)->t.den->Nat->(cA->Tree cA)->Tree t.den
 | .pair a b,x,0,f=>(f<|.data a x.1).bind λv=>match toS a v with
   | some y=>.ret (y,x.2)
   | none=>.fail
 | .pair a b,x,k+1,f=>(RI b x.2 k f).bind λy=>.ret (x.1,y)
 | _,_,_,_=>.fail
def LL:cA->Nat->(cA->Tree cA)->Tree cA
 | .data t x,k,f=>(RI t x k f).bind λy=>.ret (.data t y)
 | .mix a b,0,f=>(f a).bind λv=>.ret (.mix v b)
 | .mix a b,k+1,f=>(LL b k f).bind λv=>.ret (.mix a v)
 | _,_,_=>.fail
def nav:List Sel->cA->Tree cA
 | [],v=>.ret v
 | .gD k off::p,v=>match vE v k with
   | some (o,u)=>bif Nat.beq o off then nav p u else .fail
   | none=>.fail
 | .idx i size::p,v=>match v with
   | .data (.arr _ e) l=>bif Nat.beq size e.size then .look (idx (α:=e.den) l i) λx=>nav p (.data e x) else .fail
   | _=>.fail
def agW(a:Bool)(p:List Sel)(v:cA):Tree cA :=
 match a with
 | false=>nav p v
 | true=>match p,v with
   | .idx i size::p,.data (.slice e) l=>bif Nat.beq size e.size then .look (idx (α:=e.den) l i) λx=>nav p (.data e x) else .fail
   | _,_=>.fail
def z7:List Sel->cA->cA->Tree cA
 | [],_,u=>.ret u
 | .gD k off::p,v,u=>LL v k λw=>z7 p w u
 | .idx i size::p,v,u=>match v with
   | .data (.arr n e) l=>.look (idx (α:=e.den) l i) λx=>(z7 p (.data e x) u).bind λw=>match toS e w with
     | some y=>.ret (.data (.arr n e)<|lS (α:=e.den) l i y)
     | none=>.fail
   | _=>.fail
def RJ(a:Bool)(p:List Sel)(v u:cA):Tree cA :=
 match a with
 | false=>z7 p v u
 | true=>match p,v with
   | .idx i size::p,.data (.slice e) l=>.look (idx (α:=e.den) l i) λx=>(z7 p (.data e x) u).bind λw=>match toS e w with
     | some y=>.ret (.data (.slice e)<|lS (α:=e.den) l i y)
     | none=>.fail
   | _,_=>.fail
namespace Tree
def run_bind{α g:Type}(t:Tree α)(f:α->Tree g):(t.bind f).run=t.run.bind λa=>(f a).run:=by
 induction t with
 | ret a=>rfl
 | fail=>rfl
 | node c t e b d=>cases c<;>simp[bind,run,b,d,ao]
 | look o k h=>cases o<;>simp[bind,run,h,ag]
def BV{T b:Type}(t:Tree T)(k:T->Tree b):(t.join k).run=t.run.bind λa=>(k a).run:=by
 unfold join;split
 .rfl
 .rename_i c x y;cases c<;>rfl
 .rfl
end Tree
def xU:Ty->Nat->Option Ty
 | .pair a _,0=>ab a
 | .pair _ b,k+1=>xU b k
 | _,_=>ah
def Ty.flat:Ty->Bool
 | .slice _=>false
 | .arr _ e=>e.flat
 | .pair a b=>a.flat&&b.flat
 | .alt _ a r=>a.flat&&r.flat
 | _=>true
def Box.row(bx:Box):Option (Ty×Nat) :=
 match bx.buf,bx.val with
 | true,.data (.slice e) l=>ab (e,List.length (α:=e.den) l)
 | false,.data (.arr n e) _=>ab (e,n)
 | _,_=>ah
def jM(e:Ty)(c:St):cA->Option (List e.den)
 | .data (.slice u) l=>toL u e l
 | .pT=>ab []
 | .whole b aV=>match c.mem b with
   | some a=>bif Nat.beq a.aV aV&&a.buf then(match a.val with|.data (.slice u) l=>toL u e l|_=>ah) else ah
   | none=>ah
 | .part b aV lo n=>match c.mem b with
   | some a=>bif Nat.beq a.aV aV then(match a.buf,a.val with
     | true,.data (.slice u) l=>toL u e (sub (α:=u.den) l lo n)
     | false,.data (.arr _ u) l=>toL u e (sub (α:=u.den) l lo n)
     | _,_=>ah) else ah
   | none=>ah
 | _=>ah
def live(c:St)(b a:Nat):Bool:=match c.mem b with|some d=>Nat.beq d.aV a|none=>false
def sP(c:St):(t:Ty)->cA->Option t.den
 | .slice e,v=>(jM e c v:Option (List e.den))
 | .pair a b,v=>match v with
   | .data u x=>Ty.to u (.pair a b) x
   | .mix p q=>(match sP c a p,sP c b q with
     | some x,ab y=>ab (x,y)
     | _,_=>ah)
   | _=>ah
 | .alt n a r,v=>match v with
   | .data u x=>Ty.to u (.alt n a r) x
   | .uK=>match sP c r .uK with
     | some x=>ab (.inr x)
     | none=>ah
   | _=>ah
 | .BH,v=>match v with
   | .data u x=>Ty.to u .BH x
   | .uK=>ab ()
   | _=>ah
 | t,v=>match v with
   | .data u x=>Ty.to u t x
   | _=>ah
def freeze(a:St)(b:Nat):Option St :=
 match a.mem b with
 | some c=>bif c.ro then ab a else bif c.lk then ah else ab (a.ch b { c with ro:=true })
 | none=>ah
def jx(a:St):cA->Option St
 | .whole b _=>freeze a b
 | .part b _ _ _=>freeze a b
 | .mix v w=>match jx a v with
   | some a=>jx a w
   | none=>ah
 | _=>ab a
def BW(a:St)(t:Ty)(v:cA):Option (t.den×St) :=
 match v with
 | .data u x=>match Ty.to u t x with|some y=>ab (y,a)|none=>ah
 | v=>match sP a t v,jx a v with
   | some x,ab a=>ab (x,a)
   | _,_=>ah
def jy(σ:St):(A:Ty)->List cA->Option A.den
 | .unit,[]=>ab ()
 | .pair t r,v::vs=>match sP σ t v,jy σ r vs with
   | some x,ab y=>ab (x,y)
   | _,_=>ah
 | _,_=>ah
def l6(a:St):(A:Ty)->List cA->Option (A.den×St)
 | .unit,[]=>ab ((),a)
 | .pair t r,v::vs=>match BW a t v with
   | some (x,a)=>match l6 a r vs with
     | some (y,a)=>ab ((x,y),a)
     | none=>ah
   | none=>ah
 | _,_=>ah
def BX:(R:Ty)->R.den->cA
 | .pair t r,x=>.mix (.data t x.1) (BX r x.2)
 | _,_=>.nl
def wQ(R:Ty)(x:R.den):cA :=
 match R,x with
 | .pair t .unit,x=>.data t x.1
 | R,x=>.BN (BX R x)
def nth:cA->Nat->Option cA
 | .mix a _,0=>ab a
 | .mix _ b,k+1=>nth b k
 | _,_=>ah
def bitsOf(a:BinOp)(k:IntKind)(x y:Int):Option Int :=
 match a with
 | .and=>ab (jV k x y)
 | .or=>ab (zX k x y)
 | .xor=>ab (gQ k x y)
 | .andNot=>ab (akn k x y)
 | _=>ah
def Ty.eqv:(t:Ty)->t.den->t.den->Option Bool
 | .int _,x,y=>ab (aS x y)
 | .bool,x,y=>ab (eqB x y)
 | .str,x,y=>ab (bG x y)
 | .pair a b,x,y=>match Ty.eqv a x.1 y.1,Ty.eqv b x.2 y.2 with
   | some p,ab q=>ab (an p q)
   | _,_=>ah
 | .unit,_,_=>ab true
 | .arr _ e,x,y=>match e,x,y with
   | .int _,x,y=>ab (eqL x y)
   | _,_,_=>ah
 | _,_,_=>ah
def Ty.JZ:Ty->Nat
 | .pair a b=>a.JZ+b.JZ+1
 | .arr _ e=>e.JZ+1
 | _=>1
def Xh(d:BinOp)(k:IntKind)(a b:Int):Tree cA :=
 match d with
 | .add=>.ret (.data (.int k)<|aH k a b)
 | .sub=>.ret (.data (.int k)<|db k a b)
 | .mul=>.ret (.data (.int k)<|jH k a b)
 | .quo=>.node (aS b 0) .fail (.ret<|.data (.int k)<|LJ k a b)
 | .rem=>.node (aS b 0) .fail (.ret<|.data (.int k)<|jK a b)
 | .eql=>.ret (.data .bool<|aS a b)
 | .neq=>.ret (.data .bool<|nt<|aS a b)
 | .lss=>.ret (.data .bool<|aZ a b)
 | .leq=>.ret (.data .bool<|cj a b)
 | .gtr=>.ret (.data .bool<|aZ b a)
 | .geq=>.ret (.data .bool<|cj b a)
 | d=>match bitsOf d k a b with
   | some c=>.ret (.data (.int k) c)
   | none=>.fail
def Xi(a:BinOp)(x y:aw):Tree cA :=
 match a with
 | .add=>.jL (fits<|plus (len x)<|len y) (.ret<|.data .str<|app x y)
 | .eql=>.ret (.data .bool<|bG x y)
 | .neq=>.ret (.data .bool<|nt<|bG x y)
 | .lss=>.ret (.data .bool<|fq x y)
 | .leq=>.ret (.data .bool<|oor (fq x y)<|bG x y)
 | .gtr=>.ret (.data .bool<|nt<|oor (fq x y)<|bG x y)
 | .geq=>.ret (.data .bool<|nt<|fq x y)
 | _=>.fail
def isEq:BinOp->Option Bool
 | .eql=>ab true
 | .neq=>ab false
 | _=>ah
def FC:BinOp->Option Bool
 | .shl=>ab true
 | .shr=>ab false
 | _=>ah
def Hu(o:Option Ty)(t:Ty):Bool:=match o with|some u=>Ty.beq u t|none=>false
def bin(f:Option Ty)(g:Bool)(d:BinOp)(x y:cA):Tree cA :=
 match x,y with
 | .data (.int k) a,.data (.int h) b =>
   match FC d with
   | some left=>.node (aZ b 0) .fail (.ret<|.data (.int k)<|bif left then nW k a b else mE k a b)
   | none=>bif Nat.beq (Bd k) (Bd h) then Xh d k a b else .fail
 | .data .str a,.data .str b=>Xi d a b
 | .data .bool a,.data .bool b=>bif Hu f .bool then(match isEq d with
   | some true=>.ret (.data .bool<|eqB a b)
   | some false=>.ret (.data .bool<|nt<|eqB a b)
   | none=>.fail) else .fail
 | .data (.pair a b) x,.data t y=>bif Hu f (.pair a b)&&Nat.ble (Ty.pair a b).JZ 9000 then(match Ty.to t (.pair a b) y,isEq d with
   | some y,ab e=>match Ty.eqv (.pair a b) x y with
     | some c=>.ret (.data .bool<|bif e then c else nt c)
     | none=>.fail
   | _,_=>.fail) else .fail
 | .data (.arr n e) x,.data t y=>bif Hu f (.arr n e)&&Nat.ble (Ty.arr n e).JZ 9000 then(match Ty.to t (.arr n e) y,isEq d with
   | some y,ab q=>match Ty.eqv (.arr n e) x y with
     | some c=>.ret (.data .bool<|bif q then c else nt c)
     | none=>.fail
   | _,_=>.fail) else .fail
 | .uJ,.uJ=>match g,isEq d with|true,ab e=>.ret (.data .bool e)|_,_=>.fail
 | _,_=>.fail
def ad4(d:St)(f:Option Ty)(a:Bool)(c:BinOp)(x y:cA):Tree cA :=
 match x,y with
 | .ptr b aV _,.uJ=>bif live d b aV&&a then(match isEq c with|some e=>.ret (.data .bool<|!e)|none=>.fail) else .fail
 | .uJ,.ptr b aV _=>bif live d b aV&&a then(match isEq c with|some e=>.ret (.data .bool<|!e)|none=>.fail) else .fail
 | x,y=>bin f a c x y
def RL(c:Bool)(x y:cA):Tree cA :=
 match x,y with
 | .data (.int k) a,.data (.int d) b=>bif Nat.beq (Bd k) (Bd d) then .ret (.data (.int k)<|bif c then ai2 a b else imax a b) else .fail
 | _,_=>.fail
def un(a:UnOp)(x:cA):Tree cA :=
 match a,x with
 | .not,.data .bool b=>.ret (.data .bool<|nt b)
 | .neg,.data (.int k) n=>.ret (.data (.int k)<|db k 0 n)
 | .xor,.data (.int k) n=>.ret (.data (.int k)<|gQ k (bif k.signed then -1 else k.max) n)
 | _,_=>.fail
def LM:(t:Ty)->t.den->Nat->(u:Ty)->u.den->Option t.den
 | .pair a b,x,0,u,y=>match Ty.to u a y with|some y=>ab (y,x.2)|none=>ah
 | .pair a b,x,k+1,u,y=>match LM b x.2 k u y with|some z=>ab (x.1,z)|none=>ah
 | _,_,_,_,_=>ah
def hJ(a:St)(t:Ty)(x:t.den):List (Nat×Operand)->Option (t.den×St)
 | []=>ab (x,a)
 | (k,o)::r=>match xU t k with
   | some u=>match BW a u (dv a o) with
     | some (y,a)=>match LM t x k u y with
       | some x=>hJ a t x r
       | none=>ah
     | none=>ah
   | none=>ah
def fU(a:St)(e:Ty)(l:List e.den):List (Nat×Operand)->Option (List e.den×St)
 | []=>ab (l,a)
 | (k,o)::r=>match BW a e (dv a o) with
   | some (y,a)=>bif Nat.blt k l.length then fU a e (l.set k y) r else ah
   | none=>ah
def lenOf(c:St):cA->Option Int
 | .data .str s=>ab (len (α:=UInt8) s)
 | .data (.slice e) l=>ab (len (α:=e.den) l)
 | .data (.arr n _) _=>bif Nat.ble n 4294967296 then ab n else ah
 | .pT=>ab 0
 | .whole b aV=>match c.mem b with
   | some a=>bif Nat.beq a.aV aV&&a.buf then(match a.val with|.data (.slice u) l=>ab (len (α:=u.den) l)|_=>ah) else ah
   | none=>ah
 | .part b aV _ n=>bif live c b aV then ab n else ah
 | _=>ah
def ZW(o:Option Ty):cA->Bool
 | .data .str _=>Hu o .str
 | .data (.slice e) _=>Hu o (.slice e)
 | .data (.arr n e) _=>Hu o (.arr n e)
 | .pT|.whole ..|.part ..=>match o with|some (.slice _)=>true|_=>false
 | _=>false
def bounds(c:St)(n:Int)(d e:Option Operand):Option (Int×Int) :=
 match d,e with
 | none,ah=>ab (0,n)
 | some a,ah=>match dv c a with|.data (.int _) x=>ab (x,n)|_=>ah
 | none,ab b=>match dv c b with|.data (.int _) y=>ab (0,y)|_=>ah
 | some a,ab b=>match dv c a,dv c b with|.data (.int _) x,.data (.int _) y=>ab (x,y)|_,_=>ah
def isRef:cA->Bool
 | .ptr ..|.whole ..|.part ..|.fn ..|.uJ|.uK|.xT ..|.mix ..|.cell ..|.pT=>true
 | _=>false
section
variable (cx:Ctx) (nb:Nat) (bf:List Nat) (inl:Nat->List cA->St->Tree (cA×St))
def kp(d:Option Nat)(c:TypeId)(v:cA)(a:St):Tree St :=
 match v with
 | .undef=>bif dz cx.rC c then .ret (a.bD d .undef) else .fail
 | .pT=>match d,find cx.T c with
   | some d,ab (.slice e)=>bif dz bf d then a.bF (nb+d) (.data (.slice e) []) 0 true λb a=>.ret (a.put d<|.whole (nb+d) b)
     else .ret (a.put d<|.data (.slice e) [])
   | _,_=>.ret (a.bD d .pT)
 | v=>.ret (a.bD d v)
def pU(d:Option Nat)(c a b:cA)(e:St):Tree St :=
 match c with
 | .data .bool c=>match a,b with
   | .data t x,.data u y=>match Ty.to u t y with
     | some y=>.ret (e.bD d<|.data t<|ao c x y)
     | none=>.fail
   | a,b=>.node c (.ret<|e.bD d a) (.ret<|e.bD d b)
 | _=>.fail
def ad5:(t:Ty)->t.den->cA
 | .pair a b,x=>.mix (.data a x.1) (ad5 b x.2)
 | t,x=>.data t x
def ad6:cA->cA
 | .data t x=>ad5 t x
 | v=>v
def ad7:Ty->cA->Bool
 | .slice _,.whole ..=>true
 | t,.data u _=>Ty.beq u t
 | _,_=>false
def ZX:Ty->cA->Bool
 | .pair a b,.mix p q=>ad7 a p&&ZX b q
 | t,.data u _=>Ty.beq u t
 | _,_=>false
def ad8(u:Ty):cA->Bool
 | .whole b aV=>ad7 u (.whole b aV)
 | .mix p q=>ZX u (.mix p q)
 | _=>false
def ad9:cA->Bool
 | .data (.pair _ _) _=>true
 | .mix ..=>true
 | _=>false
def C1(a:TypeId):cA->Bool
 | .mix p q=>match find cx.T a with|some u=>ZX u (.mix p q)|none=>false
 | _=>false
def z8(a:TypeId):cA->Bool
 | .data u _=>Hu (find cx.T a) u
 | .whole ..=>match find cx.T a with|some (.slice _)=>true|_=>false
 | .ptr ..|.uJ|.fn ..=>dz cx.rC a
 | _=>false
def mF(d:Option Nat)(c:TypeId)(a:cA)(e:St):Tree St :=
 match a with
 | .cell u x=>bif Hu (find cx.T c) u then .ret (e.bD d<|.data u x) else .fail
 | .ptr b aV p=>match e.mem b with
   | some f=>bif Nat.beq f.aV aV then(agW f.buf p f.val).bind λv=>bif z8 cx c v||C1 cx c v then .ret (e.bD d v) else .fail else .fail
   | none=>.fail
 | _=>.fail
def storeAt(b d:Nat)(p:List Sel)(e:cA->Bool)(v:cA)(g:St):Tree St :=
 match g.mem b with
 | some a=>bif Nat.beq a.aV d&&!a.lk&&!a.ro then
    (agW a.buf p a.val).bind λf=>bif e f then(RJ a.buf p a.val v).bind λc=>.ret (g.ch b { a with val:=c }) else .fail
   else .fail
 | none=>.fail
def tO(b a:Nat)(p:List Sel)(n:Nat)(v:cA)(e:St):Tree St :=
 match e.mem b with
 | some bx=>bif Nat.beq bx.aV a&&!bx.lk&&!bx.ro&&!bx.buf&&ad9 bx.val then
    (nav p<|ad6 bx.val).bind λd=>bif Nat.beq (en d) n then(z7 p (ad6 bx.val) v).bind λc=>bif ad9 c then .ret (e.ch b { bx with val:=c }) else .fail else .fail
   else .fail
 | none=>.fail
def ai4(u:Ty):cA->Bool
 | .data t _=>Ty.beq t u
 | _=>false
def ZY:cA->Bool
 | .undef=>true
 | _=>false
def mZ(e:TypeId)(a v:cA)(d:St):Tree St :=
 match a with
 | .ptr b aV p=>match d.mem b with
   | some f=>bif Nat.beq f.aV aV then(agW f.buf p f.val).bind λc=>match c with
      | .data u _=>bif Hu (find cx.T e) u then(bif dz bf 8000000&&ad8 u v then tO b aV p u.size v d else match BW d u v with
       | some (y,d)=>storeAt b aV p (ai4 u) (.data u y) d
       | none=>.fail) else .fail
      | _=>bif z8 cx e v&&isRef v then storeAt b aV p (λc=>(z8 cx e c&&isRef c)||ZY c) v d else .fail
     else .fail
   | none=>.fail
 | _=>.fail
def na(d:Option Nat)(i:TypeId)(x:cA)(lo h:Option Operand)(f:St):Tree St :=
 match find cx.T i,x with
 | some .str,.data .str s=>match bounds f (len (α:=UInt8) s) lo h with
   | some (a,b)=>.jL (inside a b<|len (α:=UInt8) s) (.ret<|f.bD d<|.data .str<|sub (α:=UInt8) s a<|minus b a)
   | none=>.fail
 | some (.slice u),.data (.slice e) l=>bif Ty.beq u e then(match bounds f (len (α:=e.den) l) lo h with
   | some (a,b)=>.jL (inside a b<|len (α:=e.den) l) (.ret<|f.bD d<|.data (.slice e)<|sub (α:=e.den) l a<|minus b a)
   | none=>.fail) else .fail
 | some (.slice u),.part c aV l n=>match f.mem c with
   | some g=>bif Nat.beq g.aV aV&&(match g.row with|some (e,_)=>Ty.beq u e|none=>false) then(match bounds f n lo h with
     | some (a,b)=>.jL (inside a b n) (.ret<|f.bD d<|.part c aV (plus l a)<|minus b a)
     | none=>.fail) else .fail
   | none=>.fail
 | some (.slice u),.whole c aV=>match f.mem c with
   | some g=>bif Nat.beq g.aV aV&&g.buf then(match g.val with
     | .data (.slice e) l=>bif Ty.beq u e then(match lo,h with
       | none,ah=>.ret (f.bD d<|.whole c aV)
       | lo,h=>match bounds f (len (α:=e.den) l) lo h with
         | some (a,b)=>.jL (inside a b<|len (α:=e.den) l) (.ret<|f.bD d<|.part c aV a<|minus b a)
         | none=>.fail) else .fail
     | _=>.fail) else .fail
   | none=>.fail
 | some (.arr m u),.ptr c aV (s::q)=>bif live f c aV&&Nat.ble m 4294967296 then(match bounds f m lo h with
   | some (a,b)=>.jL (inside a b m) (.ret<|f.bD d<|.win c aV (s::q) u m a<|minus b a)
   | none=>.fail) else .fail
 | some (.arr m u),.ptr c aV []=>match f.mem c with
   | some g=>bif Nat.beq g.aV aV&&!g.buf then(match g.val with
     | .data (.arr n e) _=>bif Nat.beq m n&&Ty.beq u e&&Nat.ble n 4294967296 then(match bounds f n lo h with
       | some (a,b)=>.jL (inside a b n) (.ret<|f.bD d<|.part c aV a<|minus b a)
       | none=>.fail) else .fail
     | _=>.fail) else .fail
   | none=>.fail
 | _,_=>.fail
def Aa(d:St)(b a:Nat):Option (Ty×Int):=match d.mem b with
 | some c=>bif Nat.beq c.aV a then(match c.buf,c.val with
   | true,.data (.slice e) l=>ab (e,len (α:=e.den) l)
   | false,.data (.arr n e) _=>ab (e,n)
   | _,_=>ah) else ah
 | none=>ah
def Qp(a:TypeId):Option Nat :=
 match find cx.T a with
 | some _=>ah
 | none=>match find cx.Up a with
   | some e=>bif dz cx.rC e then ab e else ah
   | none=>ah
def LN(d:Option Nat)(b a:Nat)(c:St)(i:Int):Nat->Nat->Tree St
 | 0,_=>.fail
 | m+1,k=>.node (aS i k) (.ret<|c.bD d<|.ptr b a [.gD k k]) (LN d b a c i m<|k+1)
def KO:List Sel->Bool
 | [.gD _ off]=>Nat.beq off 0
 | _=>false
def fc(d:Option Nat)(c:TypeId)(x:cA)(i:Int)(a:St):Tree St :=
 match find cx.T c,x with
 | some (.slice u),.data (.slice e) l=>bif Ty.beq u e then .look (idx (l:List e.den) i) λy=>.ret (a.bD d<|.cell e y) else .fail
 | some (.arr m u),.cell (.arr n e) l=>bif Ty.beq u e&&Nat.beq m n then .look (idx (l:List e.den) i) λy=>.ret (a.bD d<|.cell e y) else .fail
 | some (.slice u),.whole b aV=>match Aa a b aV with
   | some (e,n)=>bif Ty.beq u e then .jL (within i n) (.ret<|a.bD d<|.ptr b aV [.idx i e.size]) else .fail
   | none=>.fail
 | some (.slice u),.part b aV lo n=>match Aa a b aV with
   | some (e,_)=>bif Ty.beq u e then .jL (within i n) (.ret<|a.bD d<|.ptr b aV [.idx (plus lo i) e.size]) else .fail
   | none=>.fail
 | some (.arr m u),.ptr b aV p=>bif live a b aV then .jL (within i m) (.ret<|a.bD d<|.ptr b aV<|p++[.idx i u.size]) else .fail
 | none,.win b aV q _ _ lo n=>match Qp cx c with
   | some _=>bif KO q&&decide (lo=0)&&live a b aV then LN d b aV a i n.toNat 0 else .fail
   | none=>.fail
 | _,_=>.fail
def nc(d:Option Nat)(c:TypeId)(x:cA)(i:Int)(a:St):Tree St :=
 match x,Qp cx c with
 | .win b aV q _ _ lo n,ab _=>bif KO q&&decide (lo=0)&&live a b aV then(match i with
  | .ofNat k=>bif decide ((k:Int)<n) then .ret (a.bD d<|.ptr b aV [.gD k k]) else .fail
  | .negSucc _=>.fail) else .fail
 | x,_=>fc cx d c x i a
def nd(d:Option Nat)(c:TypeId)(x:cA)(i:Int)(a:St):Tree St :=
 match find cx.T c,x with
 | some .str,.data .str s=>.look (idx (s:aw) i) λb=>.ret (a.bD d<|.data (.int .u8)<|u8 b)
 | some (.arr m u),.data (.arr n e) l=>bif Ty.beq u e&&Nat.beq m n then .look (idx (l:List e.den) i) λy=>.ret (a.bD d<|.data e y) else .fail
 | _,_=>.fail
def DH.size:DH->Nat
 | .dat t=>t.size
 | _=>1
def Ab:List DH->Nat->Option Nat
 | [],_=>ah
 | _::_,0=>ab 0
 | f::r,k+1=>match Ab r k with|some o=>ab (f.size+o)|none=>ah
def fD(d:Option Nat)(s:TypeId)(x:cA)(k:Nat)(a:St):Tree St :=
 match x with
 | .cell u y=>bif Hu (find cx.T s) u then(match vE (.data u y) k with
   | some (_,.data t z)=>.ret (a.bD d<|.cell t z)
   | _=>.fail) else .fail
 | .ptr b aV p=>bif live a b aV then(match find cx.T s with
   | some t=>match ko t k,xU t k with
     | some off,ab _=>.ret (a.bD d<|.ptr b aV<|p++[.gD k off])
     | _,_=>.fail
   | none=>match find cx.sO s with
     | some c=>match Ab c k with
       | some off=>.ret (a.bD d<|.ptr b aV<|p++[.gD k off])
       | none=>.fail
     | none=>.fail) else .fail
 | _=>.fail
def iJ(d:Option Nat)(b c:TypeId)(x:cA)(a:St):Tree St :=
 match find cx.T b,find cx.T c,x with
 | some (.int _),ab (.int k),.data (.int _) n=>.ret (a.bD d<|.data (.int k)<|kF k n)
 | some .str,ab .str,.data .str s=>.ret (a.bD d<|.data .str s)
 | some .str,ab (.slice<|.int .u8),.data .str s=>match d with
   | some d=>.jL (fits<|len (α:=UInt8) s) (a.bF (nb+d) (.data (.slice<|.int .u8)<|aC s) 0 true λe a=>.ret (a.put d<|.whole (nb+d) e))
   | none=>.fail
 | some (.slice<|.int .u8),ab .str,x=>match jM (.int .u8) a x with
   | some l=>.ret (a.bD d<|.data .str<|bu l)
   | none=>.fail
 | _,_,_=>.fail
def yI(e:Ty)(a:St)(x:cA):Option (List e.den):=match x with
 | .data .str t=>toL (.int .u8) e (aC t)
 | x=>jM e a x
def ai5(a t:Nat):Bool:=Nat.beq t 0||(match find cx.Up a with|some e=>Nat.beq e t|none=>false)
def je(d:Option Nat)(f:TypeId)(s x:cA)(a:St):Tree St :=
 match d,find cx.T f with
 | some d,ab (.slice e) =>
   match yI e a x with
   | some m=>match s with
     | .pT=>.jL (fits<|len (α:=e.den) m) (a.bF (nb+d) (.data (.slice e) m) 0 true λaV a=>.ret (a.put d<|.whole (nb+d) aV))
     | .whole b aV=>match a.mem b,jM e a (.whole b aV) with
       | some c,ab l=>bif c.lk||!ai5 cx f c.tid then .fail else
         .jL (fits<|plus (len (α:=e.den) l)<|len (α:=e.den) m) (.ret<|(a.ch b { c with val:=.data (.slice e) (app (α:=e.den) l m),aV:=aV+1 }).put d<|.whole b<|aV+1)
       | _,_=>.fail
     | _=>.fail
   | none=>.fail
 | _,_=>.fail
def lf(e:Ty)(m:List e.den)(b d:Nat)(q:List Sel)(f:Nat->Ty->Bool)(i:Int)(g:St):Tree St :=
 match g.mem b with
 | some a=>bif Nat.beq a.aV d&&!a.lk&&!a.ro then
    (match a.buf with
    | true=>match q,a.val with
      | [],.data (.slice u) l=>match toL e u m with
        | some m=>.ret (g.ch b { a with val:=.data (.slice u) (over (α:=u.den) l i m) })
        | none=>.fail
      | _,_=>.fail
    | false=>(nav q a.val).bind λh=>match h with
      | .data (.arr k u) l=>bif f k u then(match toL e u m with
        | some m=>(z7 q a.val<|.data (.arr k u)<|over (α:=u.den) l i m).bind λc=>.ret (g.ch b { a with val:=c })
        | none=>.fail) else .fail
      | _=>.fail)
   else .fail
 | none=>.fail
def Hv(e:Ty)(m:Int->List e.den)(t:cA)(a:St):Tree (Int×St) :=
 match t with
 | .part b aV lo n=>(lf e (m n) b aV [] (λ_ _=>true) lo a).bind λa=>.ret (n,a)
 | .whole b aV=>match lenOf a t with|some n=>(lf e (m n) b aV [] (λ_ _=>true) 0 a).bind λa=>.ret (n,a)|none=>.fail
 | .win b aV q u k lo n=>(lf e (m n) b aV q (λc d=>Nat.beq k c&&Ty.beq u d) lo a).bind λa=>.ret (n,a)
 | _=>.fail
def zn(d:Option Nat)(b:TypeId)(t x:cA)(a:St):Tree St :=
 match find cx.T b with
 | some (.slice e)=>match yI e a x with
   | none=>.fail
   | some m=>(Hv e (λn=>jd (α:=e.den) m n) t a).bind λr=>.ret (r.2.bD d<|.data (.int .i64)<|len<|jd (α:=e.den) m r.1)
 | _=>.fail
def zo(a:TypeId)(t:cA)(b:St):Tree St :=
 match find cx.T a with
 | some (.slice e)=>(Hv e (λn=>kn n e.zero) t b).bind λr=>.ret r.2
 | _=>.fail
def rH:(U:Ty)->U.den->List Nat->Nat->Option cA
 | .pair t U,u,ns,c=>match ns with
   | b::ns=>bif Nat.beq c b then ab (.data t u.1) else rH U u.2 ns c
   | []=>ah
 | _,_,_,_=>ah
def Ac(U:Ty)(u:U.den)(b:List Nat)(a:St):St :=
 { a with mem:=λc=>match rH U u b c with
  | some v=>(match a.mem c with|some d=>ab { d with val:=v }|none=>ah)
  | none=>a.mem c }
def tP(c:St):List Bool->(A U:Ty)->List cA->Option (A.den×U.den×List Nat)
 | [],A,U,vs=>match A,U,vs with
   | .unit,.unit,[]=>ab ((),(),[])
   | _,_,_=>ah
 | false::ps,A,U,vs=>match A,vs with
   | .pair t A,v::vs=>match toD t v,tP c ps A U vs with
     | some x,ab (y,u,ns)=>ab ((x,y),u,ns)
     | _,_=>ah
   | _,_=>ah
 | true::ps,A,U,vs=>match U,vs with
   | .pair t U,.ptr b aV []::vs=>match c.mem b with
     | some a=>bif Nat.beq a.aV aV&&!a.buf&&!a.lk&&!a.ro&&Nat.beq a.tid 0 then(match toS t a.val,tP c ps A U vs with
       | some x,ab (y,u,ns)=>bif dz ns b then ah else ab (y,(x,u),b::ns)
       | _,_=>ah) else ah
     | none=>ah
   | _,_=>ah
def KP:cA->Bool
 | .whole ..=>true
 | _=>false
def C2(s:Spc)(d:Option Nat)(c:List cA)(e:St):Tree St :=
 match s,c with
 | .chk T,[.ptr b aV []]=>match e.mem b with
   | some a=>match a.val with
     | .mix (.xT f g) (.mix u<|.data .unit _)=>bif Nat.beq a.aV aV&&!a.buf&&!a.lk&&!a.ro&&Nat.beq a.tid T&&Nat.blt 0 T&&Nat.beq f b&&Nat.beq g aV&&KP u then .ret (e.bD d<|.BN .nl) else .fail
     | _=>.fail
   | none=>.fail
 | .str T E,[.ptr b aV []]=>match e.mem b with
   | some a=>match a.val with
     | .mix (.xT _ _) (.mix (.whole h hv)<|.data .unit _)=>bif Nat.beq a.aV aV&&!a.buf&&Nat.beq a.tid T&&Nat.blt 0 T&&!Nat.beq h b then(match e.mem h with
       | some hx=>bif Nat.beq hx.aV hv&&hx.buf&&!hx.lk&&Nat.beq hx.tid E&&Nat.blt 0 E then(match hx.val with
         | .data (.slice<|.int .u8) l=>.ret ((e.ch h { hx with val:=.data (.slice<|.int .u8) [],aV:=hx.aV+1 }).bD d<|.data .str<|bu l)
         | _=>.fail) else .fail
       | none=>.fail) else .fail
     | _=>.fail
   | none=>.fail
 | _,_=>.fail
def ownRow(d:Option Nat):Option Nat:=match d with|some d=>bif dz bf (4000000+d) then ab d else ah|none=>ah
def Ur(d:Option Nat):Option Nat:=match d with|some d=>bif dz bf d then ab d else ah|none=>ah
def nf(e:Ty)(d:Option Nat)(a:List cA)(b:St):Tree St :=
 match d,a with
 | some d,[x]=>match BW b (.slice e) x with
   | some (l,b)=>bif Nat.blt 0 e.size then .jL (fits<|len (α:=e.den) l) (b.bF (nb+d) (.data (.slice e) l) 0 true λc b=>.ret (b.put d<|.whole (nb+d) c)) else .fail
   | none=>.fail
 | _,_=>.fail
def Ad(e:Ty)(c:St):cA->Option (Nat×Nat×Box×List e.den)
 | .whole b aV=>match c.mem b with
   | some a=>bif Nat.beq a.aV aV&&a.buf&&!a.lk&&!a.ro&&Nat.beq a.tid 0 then(match a.val with
     | .data (.slice u) l=>(match toL u e l with|some l=>ab (b,aV,a,l)|none=>ah)
     | _=>ah) else ah
   | none=>ah
 | .part b aV lo n=>match c.mem b with
   | some a=>bif Nat.beq a.aV aV&&a.buf&&!a.lk&&!a.ro&&Nat.beq a.tid 0&&decide (lo=0) then(match a.val with
     | .data (.slice u) l=>(match toL u e l with|some l=>ab (b,aV,a,sub (α:=e.den) l lo n)|none=>ah)
     | _=>ah) else ah
   | none=>ah
 | _=>ah
def tQ(e A:Ty)(g:Bool)(a:List e.den->A.den->Option (List e.den))(d:Option Nat)(c:List cA)(f:St):Tree St :=
 match c with
 | v::vs=>match l6 f A vs with
   | some (x,f)=>match Ad e f v with
     | some (b,aV,h,l)=>.look (a l x) λi=>match g,d with
       | true,ab d=>.ret ((f.ch b { h with val:=.data (.slice e) i,aV:=aV+1 }).put d<|.whole b<|aV+1)
       | false,d=>bif KP v then .ret ((f.ch b { h with val:=.data (.slice e) i }).bD d<|.BN .nl) else .fail
       | _,_=>.fail
     | none=>.fail
   | none=>.fail
 | []=>.fail
def yJ(d:Option Nat)(f:Nat):Option Spc :=
 match find cx.T4 f with
 | some (.clone e)=>match Ur bf d with|some _=>ab (.clone e)|none=>ah
 | some (.own e A r s)=>ab (.own e A r s)
 | _=>ah
def yK(d:Option Nat)(f:Nat)(a:List cA)(b:St):Tree St :=
 match find cx.con f with
 | some c=>match c.R.flat with
   | true=>match jy b c.A a with
     | some x=>.look (c.spec x) λy=>.ret (b.bD d<|wQ c.R y)
     | none=>.fail
   | false=>match l6 b c.A a with
     | some (x,b)=>.look (c.spec x) λy=>.ret (b.bD d<|wQ c.R y)
     | none=>.fail
 | none=>match find cx.T4 f with
  | some s=>C2 s d a b
  | none=>match find cx.ad3 f with
   | some c=>(match tP b c.ps c.A c.U a with
     | some (x,u,ns)=>.look (c.spec (x,u)) λy=>.ret ((Ac c.U y.2 ns b).bD d<|wQ c.R y.1)
     | none=>(inl f a b).bind λr=>.ret (r.2.bD d r.1))
   | none=>(inl f a b).bind λr=>.ret (r.2.bD d r.1)
def vT(d:Option Nat)(f:Nat)(a:List cA)(b:St):Tree St :=
 match yJ cx bf d f with
 | some (.clone e)=>nf nb e d a b
 | some (.own e A r s)=>tQ e A r s d a b
 | _=>yK cx inl d f a b
def Us:(t:Ty)->(u:Nat)->Option ((a:Ty)×(a.den->t.den))
 | .alt n a r,u=>bif Nat.beq n u then ab ⟨a,.inl⟩ else match Us r u with
   | some ⟨b,f⟩=>ab ⟨b,λx=>.inr (f x)⟩
   | none=>ah
 | _,_=>ah
def tg(d:Option Nat)(c u:TypeId)(x:cA)(b:St):Tree St :=
 match find cx.T c with
 | some t=>match Us t u with
   | some ⟨a,f⟩=>match BW b a x with
     | some (y,b)=>.ret (b.bD d<|.data t<|f y)
     | none=>.fail
   | none=>.fail
 | none=>.fail
def ti(d:Option Nat)(a:String)(b:List cA)(e:St):Tree St :=
 match Uq cx.inv a with
 | some c=>match l6 e c.A b with
   | some (x,e)=>.look (c.spec x) λy=>.ret (e.bD d<|wQ c.R y)
   | none=>.fail
 | none=>.fail
def wR(d:Option Nat)(h:TypeId)(c:Call)(a:St):Tree St :=
 match c.callee with
 | .builtin b=>match b,c.args.toList.map (dv a),c.argTypes.toList with
   | .len,[x],[t]=>bif ZW (find cx.T t) x then(match lenOf a x with
     | some n=>.ret (a.bD d<|.data (.int .i64) n)
     | none=>.fail) else(match Qp cx t,x with
     | some _,.win b aV _ _ _ _ n=>bif live a b aV&&decide (n<=64) then .ret (a.bD d<|.data (.int .i64) n) else .fail
     | _,_=>.fail)
   | .append,[s,x],[t,u]=>match find cx.T u with
     | some .str|some (.slice _)=>je cx nb d t s x a
     | _=>.fail
   | .copy,[t,x],[g,tx]=>match find cx.T tx with
     | some .str|some (.slice _)=>zn cx d g t x a
     | _=>.fail
   | .clear,[t],[g]=>match d with|none=>zo cx g t a|some _=>.fail
   | .min,[x,y],_=>RL true x y |>.bind λv=>.ret (a.bD d v)
   | .max,[x,y],_=>RL false x y |>.bind λv=>.ret (a.bD d v)
   | _,_,_=>.fail
 | .value f=>match dv a f with
   | .fn f e=>bif e.all (λb=>live a b.1 b.2) then vT cx nb bf inl d f (c.args.toList.map (dv a)++e.map λb=>.ptr b.1 b.2 []) a else .fail
   | _=>.fail
 | .invoke r name=>ti cx d name (dv a r::c.args.toList.map (dv a)) a
def Hw:List cA->Option (List<|Nat×Nat)
 | []=>ab []
 | .ptr b aV []::r=>(Hw r).map ((b,aV)::·)
 | _=>ah
def KQ(a:St)(b:Nat):Nat:=match a.mem b with|some bx=>bx.aV+1|none=>0
def mkObj(b a:Nat):List DH->Nat->St->Tree (cA×St)
 | [],_,σ=>.ret (.data .unit (),σ)
 | .dat t::r,j,σ=>(mkObj b a r (j+1) σ).bind λx=>.ret (.mix (.data t t.zero) x.1,x.2)
 | .one::r,j,σ=>(mkObj b a r (j+1) σ).bind λx=>.ret (.mix .uJ x.1,x.2)
 | .self::r,j,σ=>(mkObj b a r (j+1) σ).bind λx=>.ret (.mix (.xT b a) x.1,x.2)
 | .buf e c::r,j,σ=>bif Nat.blt 0 e.size then σ.bF (b*1000+999-j) (.data (.slice e) []) c true λv σ=>(mkObj b a r (j+1) σ).bind λx=>.ret (.mix (.whole (b*1000+999-j) v) x.1,x.2) else .fail
def tR:List DH->Option cA
 | []=>ab (.data .unit ())
 | .dat t::r=>match tR r with|some v=>ab (.mix (.data t t.zero) v)|none=>ah
 | .buf _ _::r=>match tR r with|some v=>ab (.mix .pT v)|none=>ah
 | .one::r=>match tR r with|some v=>ab (.mix .uJ v)|none=>ah
 | .self::_=>ah
def rI(b:St)(a:List DH):cA->List (Nat×Operand)->Option cA
 | v,[]=>ab v
 | v,(k,x)::r=>match vE v k,Ab a k,a[k]? with
   | some (o,.data t _),ab c,ab f=>bif Nat.beq o c&&Nat.beq t.size f.size then(match toS t (dv b x) with
     | some y=>match(LL v k λ_=>.ret (.data t y)).run with
       | some v=>rI b a v r
       | none=>ah
     | none=>ah) else ah
   | _,_,_=>ah
def rJ(b:Nat):List DH->Nat->cA->St->Tree (cA×St)
 | [],_,.data .unit x,σ=>.ret (.data .unit x,σ)
 | .dat _::r,j,.mix (.data u y) v,σ=>(rJ b r (j+1) v σ).bind λx=>.ret (.mix (.data u y) x.1,x.2)
 | .one::r,j,.mix .uJ v,σ=>(rJ b r (j+1) v σ).bind λx=>.ret (.mix .uJ x.1,x.2)
 | .buf e a::r,j,.mix .pT v,σ=>bif Nat.blt 0 e.size then σ.bF (b*1000+999-j) (.data (.slice e) []) a true λc σ=>(rJ b r (j+1) v σ).bind λx=>.ret (.mix (.whole (b*1000+999-j) c) x.1,x.2) else .fail
 | _,_,_,_=>.fail
def BZ(a:St):Nat->List (Nat×Operand)->Option cA
 | _,[]=>ab (.data .unit ())
 | k,(j,x)::r=>bif Nat.beq j k then(match dv a x,BZ a (k+1) r with
   | .uJ,ab v=>ab (.mix .uJ v)
   | .ptr b aV p,ab v=>ab (.mix (.ptr b aV p) v)
   | .fn f c,ab v=>ab (.mix (.fn f c) v)
   | _,_=>ah) else ah
def C3(d:Option Nat)(t:TypeId)(a:Nat)(b:List (Nat×Operand))(c:St):Tree St :=
 match d,Qp cx t,BZ c 0 b with
 | some d,ab _,ab v=>bif Nat.beq a b.length&&Nat.blt 0 a&&Nat.ble a 64 then
  c.bF (nb+d) v 0 false λe c=>.ret (c.put d<|.win (nb+d) e [.gD 0 0] .bool a 0 a) else .fail
 | _,_,_=>.fail
def FD(d:Option Nat)(a:TypeId)(x:cA)(c:St):Tree St :=
 match d,x with
 | some _,.undef=>.fail
 | some _,.BN _=>.fail
 | some d,v=>match find cx.sO a with
   | some e=>(rJ (nb+d) e 0 v c).bind λr=>r.2.bF (nb+d) r.1 a false λb c=>.ret (c.put d<|.ptr (nb+d) b [])
   | none=>c.bF (nb+d) v 0 false λb c=>.ret (c.put d<|.ptr (nb+d) b [])
 | none,_=>.fail
def wJ(d:Nat)(t:Ty)(a:St):Tree St :=
 match Ur bf (ab d),t with
 | some _,.slice e=>bif Nat.blt 0 e.size then a.bF ((nb+d)*1000+999) (.data (.slice e) []) 0 true λv a =>
  a.bF (nb+d) (.whole ((nb+d)*1000+999) v) 0 false λb a=>.ret (a.put d<|.ptr (nb+d) b []) else .fail
 | _,t=>a.bF (nb+d) (.data t t.zero) 0 false λb a=>.ret (a.put d<|.ptr (nb+d) b [])
def rK(o:Oper)(g:St):Tree St :=
 match o.op with
 | .move x|.assign x=>kp cx nb bf o.dst o.type (dv g x) g
 | .pick c a b=>pU o.dst (dv g c) (dv g a) (dv g b) g
 | .alloc elem=>match o.dst,find cx.T elem with
   | some d,ab t=>wJ nb bf d t g
   | some d,ah=>match find cx.sO elem with
     | some m=>(mkObj (nb+d) (KQ g<|nb+d) m 0 g).bind λr=>r.2.bF (nb+d) r.1 elem false λh g=>.ret (g.put d<|.ptr (nb+d) h [])
     | none=>bif dz cx.rC elem then g.bF (nb+d) .undef 0 false λh g=>.ret (g.put d<|.ptr (nb+d) h []) else .fail
   | _,_=>.fail
 | .box elem x=>FD cx nb o.dst elem (dv g x) g
 | .build t parts=>match find cx.T t with
   | some (.pair a b)=>match hJ g (.pair a b) (Ty.pair a b).zero parts.toList with
     | some (x,g)=>.ret (g.bD o.dst<|.data (.pair a b) x)
     | none=>.fail
   | some (.arr n e)=>match fU g e (List.replicate n e.zero) parts.toList with
     | some (l,g)=>.ret (g.bD o.dst<|.data (.arr n e) l)
     | none=>.fail
   | none=>match find cx.sO t with
     | some m=>match tR m with
       | some z=>match rI g m z parts.toList with
         | some (.mix p q)=>.ret (g.bD o.dst<|.mix p q)
         | some (.data .unit _)=>.ret (g.bD o.dst<|.data .unit ())
         | _=>.fail
       | none=>.fail
     | none=>.fail
   | _=>.fail
 | .buildSlice t len parts=>match find cx.T t with
   | some (.slice e)=>match Ur bf o.dst,len,parts.toList with
     | some d,0,[]=>g.bF (nb+d) (.data (.slice e) []) 0 true λh g=>.ret (g.put d<|.whole (nb+d) h)
     | _,_,_=>bif Nat.ble (len*e.size) 65536 then(match fU g e (List.replicate len e.zero) parts.toList with
     | some (l,g)=>(match ownRow bf o.dst with
       | some d=>g.bF (nb+d) (.data (.slice e) l) 0 true λh g=>.ret (g.put d<|.whole (nb+d) h)
       | none=>.ret (g.bD o.dst<|.data (.slice e) l))
     | none=>.fail) else .fail
   | none=>C3 cx nb o.dst t len parts.toList g
   | _=>.fail
 | .load t a=>mF cx o.dst t (dv g a) g
 | .store t a x=>match o.dst with|none=>mZ cx bf t (dv g a) (dv g x) g|some _=>.fail
 | .nilCheck x=>match dv g x with
   | .ptr b h p=>bif live g b h then .ret (g.bD o.dst<|.ptr b h p) else .fail
   | .cell t x=>.ret (g.bD o.dst<|.cell t x)
   | .fn f c=>.ret (g.bD o.dst<|.fn f c)
   | _=>.fail
 | .binOp op A x y _=>(ad4 g (find cx.T A) (dz cx.zm A) op (dv g x)<|dv g y).bind λv=>.ret (g.bD o.dst v)
 | .unOp op _ x=>(un op<|dv g x).bind λv=>.ret (g.bD o.dst v)
 | .convert src dst x=>iJ cx nb o.dst src dst (dv g x) g
 | .makeFunc (.func f) first j=>match first.toList,Hw (j.toList.map<|dv g) with
   | [],ab cs=>.ret (g.bD o.dst<|.fn f cs)
   | _,_=>.fail
 | .slice t x lo hi ah=>na cx o.dst t (dv g x) lo hi g
 | .fieldAddr s x k=>fD cx o.dst s (dv g x) k g
 | .field A x k=>match dv g x with
   | .data u y=>bif Hu (find cx.T A) u then(match vE (.data u y) k with
     | some (_,v)=>.ret (g.bD o.dst v)
     | none=>.fail) else .fail
   | _=>.fail
 | .indexAddr t x i=>match dv g i with
   | .data (.int _) i=>bif dz bf 5000000 then nc cx o.dst t (dv g x) i g else fc cx o.dst t (dv g x) i g
   | _=>.fail
 | .index t x i=>match dv g i with
   | .data (.int _) i=>nd cx o.dst t (dv g x) i g
   | _=>.fail
 | .makeSlice t l c=>match o.dst,find cx.T t,dv g l,dv g c with
   | some d,ab (.slice e),.data (.int _) l,.data (.int _) c =>
     .jL (inside 0 l c) (.jL (fits c)
      (g.bF (nb+d) (.data (.slice e)<|kn l e.zero) 0 true λh g=>.ret (g.put d<|.whole (nb+d) h)))
   | _,_,_,_=>.fail
 | .extract t k=>match dv g t with
   | .BN vs=>match nth vs k with
     | some v=>.ret (g.bD o.dst v)
     | none=>.fail
   | _=>.fail
 | .call c=>wR cx nb bf inl o.dst o.type c g
 | .makeInterface u x=>tg cx o.dst o.type u (dv g x) g
 | _=>.fail
def Ae(g:Option (Nat×Bool))(j:Nat)(a:Bool):Bool :=
 match g with|some (i,b)=>Nat.beq i j&&(b==a)|none=>false
def under(j:Nat)(a:Bool):(inner:List Nat)->List (Nat×Oper)->List (Nat×Oper)×List (Nat×Oper)
 | _,[]=>([],[])
 | inner,(i,o)::r =>
   bif Ae o.guard j a then let x:=under j a (i::inner) r;((i,{ o with guard:=ah })::x.1,x.2)
   else bif (match o.guard with|some (k,_)=>inner.any (Nat.beq k)|none=>false) then let x:=under j a (i::inner) r;((i,o)::x.1,x.2)
   else([],(i,o)::r)
def KR(a:Ctx):List (Nat×Oper)->Bool
 | []=>false
 | (_,o)::r=>(match o.op with
   | .call c=>match c.callee with
     | .value (.func f)=>match find a.con f with|some _=>false|none=>true
     | .value _=>true
     | .builtin .append=>true
     | _=>false
   | .store ..=>true
   | _=>false)||KR a r
def St.jz(a:St):St:={ a with mem:=λi=>match a.mem i with|some b=>ab { b with lk:=true }|none=>ah }
def St.undef(a:St):List (Nat×Oper)->St
 | []=>a
 | (_,o)::r=>(a.undef r).bD o.dst .undef
def oM(d:Nat):List (Nat×Oper)->Bool
 | []=>false
 | (_,o)::r=>(match o.dst with|some k=>Nat.beq k d|none=>false)||oM d r
def Af(e:St)(f:Oper)(g:Nat)(d:Bool):Option cA :=
 match f.op with
 | .pick (.tmp c) a b=>bif Nat.beq c g then ab (dv e<|bif d then a else b) else ah
 | _=>ah
def rL(a:Array Oper):Nat->List (Nat×Oper)->St->Tree St
 | 0,_,_=>.fail
 | n+1,[],σ=>.ret σ
 | n+1,(i,o)::r,σ =>
   match o.guard with
   | none=>(rK cx nb bf inl o σ).bind λσ=>rL a n r σ
   | some (j,want) =>
     let g:=under j want [] ((i,o)::r)
     match(a[j]?).bind (·.dst) with
     | none=>.fail
     | some d=>match σ.br d,g.2 with
       | .data .bool c,(_,b)::rest=>bif oM d g.1 then .fail else match b.guard with
         | some _=>.fail
         | none =>
           let e:=bif want then c else nt c
           bif KR cx g.1 then
            (Tree.node e ((rL a n g.1 σ).bind λσ=>match Af σ b d want with
              | some v=>.ret (σ.bD b.dst v)
              | none=>.fail)
             (match Af (σ.undef g.1) b d (!want) with
              | some v=>.ret ((σ.undef g.1).bD b.dst v)
              | none=>.fail)).bind λσ=>rL a n rest σ
           else match find cx.T b.type,b.dst with
            | some t,ab f=>(Tree.node e ((rL a n g.1 σ.jz).bind λτ=>match(Af τ b d want).bind (toD t) with
              | some x=>.ret x
              | none=>.fail)
             (match(Af (σ.undef g.1) b d<|!want).bind (toD t) with
              | some x=>.ret x
              | none=>.fail)).join λx=>rL a n rest ((σ.undef g.1).put f<|.data t x)
            | _,_=>.fail
       | _,_=>.fail
def number:Nat->List Oper->List (Nat×Oper)
 | _,[]=>[]
 | k,o::r=>(k,o)::number (k+1) r
def LO(a:Array Oper)(b:St):Tree St:=rL cx nb bf inl a (2*a.size+1) (number 0 a.toList) b
def iK:Op->List Operand
 | .move x|.assign x|.box _ x|.load _ x|.nilCheck x|.unOp _ _ x|.convert _ _ x|.fieldAddr _ x _|.field _ x _|.extract x _=>[x]
 | .pick c a b=>[c,a,b]
 | .build _ ps|.buildSlice _ _ ps=>ps.toList.map (·.2)
 | .store _ a x=>[a,x]
 | .binOp _ _ x y _=>[x,y]
 | .makeFunc _ f c=>f.toList++c.toList
 | .slice _ x lo hi _=>x::(lo.toList++hi.toList)
 | .indexAddr _ x i|.index _ x i=>[x,i]
 | .makeSlice _ l c=>[l,c]
 | .call c=>(match c.callee with|.value f=>[f]|.invoke r _=>[r]|_=>[])++c.args.toList
 | .makeInterface _ x=>[x]
 | _=>[]
def tmpsOf:List Operand->List Nat
 | []=>[]
 | .tmp t::r=>t::tmpsOf r
 | _::r=>tmpsOf r
def rM(o:Oper)(a:St):Option Nat:=match o.op with
 | .call c=>match c.callee with
   | .value x=>match dv a x with
     | .fn f _=>ab f
     | _=>ah
   | _=>ah
 | _=>ah
def akq:Option Nat->Option Nat->Bool
 | some a,ab b=>Nat.beq a b
 | none,ah=>true
 | _,_=>false
def cls(g:Option Nat)(o:Oper):Nat:=match o.op with
 | .assign _|.move _|.makeSlice ..|.convert ..=>1
 | .box e _=>match find cx.sO e with
   | some _=>3
   | none=>1
 | .alloc e=>match find cx.T e with
   | some (.slice _)=>3
   | some _=>1
   | none=>match find cx.sO e with
     | some _=>3
     | none=>1
 | .build ..|.buildSlice ..|.store ..=>2
 | .call c=>match c.callee with
   | .builtin .len|.builtin .min|.builtin .max=>0
   | .builtin .append=>2
   | .builtin _=>3
   | .value _=>match g with
     | some f=>match find cx.T4 f with
       | some (.clone _)=>2
       | some (.own _ _ _ _)=>2
       | _=>match find cx.con f with
         | some c=>bif c.R.flat then 0 else 2
         | none=>3
     | none=>3
   | .invoke ..=>2
 | .makeInterface ..=>2
 | _=>0
structure Fp where
 rd:List Nat
 wr:List Nat
 KT:Bool
 fn:Option Nat
def zp(d:St):cA->List Nat
 | .ptr b _ _=>[b]
 | .whole b _=>[b]
 | .part b _ _ _=>[b]
 | .win b _ _ _ _ _ _=>[b]
 | .fn _ c=>c.map (·.1)
 | .mix a b=>zp d a++zp d b
 | _=>[]
def refsOf(a:St):List Operand->List Nat
 | []=>[]
 | x::r=>zp a (dv a x)++refsOf a r
def akr(o:Oper)(a:St):List Nat:=match o.op with
 | .move _|.assign _=>[]
 | _=>refsOf a (iK o.op)
def own(o:Oper):List Nat:=match o.dst with|some d=>[nb+d]|none=>[]
def B0(o:Oper)(a:St):Fp :=
 let rd:=own nb o++akr o a
 let g:=rM o a
 match cls cx g o with
 | 0=>⟨rd,[],false,g⟩
 | 1=>⟨rd,own nb o,false,g⟩
 | 2=>⟨rd,rd,false,g⟩
 | _=>⟨[],[],true,g⟩
def St.only(a:St)(ts c:List Nat):St:={ br:=λt=>bif dz ts t then a.br t else .undef,mem:=λb=>bif dz c b then a.mem b else ah }
def lay(a:St)(d:Option Nat)(e:List Nat)(c:St):St :=
 { br:=match d with|some d=>λt=>bif Nat.beq t d then c.br d else a.br t|none=>a.br
   mem:=λb=>bif dz e b then c.mem b else a.mem b }
def B1(_:Nat)(_:List cA)(_:St):Tree (cA×St):=.fail
def aea(b:Fp)(o:Oper)(a:St):Tree St:=bif akq (rM o a) b.fn then rK cx nb bf B1 o a else .fail
def jA(a:Fp)(o:Oper)(b:St):Tree St :=
 bif a.KT then rK cx nb bf inl o b
 else(aea cx nb bf a o<|b.only (tmpsOf<|iK o.op) a.rd).bind λτ=>.ret (lay b o.dst a.wr τ)
abbrev Ut:=Nat×Oper×Fp×Nat
def maskAt:List Ut->Nat->Nat
 | [],_=>0
 | (i,_,_,m)::r,k=>bif Nat.beq i k then m else maskAt r k
def wK(a:List Ut):List Edge->Nat
 | []=>0
 | e::r=>bif Region.binds .any e then(wK a r ||| 2 ^ e.on) ||| maskAt a e.on else wK a r
def mask(a:List Ut)(o:Oper):Nat:=wK a o.after.toList
def aa7(a b:List Nat):Bool:=a.all λx=>!dz b x
def apart(x y:Oper)(f g:Fp):Bool :=
 !f.KT&&!g.KT&&aa7 f.wr g.rd&&aa7 g.wr f.rd &&
 (match x.dst with|some d=>!dz (tmpsOf<|iK y.op) d&&(match y.dst with|some e=>!Nat.beq d e|none=>true)|none=>true) &&
 (match y.dst with|some e=>!dz (tmpsOf<|iK x.op) e|none=>true)
def loose(o:Oper)(f:Fp)(m:Nat):List Ut->Bool
 | []=>true
 | (k,ok,a,_)::r=>(Nat.testBit m k||apart ok o a f)&&loose o f m r
def LP:List (Nat×Oper)->List Ut->St->Tree St
 | [],_,σ=>.ret σ
 | (i,o)::r,done,σ=>match o.guard with
   | some _=>.fail
   | none =>
     let f:=B0 cx nb o σ
     let m:=mask done o
     bif loose o f m done&&(o.after.all λe=>!Region.binds .any e||Nat.blt e.on i) then
      (jA cx nb bf inl f o σ).bind λσ=>LP r ((i,o,f,m)::done) σ
     else .fail
def Qq(a:Array Oper)(o:Oper):List Nat:=match o.guard with
 | some (g,_)=>match(a[g]?).bind (·.dst) with|some d=>[d]|none=>[]
 | none=>[]
def EE(a:Array Oper)(o:Oper):List Nat:=Qq a o++tmpsOf (iK o.op)
def zq(o:Oper)(k:Nat):Bool:=match o.guard with|some (g,_)=>!Nat.beq g k|none=>true
def B2(a:Array Oper)(i j:Nat)(x y:Oper)(f g:Fp):Bool :=
 !f.KT&&!g.KT&&aa7 f.wr g.rd&&aa7 g.wr f.rd&&zq x j&&zq y i &&
 (match x.dst with|some d=>!dz (EE a y) d&&(match y.dst with|some e=>!Nat.beq d e|none=>true)|none=>true) &&
 (match y.dst with|some e=>!dz (EE a x) e|none=>true)
def EF(a:Array Oper)(i:Nat)(o:Oper)(f:Fp)(m:Nat):List Ut->Bool
 | []=>true
 | (k,ok,b,_)::r=>(Nat.testBit m k||B2 a k i ok o b f)&&EF a i o f m r
def kJ(i:Nat)(a:Nat->Bool):Nat->Bool:=λk=>Nat.beq k i||a k
def xV(a:Array Oper):List (Nat×Oper)->List Ut->St->(Nat->Bool)->Tree St
 | [],_,σ,_=>.ret σ
 | (i,o)::r,done,σ,b =>
   let f:=B0 cx nb o σ
   let m:=mask done o
   bif EF a i o f m done&&(o.after.all λe=>!Region.binds .any e||Nat.blt e.on i) then
    match o.guard with
    | none=>(jA cx nb bf inl f o σ).bind λσ=>xV a r ((i,o,f,m)::done) σ b
    | some (g,want)=>match(a[g]?).bind (·.dst) with
      | none=>.fail
      | some dg=>bif b g then xV a r ((i,o,f,m)::done) (σ.bD o.dst .undef) (kJ i b)
        else match σ.br dg with
         | .data .bool c=>.node c
          (bif want then(jA cx nb bf inl f o<|σ.put dg<|.data .bool true).bind λσ=>xV a r ((i,o,f,m)::done) σ b
           else xV a r ((i,o,f,m)::done) ((σ.put dg<|.data .bool true).bD o.dst .undef) (kJ i b))
          (bif want then xV a r ((i,o,f,m)::done) ((σ.put dg<|.data .bool false).bD o.dst .undef) (kJ i b)
           else(jA cx nb bf inl f o<|σ.put dg<|.data .bool false).bind λσ=>xV a r ((i,o,f,m)::done) σ b)
         | _=>.fail
   else .fail
def oN:List Oper->Bool
 | []=>true
 | o::r=>(match o.dst with|some d=>!dz (Hy r) d|none=>true)&&oN r
where Hy:List Oper->List Nat
 | []=>[]
 | o::r=>match o.dst with|some d=>d::Hy r|none=>Hy r
def zr(a:Array Oper)(b:St):Tree St :=
 bif a.any λo=>o.guard.isSome then(bif oN a.toList then xV cx nb bf inl a (number 0 a.toList) [] b (λ_=>false) else .fail)
 else LP cx nb bf inl (number 0 a.toList) [] b
end
def rounds{S R:Type}(f:S->Option (S⊕R)):Nat->S->Option R
 | 0,_=>ah
 | n+1,s=>(f s).bind λx=>match x with|.inl s=>rounds f n s|.inr r=>ab r
def I3{S R}{f:S->Option (S⊕R)}:∀{n s r},rounds f n s=ab r->∀m,n<=m->rounds f m s=ab r:=by
 intro n;induction n with
 | zero=>intro s r h;cases h
 | succ n b =>
   intro s r h m c;obtain⟨k,rfl⟩:∃k,m=k+1:=⟨m-1,ai⟩;simp only[rounds] at h⊢;cases a:f s with
   | none=>rw[a] at h;cases h
   | some x =>
     grind
open Classical in
def Uu{S R:Type}(f:S->Option (S⊕R))(s:S):Option R :=
 if h:∃n r,rounds f n s=ab r then ab (Classical.choose<|T5 h) else ah
def Be{S R}{f:S->Option (S⊕R)}{n s r}(h:rounds f n s=ab r):Uu f s=ab r:=by
 have c:∃n r,rounds f n s=ab r:=⟨n,r,h⟩;unfold Uu;have a:=I3 h (max n<|Classical.choose c) ai;have b:=I3 (T5<|T5 c) (max n<|Classical.choose c) ai
 grind
class Lp where
 loop:{S R:Type}->(S->Option (S⊕R))->S->Option R
 ok:∀{S R:Type} (f:S->Option (S⊕R)) (s:S),loop f s=Uu f s
def Lp.one(i j:Lp):i=j:=by
 obtain⟨l,h⟩:=i;obtain⟨m,k⟩:=j;have:@l=@m:=by funext S R f s;rw[h,k]
 grind
@[reducible] noncomputable def Lp.l7:Lp where
 loop:=λf s=>match rounds f 100000 s with|some r=>ab r|none=>Uu f s
 ok:=λf s=>by
  generalize 100000=k;cases a:rounds f k s with
  | some r=>exact(Be a).symm
  | none=>rfl
section
variable [Lp]
def Loop{S R:Type}(f:S->Option (S⊕R))(s:S):Option R:=Lp.loop f s
def rN{S R}{f:S->Option (S⊕R)}{n s r}(h:rounds f n s=ab r):Loop f s=ab r:=(Lp.ok f s).trans (Be h)
def rO{S R}{f:S->Option (S⊕R)}{s r}(h:Loop f s=ab r):∃n,rounds f n s=ab r:=by
 replace h:=(Lp.ok f s).symm.trans h;unfold Uu at h;split at h
 .grind
 .cases h
def aT{S R}(f:S->Option (S⊕R)) s:Loop f s=(f s).bind λx=>match x with|.inl s=>Loop f s|.inr r=>ab r:=by
 cases c:f s with
 | none =>
   cases b:Loop f s with
   | none=>rfl
   | some r =>
     obtain⟨n,a⟩:=rO b;cases n with
     | zero=>cases a
     | succ n=>simp[rounds,c] at a
 | some x =>
   cases x with
   | inr r=>exact rN (n:=1) (by simp[rounds,c])
   | inl e =>
     show Loop f s=Loop f e
     cases b:Loop f e with
     | some r =>
       obtain⟨n,a⟩:=rO b;exact rN (n:=n+1) (by simp[rounds,c,a])
     | none =>
       cases d:Loop f s with
       | none=>rfl
       | some r =>
         obtain⟨n,a⟩:=rO d;cases n with
         | zero=>cases a
         | succ n =>
           simp[rounds,c] at a;rw[rN a] at b;cases b
end
inductive Sh where
 | d (t:Ty)
 | k (v:cA)
 | m (a b:Sh)
def Sh.ty:Sh->Ty
 | .d t=>t
 | .k _=>.unit
 | .m a b=>.pair a.ty b.ty
def KU:List Sel->List Sel->Bool
 | [],[]=>true
 | .gD k o::p,.gD a b::q=>Nat.beq k a&&Nat.beq o b&&KU p q
 | _,_=>false
def KV:List (Nat×Nat)->List (Nat×Nat)->Bool
 | [],[]=>true
 | (a,b)::r,(c,d)::s=>Nat.beq a c&&Nat.beq b d&&KV r s
 | _,_=>false
def Xj:∀{p q},KU p q=true->p=q:=by
 intro p;induction p with
 | nil=>intro q h;cases q<;>first|rfl|cases h
 | cons s p a =>
   intro q h;cases s with
   | idx i n=>cases q<;>cases h
   | gD k o =>
     cases q with
     | nil=>cases h
     | cons b q =>
       cases b with
       | idx i n=>cases h
       | gD c d =>
         simp only[KU,gw] at h;rw[ja h.1.1,ja h.1.2,a h.2]
def Xk:∀{p q},KV p q=true->p=q:=by
 intro p;induction p with
 | nil=>intro q h;cases q<;>first|rfl|cases h
 | cons s p c =>
   intro q h;obtain⟨a,b⟩:=s;cases q with
   | nil=>cases h
   | cons d q =>
     simp only[KV,gw] at h;rw[ja h.1.1,ja h.1.2,c h.2]
def FE(V:Nat->Bool->Bool)(d g:St):cA->cA->Bool
 | .ptr b v p,.ptr e a h=>Nat.beq b e&&KU p h&&(bif V b false then(match d.mem b,g.mem b with|some x,ab y=>Nat.beq x.aV v&&Nat.beq y.aV a|_,_=>false) else Nat.beq v a)
 | .whole b v,.whole e a=>Nat.beq b e&&(match d.mem b,g.mem b with|some x,ab y=>Nat.beq x.aV v&&Nat.beq y.aV a&&y.buf|_,_=>false)
 | .fn f c,.fn i j=>Nat.beq f i&&KV c j
 | .uJ,.uJ=>true
 | .uK,.uK=>true
 | .xT b v,.xT e a=>Nat.beq b e&&Nat.beq v a
 | _,_=>false
def agX:cA->Sh
 | .data t _=>.d t
 | .mix a b=>.m (agX a) (agX b)
 | v=>.k v
def Sh.out(V:Nat->Bool->Bool)(c e:St):(s:Sh)->cA->Option s.ty.den
 | .d t,v=>toD t v
 | .k u,v=>bif FE V c e u v then ab () else ah
 | .m a b,.mix v w=>match Sh.out V c e a v,Sh.out V c e b w with
   | some x,ab y=>ab (x,y)
   | _,_=>ah
 | .m _ _,_=>ah
def bump(M:Nat->Bool)(V:Nat->Bool->Bool):cA->cA
 | .whole b v=>bif M b&&V b true then .whole b (v+1) else .whole b v
 | .ptr b v p=>bif M b&&V b false then .ptr b (v+1) p else .ptr b v p
 | v=>v
def Sh.pV(M:Nat->Bool)(V:Nat->Bool->Bool):(s:Sh)->s.ty.den->cA
 | .d t,x=>.data t x
 | .k v,_=>bump M V v
 | .m a b,x=>.mix (a.pV M V x.1) (b.pV M V x.2)
structure LQ where
 S:List (Nat×Nat)
 M:List Nat
 fz:Bool
structure FF where
 marks:List (Option LQ)
 ai6:List Nat
structure Carry where
 S:List (Nat×Sh)
 M:List (Nat×Sh×Box)
 V:Nat->Bool->Bool
def tyS:List (Nat×Sh)->Ty
 | []=>.unit
 | (_,s)::r=>.pair s.ty (tyS r)
def tyM:List (Nat×Sh×Box)->Ty
 | []=>.unit
 | (_,s,_)::r=>.pair s.ty (tyM r)
def Carry.ty(c:Carry):Ty:=.pair (tyS c.S) (tyM c.M)
def agY(V:Nat->Bool->Bool)(a b:St):(l:List (Nat×Sh))->Option (tyS l).den
 | []=>ab ()
 | (i,s)::r=>match Sh.out V a b s (b.br i),agY V a b r with
   | some x,ab y=>ab (x,y)
   | _,_=>ah
def I4(c d:Bool)(a b:Box):Bool:=(c||(a.ro==b.ro))&&Nat.beq a.tid b.tid&&(a.buf==b.buf)&&(d||Nat.beq a.aV b.aV)
def agZ(V:Nat->Bool->Bool)(d:Bool)(a c:St):(l:List (Nat×Sh×Box))->Option (tyM l).den
 | []=>ab ()
 | (i,s,b)::r=>match c.mem i with
   | some e=>bif I4 d (V i b.buf) e b then(match Sh.out V a c s e.val,agZ V d a c r with
     | some x,ab y=>ab (x,y)
     | _,_=>ah) else ah
   | none=>ah
def Carry.out(c:Carry)(fz:Bool)(a b:St):Option c.ty.den :=
 match agY c.V a b c.S,agZ c.V fz a b c.M with
 | some x,ab y=>ab (x,y)
 | _,_=>ah
def RM(M:Nat->Bool)(V:Nat->Bool->Bool):(l:List (Nat×Sh))->(tyS l).den->Nat->Option cA
 | [],_,_=>ah
 | (i,s)::r,x,t=>bif Nat.beq t i then ab (s.pV M V x.1) else RM M V r x.2 t
def LR(fz:Bool)(M:Nat->Bool)(V:Nat->Bool->Bool):(l:List (Nat×Sh×Box))->(tyM l).den->Nat->Option Box
 | [],_,_=>ah
 | (i,s,b)::r,x,t=>bif Nat.beq t i then ab { b with val:=s.pV M V x.1,ro:=b.ro||fz,aV:=bif V t b.buf then b.aV+1 else b.aV } else LR fz M V r x.2 t
def DI:List (Nat×Sh×Box)->Nat->Bool
 | [],_=>false
 | (i,_,_)::r,t=>Nat.beq t i||DI r t
def Carry.pV(c:Carry)(fz lock:Bool)(e:List Nat)(a:St)(x:c.ty.den):St :=
 { br:=λt=>match RM (DI c.M) c.V c.S x.1 t with
    | some v=>v
    | none=>bif dz e t then .undef else a.br t
   mem:=λb=>match LR fz (DI c.M) c.V c.M x.2 b with
    | some d=>ab d
    | none=>match a.mem b with
      | some d=>ab { d with lk:=d.lk||lock }
      | none=>ah }
def settle:List (Nat×Sh)->St->Option St
 | [],σ=>ab σ
 | (i,.d t)::r,σ=>match BW σ t (σ.br i) with
   | some (x,σ)=>settle r (σ.put i<|.data t x)
   | none=>ah
 | _::r,σ=>settle r σ
def Carry.LS(c:Carry)(fz:Bool)(a b:St):Option c.ty.den :=
 bif fz then(match settle c.S b with
  | some b=>c.out true a b
  | none=>ah)
 else c.out false a b
def Carry.lock(c:Carry)(a:St):St :=
 { a with mem:=λb=>match a.mem b with
  | some d=>ab (bif DI c.M b then d else { d with lk:=true })
  | none=>ah }
def rP:List Oper->List Nat
 | []=>[]
 | o::r=>match o.dst with|some d=>d::rP r|none=>rP r
def writes:Code->List Nat
 | .region _ ops _=>rP ops.toList
 | .seq a b=>writes a++writes b
 | .cond _ a b=>writes a++writes b
 | .block _ a=>writes a
 | .loop a=>writes a
 | .scope a=>writes a
 | _=>[]
def vF:Code->List Nat
 | .seq a b=>vF a++(vF b).filter λe=>!dz (vF a) e
 | .cond _ a b=>vF a++(vF b).filter λe=>!dz (vF a) e
 | .block i a=>(vF a).filter λe=>!Nat.beq e (i+2)
 | .loop a=>vF a
 | .scope a=>vF a
 | .ret=>[1]
 | .exit i=>[i+2]
 | _=>[]
def marks:Code->Nat
 | .seq a b=>marks a+marks b
 | .cond _ a b=>marks a+marks b+1
 | .block _ a=>marks a
 | .loop a=>marks a+1
 | .scope a=>marks a
 | _=>0
def J0:List Nat->Nat->Option Nat
 | [],_=>ah
 | e::r,k=>bif Nat.beq e k then ab 0 else(J0 r k).map (·+1)
def Xl:List Nat->List Nat->List Nat
 | [],l=>l
 | b::r,l=>bif dz l b then Xl r l else Xl r (l++[b])
section
variable (cx:Ctx)
def mkS(a:St):List (Nat×Nat)->Option (List<|Nat×Sh)
 | []=>ab []
 | (i,ty)::r=>match mkS a r with
   | none=>ah
   | some l=>bif Nat.beq ty 999999 then(match a.br i with
     | .whole b v=>ab ((i,.k (.whole b v))::l)
     | _=>ab l) else match a.br i with
     | .data t _=>ab ((i,.d t)::l)
     | .undef|.pT=>match find cx.T ty with
       | some t=>ab ((i,.d t)::l)
       | none=>ah
     | v=>ab ((i,.k v)::l)
def C4(a:St):List Nat->List Nat
 | []=>[]
 | b::r=>(match a.mem b with|some d=>(match d.val with|.mix u v=>zp a (.mix u v)|.whole c _=>[c]|.fn f c=>zp a (.fn f c)|_=>[])|none=>[])++C4 a r
def RN(a:St):List Nat->List Nat
 | []=>[]
 | i::r =>
   let b:=zp a (a.br i)
   let c:=C4 a b
   let r2:=C4 a c
   Xl (b++(c++(r2++C4 a r2))) (RN a r)
def mkM(c:St):List Nat->Option (List<|Nat×Sh×Box)
 | []=>ab []
 | b::r=>match c.mem b,mkM c r with
   | some a,ab l=>bif a.lk then ah else ab ((b,agX a.val,a)::l)
   | _,_=>ah
def ai7:cA->Option Nat
 | .whole b _=>ab b
 | .part b _ _ _=>ab b
 | _=>ah
def FG:List Nat->St->Option St
 | [],σ=>ab σ
 | m::r,σ=>bif Nat.ble 2000000 m then(match ai7 (σ.br<|m-2000000) with
  | some b=>match σ.mem b with
    | some a=>match a.val with
      | .data (.slice e) _=>match BW σ (.slice e) (σ.br<|m-2000000) with
        | some (x,σ)=>FG r (σ.put (m-2000000)<|.data (.slice e) x)
        | none=>ah
      | _=>ah
    | none=>ah
  | none=>FG r σ) else FG r σ
def akv(a:Nat)(c:List Nat)(d:St)(b:Nat):Bool:=dz (c.map (a+·)) b&&(match d.mem b with|some x=>!x.buf&&!KP x.val|none=>false)
def KW(d:Nat)(e:List Nat)(a:St)(p:LQ):Option Carry :=
 match mkS cx a p.S,mkM a (RN a p.M) with
 | some s,ab m=>ab ⟨s,m,λb c=>bif c then !dz p.M 3999999 else akv d e a b⟩
 | _,_=>ah
variable (nb:Nat) (bf:List Nat) (inl:Nat->List cA->St->Tree (cA×St))
def FH{a:Type}:List Nat->Nat->(Nat->Tree a)->Tree a
 | [],_,_=>.fail
 | [e],_,f=>f e
 | e::r,i,f=>.node (da i 0) (f e) (FH r (i-1) f)
variable [Lp]
def again{S:Type}(f:S->Tree (Nat×S)):Nat->S->Tree (Nat×S)
 | 0,_=>.fail
 | n+1,s=>(f s).bind λr=>bif Nat.beq r.1 0 then again f n r.2 else .ret r
def Xm(p:LQ):Option Nat:=match p.M with
 | [m]=>bif Nat.ble 6000000 m then ab (m-6000000) else ah
 | _=>ah
def Hz(f:St->Tree (Nat×St))(c:Nat):Nat->Nat->St->Tree (Nat×St)
 | 0,_,_=>.fail
 | n+1,j,σ=>match σ.br c with
   | .data (.int .i64) x=>.jL (aS x j) ((f<|σ.put c<|.data (.int .i64) (j:Int)).bind λr=>bif Nat.beq r.1 0 then Hz f c n (j+1) r.2 else .ret r)
   | _=>.fail
def kE:Code->List (Option LQ)->St->Tree (Nat×St)
 | .skip,_,σ=>.ret (0,σ)
 | .label _,_,σ=>.ret (0,σ)
 | .ret,_,σ=>.ret (1,σ)
 | .exit i,_,σ=>.ret (i+2,σ)
 | .region _ ops f,_,σ=>(bif f then zr cx nb bf inl ops σ else LO cx nb bf inl ops σ).bind λσ=>.ret (0,σ)
 | .seq a b,pl,σ=>(kE a pl σ).bind λr=>bif Nat.beq r.1 0 then kE b (pl.drop<|marks a) r.2 else .ret r
 | .block i a,pl,σ=>(kE a pl σ).bind λr=>.ret (bif Nat.beq r.1 (i+2) then 0 else r.1,r.2)
 | .scope a,pl,σ=>kE a pl σ
 | .cond c a b,pl,σ=>match dv σ c,pl with
   | .data .bool c,none::pl=>.node c (kE a pl σ) (kE b (pl.drop<|marks a) σ)
   | .data .bool c,ab p::pl=>match FG p.M σ with
    | none=>.fail
    | some σ=>match KW cx nb bf σ p with
     | none=>.fail
     | some k =>
       let t:=Tree.node c (kE a pl<|k.lock σ) (kE b (pl.drop<|marks a)<|k.lock σ)
       let wr:=writes a++writes b
       match vF a++(vF b).filter (λe=>!dz (vF a) e) with
       | []=>(t.bind λr=>bif Nat.beq r.1 0 then Tree.ad1 (k.LS p.fz σ r.2) else .fail).join λx=>.ret (0,k.pV p.fz false wr σ x)
       | es=>(t.bind λr=>match J0 (0::es) r.1,k.LS p.fz σ r.2 with
        | some i,ab x=>.ret (i,x)
        | _,_=>.fail).join λx=>FH (0::es) x.1 λe=>.ret (e,k.pV p.fz false wr σ x.2)
   | _,_=>.fail
 | .loop a,pl,σ=>match pl with
   | some p::pl=>match Xm p with
    | some c=>Hz (λσ=>kE a pl σ) c 100 0 σ
    | none=>match FG p.M σ with
    | none=>.fail
    | some σ=>match KW cx nb bf σ p with
     | none=>.fail
     | some k=>match k.out false σ σ with
       | none=>.fail
       | some d =>
         let wr:=writes a
         let es:=vF a
         let body (x:k.ty.den):Option (k.ty.den⊕(Nat×k.ty.den)):=((kE a pl<|k.pV false true wr σ x).bind λr=>bif Nat.beq r.1 0 then(match k.out false σ r.2 with
           | some y=>.ret (.inl y)
           | none=>.fail)
          else match J0 es r.1,k.LS p.fz σ r.2 with
           | some i,ab y=>.ret (.inr (i,y))
           | _,_=>.fail).run
         match es with
         | [e]=>.look (Loop (λx=>dn (body x)) d) λx=>.ret (e,k.pV p.fz false wr σ x)
         | es=>.look (Loop body d) λx=>FH es x.1 λe=>.ret (e,k.pV p.fz false wr σ x.2)
   | none::pl=>again (λσ=>kE a pl σ) 100000 σ
   | _=>.fail
 | _,_,_=>.fail
end
variable [Lp]
def pW(mem:Nat->Option Box)(a:List cA):St:={ br:=λt=>(a[t]?).getD .undef,mem }
def HA(c:Ctx)(b:St):ResultVar->Tree cA
 | .tmp t=>.ret (b.br t)
 | .cell a ty=>(mF c (ab 0) ty (b.br a) b).bind λτ=>.ret (τ.br 0)
def FI(a:Ctx)(b:St):List ResultVar->Tree cA
 | []=>.ret .nl
 | r::rs=>(HA a b r).bind λv=>(FI a b rs).bind λl=>.ret (.mix v l)
def results1(a:Ctx)(b:St):List ResultVar->Tree cA
 | [r]=>HA a b r
 | rs=>(FI a b rs).bind λl=>.ret (.BN l)
def lT(mem:Nat->Option Box):St:={ br:=λ_=>.undef,mem }
def aiM(a:Ctx):List TypeId->Option (List Ty)
 | []=>ab []
 | t::r=>match find a.T t,aiM a r with
   | some u,ab l=>ab (u::l)
   | _,_=>ah
def aeb(b:Ctx)(a:List TypeId):List Nat->Option (Bool×List Ty)
 | []=>ah
 | m::r=>bif Nat.ble 7000000 m&&Nat.ble m 7999999 then(bif Nat.beq m 7999999 then(aiM b a).map λl=>(true,l) else(find b.T<|m-7000000).map λR=>(false,[R])) else aeb b a r
def spread(a:Bool)(v:cA):Nat->cA :=
 match a,v with
 | false,v=>λt=>bif Nat.beq t 0 then v else .undef
 | true,.BN m=>λt=>match nth m t with|some u=>u|none=>.undef
 | true,_=>λ_=>.undef
def RO:cA->Nat
 | .mix _ b=>RO b+1
 | _=>0
def Uv(a:Bool)(v:cA)(n:Nat):Bool :=
 match a,v with
 | false,_=>Nat.beq n 1
 | true,.BN m=>Nat.beq (RO m) n
 | true,_=>false
def ai8(a:Nat->cA):Nat->Nat->cA
 | _,0=>.nl
 | i,n+1=>.mix (a i) (ai8 a (i+1) n)
def RP(b:Bool)(n:Nat)(a:Nat->cA):cA :=
 match b with
 | false=>a 0
 | true=>.BN (ai8 a 0 n)
def aec(a:Bool)(v:cA)(mem:Nat->Option Box):St:={ br:=spread a v,mem }
def ZZ:List Ty->Nat->List (Nat×Sh)
 | [],_=>[]
 | t::r,i=>(i,.d t)::ZZ r (i+1)
def ai9:cA->cA
 | .whole _ _=>.undef
 | v=>v
def Z0(R:Bool×List Ty)(args:List cA)(a:Nat->Option Box)(F:(Nat->Option Box)->Tree (cA×(Nat->Option Box))):Tree (cA×(Nat->Option Box)) :=
 match mkM (lT a) (RN (pW a<|args.map ai9)<|List.range args.length) with
 | none=>.fail
 | some m =>
   let k:Carry:=⟨ZZ R.2 0,m,λ_ b=>b⟩
   let wr:=List.range R.2.length
   ((F (k.lock<|lT a).mem).bind λr=>bif Uv R.1 r.1 R.2.length then Tree.ad1 (k.out false (lT a)<|aec R.1 r.1 r.2) else .fail).join λx =>
    .ret (RP R.1 R.2.length (k.pV false false wr (lT a) x).br,(k.pV false false wr (lT a) x).mem)
def LU(d:Ctx)(e:Nat)(p:FF)(inl:Nat->List cA->St->Tree (cA×St))(f:Func)(c:Code)(a:List cA)(b:Nat->Option Box):Tree (cA×(Nat->Option Box)) :=
 (kE d e p.ai6 inl c p.marks<|pW b a).bind λr =>
  bif Nat.beq r.1 0||Nat.beq r.1 1 then(results1 d r.2 f.results.toList).bind λv=>.ret (v,r.2.mem) else .fail
def FJ(a:Ctx):Nat->(nb:Nat)->(fJ:Nat->FF)->Nat->List cA->(Nat->Option Box)->Tree (cA×(Nat->Option Box))
 | 0,_,_,_,_,_=>.fail
 | n+1,nb,fJ,f,args,mem=>match find a.fns f with
   | some fn=>match fn.body with
     | some c=>match aeb a fn.resultTypes.toList (fJ f).ai6 with
       | none=>LU a nb (fJ f) (λg b σ=>(FJ a n ((nb+g+1)*1000) fJ g b σ.mem).bind λr=>.ret (r.1,{ σ with mem:=r.2 })) fn c args mem
       | some R=>Z0 R args mem (LU a nb (fJ f) (λg b σ=>(FJ a n ((nb+g+1)*1000) fJ g b σ.mem).bind λr=>.ret (r.1,{ σ with mem:=r.2 })) fn c args)
     | none=>.fail
   | none=>.fail
def LV:(A:Ty)->A.den->List cA
 | .pair t r,x=>.data t x.1::LV r x.2
 | _,_=>[]
def FK:cA->List cA
 | .mix a b=>a::FK b
 | _=>[]
def FL:(R:Ty)->cA->List cA
 | .pair _ .unit,v=>[v]
 | _,.BN v=>FK v
 | _,v=>[v]
def l8(k:Nat):Nat:=777000000+k
def I5:List Bool->(A U:Ty)->A.den->Nat->List cA
 | [],_,_,_,_=>[]
 | false::ps,A,U,x,k=>match A,x with
   | .pair t A,x=>.data t x.1::I5 ps A U x.2 k
   | _,_=>[]
 | true::ps,A,U,x,k=>match U with
   | .pair _ U=>.ptr (l8 k) 0 []::I5 ps A U x (k+1)
   | _=>[]
def ON:(U:Ty)->U.den->Nat->Nat->Option Box
 | .pair t U,u,k,b=>bif Nat.beq b (l8 k) then ab { val:=.data t u.1,tid:=0,buf:=false,ro:=false,lk:=false,aV:=0 } else ON U u.2 (k+1) b
 | _,_,_,_=>ah
def Uw(a:Nat->Option Box):(U:Ty)->Nat->Option U.den
 | .pair t U,k=>match a (l8 k) with
   | some b=>bif Nat.beq b.aV 0&&!b.buf&&!b.ro then(match toS t b.val,Uw a U (k+1) with
     | some x,ab u=>ab (x,u)
     | _,_=>ah) else ah
   | none=>ah
 | .unit,_=>ab ()
 | _,_=>ah
def aed(b:Ctx)(n:Nat)(a:Nat->FF)(f:Nat)(c:List Bool)(A U R:Ty)(x:A.den×U.den):Option (R.den×U.den) :=
 ((FJ b n 0 a f (I5 c A U x.1 0)<|ON U x.2 0).bind λr=>match l6 (lT r.2) R (FL R r.1) with
  | some (y,σ)=>(match Uw σ.mem U 0 with
    | some u=>.ret (y,u)
    | none=>.fail)
  | none=>.fail).run
def sem(b:Ctx)(n:Nat)(a:Nat->FF)(f:Nat)(A R:Ty)(x:A.den):Option R.den :=
 ((FJ b n 0 a f (LV A x) λ_=>ah).bind λr=>match jy (lT r.2) R (FL R r.1) with
  | some y=>.ret y
  | none=>.fail).run
end Go.Ge
namespace Go.Ge
structure Gh where
 I:Nat->Nat->Prop
 loc:Nat->Option (Nat×Nat)
def cY(t:Ty)(cs:List Value):Value:=bif t.isAgg then .agg cs.toArray else cs.headD undef
def bZ(w:World)(I:Nat->Nat->Prop):(t:Ty)->t.den->List Value->Prop
 | .int k,n,cs=>cs=[.int k n]/\k.min<=(show Int from n)/\(show Int from n)<=k.max
 | .bool,b,cs=>cs=[.bool b]
 | .str,s,cs=>cs=[.string ⟨List.toArray (α:=UInt8) s⟩]/\List.length (α:=UInt8) s<=maxLen
 | .slice e,l,cs=>((∃base,cs=[.slice base 0 0])/\l=([]:List e.den)) \/
  ∃d off f,cs=[.slice (ab ⟨d,off,ah⟩) (List.length (α:=e.den) l) f]/\List.length (α:=e.den) l<=f/\f<=maxLen /\
   ∀(i:Nat) (x:e.den),(show List e.den from l)[i]?=ab x->∃es:List Value,es.length=e.size /\
    (∀(j:Nat) v,es[j]?=ab v->w.cell? ⟨d,off+i*e.size+j,ah⟩=ab v/\I d (off+i*e.size+j))/\bZ w I e x es
 | .arr n e,l,cs=>List.length (α:=e.den) l=n/\cs.length=n*e.size /\
  ∀(i:Nat) (x:e.den),(show List e.den from l)[i]?=ab x->bZ w I e x ((cs.drop<|i*e.size).take e.size)
 | .pair a b,x,cs=>∃g h,cs=g++h/\bZ w I a x.1 g/\bZ w I b x.2 h
 | .unit,_,cs=>cs=[]
 | .alt u a r,x,cs=>match(show a.den⊕r.den from x) with
   | .inl y=>r.size=1/\∃c,cs=[.iface u<|cY a c]/\bZ w I a y c
   | .inr z=>bZ w I r z cs
 | .BH,_,cs=>cs=[.nilIface]
def bZ.length{w I}:∀{t x cs},bZ w I t x cs->cs.length=t.size:=by
 intro t;induction t with
 | int k=>intro x cs h;rw[h.1];rfl
 | bool=>intro x cs h;rw[h];rfl
 | str=>intro x cs h;rw[h.1];rfl
 | slice e j=>intro x cs h;rcases h with ⟨⟨_,h⟩,_⟩|⟨_,_,_,h,_⟩<;>rw[h]<;>rfl
 | arr n e j=>intro x cs h;exact h.2.1
 | pair a b d f=>intro x cs h;obtain⟨m,o,rfl,g,l⟩:=h;rw[hY,d g,f l];rfl
 | unit=>intro x cs h;rw[h];rfl
 | alt u a r d i =>
   intro x cs h;rcases x with y|z
   .obtain⟨g,c,rfl,_⟩:=h;exact g.symm
   .exact i h
 | BH=>intro x cs h;rw[show cs=_ from h];rfl
def bZ.mono{w w' I I'}(C:∀b o,I b o->I' b o)(D:∀b o,I b o->w'.cell? ⟨b,o,ah⟩=w.cell? ⟨b,o,ah⟩) :
  ∀{t x cs},bZ w I t x cs->bZ w' I' t x cs:=by
 intro t;induction t with
 | int k=>intro x cs h;exact h
 | bool=>intro x cs h;exact h
 | str=>intro x cs h;exact h
 | slice e q =>
   intro x cs h;rcases h with h|⟨blk,off,j,f,g,l,E⟩
   .exact .inl h
   .refine .inr ⟨blk,off,j,f,g,l,λi y s=>?_⟩
    grind
 | arr n e q=>intro x cs h;exact⟨h.1,h.2.1,λi y s=>q (h.2.2 i y s)⟩
 | pair a b d m=>intro x cs h;obtain⟨v,A,B,f,g⟩:=h;exact⟨v,A,B,d f,m g⟩
 | unit=>intro x cs h;exact h
 | alt u a r d p =>
   intro x cs h;rcases x with y|z
   .obtain⟨f,c,g,l⟩:=h;exact⟨f,c,g,d l⟩
   .exact p h
 | BH=>intro x cs h;exact h
def bZ.one{w I}:∀{t x cs},bZ w I t x cs->∀v∈cs,v.oneCell'=true:=by
 intro t;induction t with
 | int k=>intro x cs h v d;rw[h.1] at d;simp at d;subst d;rfl
 | bool=>intro x cs h v d;rw[h] at d;simp at d;subst d;rfl
 | str=>intro x cs h v d;rw[h.1] at d;simp at d;subst d;rfl
 | slice e j=>intro x cs h v d;rcases h with ⟨⟨_,h⟩,_⟩|⟨_,_,_,h,_⟩<;>rw[h] at d<;>simp at d<;>subst d<;>rfl
 | arr n e j =>
   intro x cs h v d;obtain⟨f,o,l⟩:=h;obtain⟨k,B,p⟩:=adD d;have m:0<e.size:=by
    grind
   have hx:∃y,(show List e.den from x)[k / e.size]?=ab y:=⟨_,ia (by rw[f];exact(by rw[ZC m];omega))⟩;obtain⟨y,q⟩:=hx;refine j (l _ y q) v ?_;have C:=Bc k m;have s:k / e.size*e.size+k % e.size=k:=by rw[Uj];exact Ug k e.size
   have:((cs.drop<|k / e.size*e.size).take e.size)[k % e.size]?=ab v:=by
    grind
   grind
 | pair a b g A =>
   intro x cs h v d;obtain⟨D,E,rfl,f,o⟩:=h
   grind
 | unit=>intro x cs h v d;rw[h] at d;cases d
 | alt u a r g i =>
   intro x cs h v d;rcases x with y|z
   .obtain⟨f,c,rfl,l⟩:=h;simp at d;subst d;rfl
   .exact i h v d
 | BH=>intro x cs h v d;rw[show cs=_ from h] at d;simp at d;subst d;rfl
def tS{w I}:∀{t x cs},bZ w I t x cs->(cY t cs).cells.toList=cs:=by
 intro t;induction t with
 | int k=>intro x cs h;rw[h.1];rfl
 | bool=>intro x cs h;rw[h];rfl
 | str=>intro x cs h;rw[h.1];rfl
 | slice e=>intro x cs h;rcases h with ⟨⟨_,h⟩,_⟩|⟨_,_,_,h,_⟩<;>rw[h]<;>rfl
 | arr n e=>intro x cs h;rfl
 | pair a b=>intro x cs h;rfl
 | unit=>intro x cs h;rfl
 | alt u a r f d =>
   intro x cs h;rcases x with y|z
   .obtain⟨g,c,rfl,i⟩:=h;unfold cY Ty.isAgg;cases r.isAgg<;>rfl
   .exact d h
 | BH=>intro x cs h;rw[show cs=_ from h];rfl
inductive Mode where
 | cells|val|many
def wS(a:Option Addr)(b:Nat):Prop:=b=0\/∃c d,a=ab ⟨c,d,ah⟩
def eF:List Sel->Nat
 | []=>0
 | .gD _ off::p=>off+eF p
 | .idx i size::p=>i.toNat*size+eF p
def B3 p q:eF (p++q)=eF p+eF q:=by
 induction p with
 | nil=>simp[eF]
 | cons s p a=>cases s<;>simp[eF]<;>omega
section
variable (γ:Gh) (mem:Nat->Option Box) (w:World)
def FM(e:Box)(b:Nat)(f:Int)(a:Option Addr)(c:Nat):Prop:=f=0->e.buf=true->(γ.loc b=ah/\a=ah/\c=0)\/∃d,γ.loc b=ab (d,c)/\a=ab ⟨d,0,ah⟩
def FN(I:Nat->Nat->Prop)(a b:Nat)(c:List Value):Prop:=∀(j:Nat) v,c[j]?=ab v->w.cell? ⟨a,b+j,ah⟩=ab v/\I a (b+j)
def n0(b a:Nat)(K:Box->Prop):Prop:=∃c,mem b=ab c/\a<=c.aV/\(c.aV=a->K c)
def cM:cA->Mode->List Value->Prop
 | .undef,.val,vs=>∃v,vs=[v]
 | .undef,.cells,vs=>∃v,vs=[v]/\v.oneCell'=true
 | .undef,.many,_=>False
 | .data t x,.cells,vs=>bZ w γ.I t x vs
 | .data t x,.val,vs=>∃cs,bZ w γ.I t x cs/\vs=[cY t cs]
 | .data _ _,.many,_=>False
 | .mix a b,.cells,vs=>∃m o,vs=m++o/\cM a .cells m/\cM b .cells o
 | .mix a b,.val,vs=>∃m o,vs=[.agg (m++o).toArray]/\cM a .cells m/\cM b .cells o
 | .mix a b,.many,vs=>∃v r,vs=v::r/\cM a .val [v]/\cM b .many r
 | .nl,.many,vs=>vs=[]
 | .nl,_,_=>False
 | .BN u,.val,vs=>∃j:Array Value,vs=[.tuple j]/\cM u .many j.toList
 | .BN _,_,_=>False
 | .uJ,.many,_=>False
 | .uJ,_,vs=>vs=[.pointer ah]
 | .uK,.many,_=>False
 | .uK,_,vs=>vs=[.nilIface]
 | .xT _ _,.many,_=>False
 | .xT b aV,_,vs=>(∃v,vs=[v]/\v.oneCell'=true)/\n0 mem b aV λ_=>∃d g,γ.loc b=ab (d,g)/\(vs=[.pointer ah]\/vs=[.pointer<|some ⟨d,0,ah⟩])
 | .pT,.many,_=>False
 | .pT,_,vs=>vs=[.slice ah 0 0]
 | .cell _ _,.many,_=>False
 | .cell t x,_,vs=>∃d off cs,vs=[.pointer<|some ⟨d,off,ah⟩]/\bZ w γ.I t x cs/\FN w γ.I d off cs
 | .ptr _ _ _,.many,_=>False
 | .ptr b aV p,_,vs=>(∃v,vs=[v]/\v.oneCell'=true)/\n0 mem b aV λ_=>∃d g,γ.loc b=ab (d,g)/\vs=[.pointer<|some ⟨d,eF p,ah⟩]
 | .whole _ _,.many,_=>False
 | .whole b aV,_,vs=>(∃v,vs=[v]/\v.oneCell'=true)/\n0 mem b aV λbx=>∃e n,bx.buf=true/\bx.row=ab (e,n) /\
  ((γ.loc b=ah/\vs=[.slice ah 0 0])\/∃d g,γ.loc b=ab (d,g)/\vs=[.slice (ab ⟨d,0,ah⟩) n g])
 | .part _ _ _ _,.many,_=>False
 | .part b aV lo n,_,vs=>(∃v,vs=[v]/\v.oneCell'=true)/\n0 mem b aV λbx=>∃e k,bx.row=ab (e,k)/\0<=lo/\0<=n/\lo+n<=k /\
  ∃h g,vs=[.slice h n.toNat g]/\n.toNat<=g/\g<=maxLen/\(wS h g/\FM γ bx b lo h g)/\(n=0\/∃d c,γ.loc b=ab (d,c)/\h=ab ⟨d,lo.toNat*e.size,ah⟩)
 | .win _ _ _ _ _ _ _,.many,_=>False
 | .win b aV q e k lo n,_,vs=>(∃v,vs=[v]/\v.oneCell'=true)/\n0 mem b aV λ_=>q≠[]/\∃d c,γ.loc b=ab (d,c)/\0<=lo/\0<=n/\lo+n<=k /\
  ∃h g,vs=[.slice h n.toNat g]/\n.toNat<=g/\(n=0\/h=ab ⟨d,eF q+lo.toNat*e.size,ah⟩)
 | .fn _ _,.many,_=>False
 | .fn f l,_,vs=>∃j:Array Value,vs=[.func (.func f) #[] j]/\j.size=l.length /\
  ∀(i:Nat) b aV,l[i]?=ab (b,aV)->n0 mem b aV λ_=>∃d g,γ.loc b=ab (d,g)/\j[i]?=ab (.pointer<|some ⟨d,0,ah⟩)
def n6(b:Array Value)(c:Nat×Nat):Prop:=∀a,a<b.size->¬(c.1<=a/\a<c.2)
def Ty.isInt:Ty->Bool
 | .int _=>true
 | _=>false
structure ThB (e:Ty) (cur:Array Value) (fr:Nat×Nat):Prop where
 th:n6 cur fr
 um:e.isInt=false->¬(fr.1<=cur.size/\cur.size<fr.2)
def fu(b:Nat)(bx:Box):Prop :=
 match bx.buf with
 | true=>∃(e:Ty) (l:List e.den),bx.val=.data (.slice e) l/\0<e.size /\
  ((γ.loc b=ah/\l=[])\/∃d c a tid f,γ.loc b=ab (d,c)/\w.heap[d]?=ab (.cells a tid f)/\ThB e a f/\(bx.tid=0\/tid=bx.tid)/\l.length<=c/\c<=maxLen /\
   a.size=c*e.size/\∀(i:Nat) (x:e.den),l[i]?=ab x->bZ w γ.I e x ((a.toList.drop<|i*e.size).take e.size))
 | false=>∃d c a tid f,γ.loc b=ab (d,c)/\w.heap[d]?=ab (.cells a tid f)/\n6 a f/\(bx.tid=0\/tid=bx.tid)/\cM γ mem w bx.val .cells a.toList
end
def Xn(a:Box):Nat->Prop:=λb=>a.ro=true/\(a.buf=true->∀e n,a.row=ab (e,n)->b<n*e.size)
abbrev B4:=Nat->(Obj->Prop)->Prop
def xW:B4:=λ_ _=>False
def HB(G:B4)(w:World):Prop:=∀b Q,G b Q->∃o,w.heap[b]?=ab o/\Q o
structure BI where
 lo:Nat
 X:Nat->Prop
 G:B4
def BI.has(B:BI)(k:Nat):Prop:=B.lo<=k\/B.X k
def oO(G:B4)(n:Nat):BI:=⟨n,λ_=>False,G⟩
def BI.new{B:BI}{n}(h:B.lo<=n):B.has n:=.inl h
def rQ{G n k}:(oO G n).has k↔n<=k:=⟨λh=>h.elim id False.elim,.inl⟩
structure wL (B:BI) (w w':World):Prop where
 os:w'.os=w.os
 tape:w'.tape=w.tape
 output:w'.output=w.output
 size:w.heap.size<=w'.heap.size
 block:∀k,¬B.has k->w'.heap[k]?=w.heap[k]?
def wL.refl B w:wL B w w:=⟨rfl,rfl,rfl,cq _,λ_ _=>rfl⟩
def wL.trans{B a b c}(h:wL B a b)(k:wL B b c):wL B a c :=
 ⟨k.os.trans h.os,k.tape.trans h.tape,k.output.trans h.output,jb h.size k.size,λi d=>(k.block i d).trans (h.block i d)⟩
def wL.of{B w w'}(h:RowKit.Below B.lo w w'):wL B w w':=⟨h.os,h.tape,h.output,h.size,λk a=>h.block k (ZL λq=>a (.inl q))⟩
def wL.below{G n w w'}(h:wL (oO G n) w w'):RowKit.Below n w w':=⟨h.os,h.tape,h.output,h.size,λk a=>h.block k λq=>by have:=rQ.1 q;omega⟩
def wL.drew{B a w}(h:wL B a w):wL B a w.drew:=⟨h.os,h.tape,h.output,h.size,h.block⟩
def wL.alloc{B a w}(h:wL B a w)(b:B.lo<=w.heap.size) o:wL B a (w.alloc o):=h.trans (.of<|(RowKit.Below.refl _ _).alloc b o)
structure bN (B:BI) (γ:Gh) (mem:Nat->Option Box) (w:World):Prop where
 base:B.lo<=w.heap.size
 boxes:∀b bx,mem b=ab bx->fu γ mem w b bx
 inj:∀b c blk k k',mem b≠ah->mem c≠ah->γ.loc b=ab (blk,k)->γ.loc c=ab (blk,k')->b=c
 fresh:∀b blk k,mem b≠ah->γ.loc b=ab (blk,k)->B.has blk/\blk<w.heap.size
 vG:∀blk off,γ.I blk off->blk<w.heap.size
 sep:∀b bx blk k off,mem b=ab bx->γ.loc b=ab (blk,k)->γ.I blk off->Xn bx off
 du:∀b Q,B.G b Q->¬B.has b/\∃o,w.heap[b]?=ab o/\Q o
structure dK (B:BI) (N:Nat) (γ:Gh) (σ:St) (a:Act) (w:World):Prop where
 br:∀t,cM γ σ.mem w (σ.br t) .val [a.tmps.getD t undef]
 size:a.tmps.size=N
 defers:a.defers=[]
 ok:bN B γ σ.mem w
structure Ext (B:BI) (γ:Gh) (mem:Nat->Option Box) (w:World) (bK:Gh) (cT:Nat->Option Box) (w':World):Prop where
 below:wL B w w'
 I:∀b o,γ.I b o->bK.I b o
 rR:∀b o,bK.I b o->γ.I b o\/B.has b
 cells:∀b o,γ.I b o->w'.cell? ⟨b,o,ah⟩=w.cell? ⟨b,o,ah⟩
 boxes:∀b bx,mem b=ab bx->∃vf,cT b=ab vf/\bx.aV<=vf.aV/\(vf.aV=bx.aV->bK.loc b=γ.loc b/\vf.buf=bx.buf/\vf.row=bx.row)
def bN.FO{B γ bK mem cT w w'}(h:bN B γ mem w)(x:Ext B γ mem w bK cT w'):∀b Q,B.G b Q->¬B.has b/\∃o,w'.heap[b]?=ab o/\Q o:=λb Q g=>by
 obtain⟨i,o,c,q⟩:=h.du b Q g;exact⟨i,o,(x.below.block b i).trans c,q⟩
def bN.RQ{B γ mem w}(h:bN B γ mem w):HB B.G w:=λb Q g=>(h.du b Q g).2
def Ext.refl B γ mem w:Ext B γ mem w γ mem w :=
 ⟨wL.refl _ _,λ_ _ h=>h,λ_ _ h=>.inl h,λ_ _ _=>rfl,λb bx h=>⟨bx,h,cq _,λ_=>⟨rfl,rfl,rfl⟩⟩⟩
def Ext.trans{B γ bK c mem cT a w w' d}(h:Ext B γ mem w bK cT w')(k:Ext B bK cT w' c a d) :
  Ext B γ mem w c a d where
 below:=h.below.trans k.below
 I:=λb o x=>k.I _ _ (h.I _ _ x)
 rR:=λb o x=>by
  rcases k.rR b o x with y|y
  .exact h.rR b o y
  .grind
 cells:=λb o x=>(k.cells _ _<|h.I _ _ x).trans (h.cells _ _ x)
 boxes:=λb bx x=>by
  obtain⟨vf,f,g,i⟩:=h.boxes b bx x;obtain⟨e,j,l,m⟩:=k.boxes b vf f
  grind
def n0.ext{B γ bK mem cT w w'}(h:Ext B γ mem w bK cT w'){b aV K c}(d:n0 mem b aV K)
  (k:∀a vf,mem b=ab a->cT b=ab vf->bK.loc b=γ.loc b->vf.buf=a.buf->vf.row=a.row->K a->c vf):n0 cT b aV c:=by
 obtain⟨a,f,g,l⟩:=d;obtain⟨vf,i,j,m⟩:=h.boxes b a f;refine⟨vf,i,jb g j,λe=>?_⟩
 grind
def FN.ext{w w' I I'}(c:∀b o,I b o->I' b o)(d:∀b o,I b o->w'.cell? ⟨b,o,ah⟩=w.cell? ⟨b,o,ah⟩){blk off cs}
  (h:FN w I blk off cs):FN w' I' blk off cs :=
 λj v e=>by obtain⟨a,b⟩:=h j v e;exact⟨by rw[d _ _ b];exact a,c _ _ b⟩
def cM.ext{B γ bK mem cT w w'}(h:Ext B γ mem w bK cT w'):∀{v m vs},cM γ mem w v m vs->cM bK cT w' v m vs:=by
 intro v;induction v with
 | undef=>intro m vs r;cases m<;>exact r
 | data t x =>
   intro m vs r;cases m with
   | cells=>exact bZ.mono h.I h.cells r
   | val=>obtain⟨E,d,g⟩:=r;exact⟨E,bZ.mono h.I h.cells d,g⟩
   | many=>exact r
 | pT=>intro m vs r;cases m<;>exact r
 | uJ=>intro m vs r;cases m<;>exact r
 | uK=>intro m vs r;cases m<;>exact r
 | xT b aV =>
   intro m vs r;cases m with
   | many=>exact r
   | cells=>exact⟨r.1,r.2.ext h λj vf _ _ c _ _ k=>by rw[c];exact k⟩
   | val=>exact⟨r.1,r.2.ext h λj vf _ _ c _ _ k=>by rw[c];exact k⟩
 | cell t x =>
   intro m vs r;cases m with
   | many=>exact r
   | cells=>obtain⟨o,s,E,d,g,y⟩:=r;exact⟨o,s,E,d,bZ.mono h.I h.cells g,y.ext h.I h.cells⟩
   | val=>obtain⟨o,s,E,d,g,y⟩:=r;exact⟨o,s,E,d,bZ.mono h.I h.cells g,y.ext h.I h.cells⟩
 | ptr b aV p =>
   intro m vs r;cases m with
   | many=>exact r
   | cells=>exact⟨r.1,r.2.ext h λj vf _ _ c _ _ k=>by rw[c];exact k⟩
   | val=>exact⟨r.1,r.2.ext h λj vf _ _ c _ _ k=>by rw[c];exact k⟩
 | whole b aV =>
   intro m vs r;cases m with
   | many=>exact r
   | cells=>exact⟨r.1,r.2.ext h λj vf _ _ c z A k=>by rw[c,z,A];exact k⟩
   | val=>exact⟨r.1,r.2.ext h λj vf _ _ c z A k=>by rw[c,z,A];exact k⟩
 | part b aV lo n =>
   intro m vs r;cases m with
   | many=>exact r
   | cells=>exact⟨r.1,r.2.ext h λj vf _ _ c z A k=>by unfold FM at k⊢;rw[c,z,A];exact k⟩
   | val=>exact⟨r.1,r.2.ext h λj vf _ _ c z A k=>by unfold FM at k⊢;rw[c,z,A];exact k⟩
 | win b aV q e k lo n =>
   intro m vs r;cases m with
   | many=>exact r
   | cells=>exact⟨r.1,r.2.ext h λj vf _ _ c _ _ k=>by rw[c];exact k⟩
   | val=>exact⟨r.1,r.2.ext h λj vf _ _ c _ _ k=>by rw[c];exact k⟩
 | fn f K =>
   intro m vs r;cases m with
   | many=>exact r
   | cells=>obtain⟨l,d,g,y⟩:=r;exact⟨l,d,g,λi b aV J=>(y i b aV J).ext h λj vf _ _ c _ _ k=>by rw[c];exact k⟩
   | val=>obtain⟨l,d,g,y⟩:=r;exact⟨l,d,g,λi b aV J=>(y i b aV J).ext h λj vf _ _ c _ _ k=>by rw[c];exact k⟩
 | mix a b C D =>
   intro m vs r;cases m with
   | cells=>obtain⟨F,G,H,d,g⟩:=r;exact⟨F,G,H,C d,D g⟩
   | val=>obtain⟨F,G,H,d,g⟩:=r;exact⟨F,G,H,C d,D g⟩
   | many=>obtain⟨F,G,H,d,g⟩:=r;exact⟨F,G,H,C d,D g⟩
 | BN u L =>
   intro m vs r;cases m with
   | val=>obtain⟨l,d,g⟩:=r;exact⟨l,d,L g⟩
   | cells=>exact r
   | many=>exact r
 | nl=>intro m vs r;cases m<;>exact r
end Go.Ge
