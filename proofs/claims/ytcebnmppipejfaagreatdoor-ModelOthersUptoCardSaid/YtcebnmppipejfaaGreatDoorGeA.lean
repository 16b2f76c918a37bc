import Derived.WalkKit
set_option linter.unusedVariables false
set_option linter.unusedSectionVars false
set_option linter.unusedSimpArgs false
set_option linter.defProp false
open Option renaming some->ab,none->ah
def ai{p:Prop}(h:p:=by omega):p:=h
def aK{p:Prop}(h:p:=by decide):p:=h
def bb{p:Prop}(h:p:=by simp):p:=h
def jA{p:Prop}(h:p:=by simp;omega):p:=h
def Bw{p:Prop}(h:p:=by dsimp only;omega):p:=h
def cl{p:Prop}(h:p:=by intro k;cases k):p:=h
def Fm{p:Prop}(h:p:=by intro x k;cases k):p:=h
abbrev ay:=List UInt8
abbrev al:=Unit
abbrev aQ:=@Option.some.inj
abbrev aR:=@if_neg
abbrev cL:=@decide_eq_false
abbrev aX:=@if_pos
abbrev ik:=@List.getElem?_eq_getElem
abbrev dD:=@decide_eq_true
abbrev iT:=@Nat.eq_of_beq_eq_true
abbrev gy:=@Bool.and_eq_true
abbrev jB:=@List.length_append
abbrev kC:=@List.length_take
abbrev eQ:=@List.mem_of_getElem?
abbrev cd:=@Prod.mk.inj
abbrev hR:=@List.getElem?_eq_some_iff
abbrev cp:=@Nat.le_refl
abbrev hS:=@Nat.mul_le_mul_right
abbrev iq:=@of_decide_eq_true
abbrev gX:=@decide_eq_decide
abbrev jP:=@List.getElem?_take
abbrev jC:=@List.length_cons
abbrev pI:=@List.mem_cons_self
abbrev iU:=@Nat.le_trans
abbrev nQ:=@List.length_nil
abbrev qJ:=@Int.toNat_natCast
abbrev y7:=@Array.getElem?_eq_some_iff
abbrev iV:=@Nat.add_mul
abbrev pP:=@List.length_drop
abbrev lW:=@List.mem_cons
abbrev va:=@List.mem_cons_of_mem
abbrev y8:=@List.drop_eq_getElem_cons
abbrev sY:=@List.getElem?_drop
abbrev El:=@List.takeWhile_append_dropWhile
abbrev uv:=@decide_eq_true_eq
abbrev uw:=@List.append_assoc
abbrev zN:=@List.length_eq_zero_iff
abbrev Dr:=@List.pairwise_iff_getElem
abbrev gf:=@Iff.rfl
abbrev BH:=@List.head_eq_of_cons_eq
abbrev ux:=@List.length_map
abbrev vL:=@List.all_eq_true
abbrev Ds:=@Option.bind_eq_some_iff
abbrev BI:=@List.take_append_drop
abbrev zO:=@List.mem_singleton
abbrev qK:=@Nat.zero_le
abbrev Em:=@Option.map_eq_some_iff
abbrev zP:=@Bool.not_eq_true'
abbrev yx:=@Nat.min_eq_left
abbrev sF:=@Int.le_refl
abbrev En:=@List.mem_append_left
abbrev y9:=@List.mem_filter
abbrev yy:=@List.drop_drop
abbrev Fo:=@List.length_singleton
abbrev vM:=@Nat.lt_or_ge
abbrev Hi:=@List.take_of_length_le
abbrev zQ:=@List.append_nil
abbrev K9:=@Classical.byContradiction
abbrev Bx:=@List.nil_append
abbrev Eo:=@Nat.lt_of_lt_of_le
abbrev zR:=@List.drop_zero
abbrev La:=@Option.isSome_iff_exists
abbrev JG:=@List.drop_of_length_le
abbrev Ep:=@List.getElem?_map
abbrev Er:=@List.take_add_one
abbrev JH:=@Nat.le_of_ble_eq_true
abbrev Hj:=@List.filter_eq_self
abbrev Es:=@List.take_length
abbrev JI:=@List.mem_of_mem_take
abbrev Lb:=@List.getElem?_eq_none
abbrev Lc:=@List.mem_append_right
abbrev Fq:=@Array.toList_inj
abbrev Fs:=@Bool.or_eq_true
abbrev BJ:=@Nat.zero_add
abbrev Ou:=@Bool.or_eq_false_iff
abbrev JJ:=@List.cons_append
abbrev Ov:=@List.dropWhile_cons
abbrev WY:=@Array.getD_eq_getD_getElem?
abbrev Ld:=@List.ext_getElem?
abbrev Lf:=@Option.some.injEq
abbrev Lg:=@List.size_toArray
abbrev Ft:=@Nat.add_assoc
abbrev Rp:=@List.getElem?_append
abbrev Lh:=@List.mem_flatMap
abbrev WZ:=@List.getElem?_append_left
abbrev zS:=@cond_true
abbrev TN:=@Classical.choose_spec
abbrev JK:=@List.drop_left
abbrev ac5:=@List.findIdx?_eq_some_iff_getElem
abbrev za:=@Eq.trans
abbrev aaP:=@List.getElem?_append_right
abbrev TO:=@List.takeWhile_cons
abbrev aaQ:=@List.mem_of_find?_eq_some
abbrev ac6:=@List.take_append_of_le_length
abbrev JL:=@Nat.succ_mul
abbrev TP:=@decide_eq_true_iff
abbrev TQ:=@List.find?_eq_none
abbrev TR:=@List.pairwise_cons
abbrev Fu:=@cond_false
abbrev Rq:=@Bool.eq_iff_iff
abbrev Rr:=@List.mem_append
abbrev W0:=@List.map_congr_left
abbrev W1:=@List.getElem?_range
abbrev Li:=@List.length_pos_iff
abbrev P1:=@List.length_replicate
abbrev P2:=@List.mem_iff_getElem?
abbrev Lj:=@List.filter_append
abbrev A1:=@Nat.mod_lt
abbrev DI:=@Nat.le_of_eq
abbrev P3:=@List.mem_of_mem_drop
abbrev Zj:=@List.drop_append_of_le_length
abbrev P4:=@List.length_reverse
abbrev IL:=@List.take_take
abbrev Lk:=@List.drop_length
abbrev TS:=@Array.getElem?_eq_none
abbrev Fv:=@Nat.add_zero
abbrev wJ:=@if_true
abbrev TT:=@Array.getElem?_modify
abbrev TU:=@List.length_filter_le
abbrev TV:=@List.dropLast_eq_take
abbrev P5:=@Nat.lt_trichotomy
abbrev Ll:=@List.mem_range
abbrev P6:=@List.any_eq_true
abbrev TW:=@Array.length_toList
abbrev Zk:=@List.getElem?_replicate
abbrev Zl:=@decide_eq_false_iff_not
abbrev Lm:=@Bool.false_or
abbrev P7:=@Option.map_some
abbrev ac7:=@List.find?_eq_some_iff_getElem
abbrev P8:=@List.find?_some
abbrev Zm:=@List.length_eq_one_iff
abbrev TX:=@List.pairwise_map
abbrev Zn:=@Nat.div_lt_iff_lt_mul
abbrev Zo:=@List.singleton_append
abbrev Zp:=@List.eq_nil_or_concat
abbrev ac8:=@List.take_length_add_append
abbrev TY:=@List.mem_reverse
abbrev ac9:=@List.getD_eq_getElem?_getD
abbrev Ln:=@Nat.mul_one
abbrev Zq:=@Array.toList_append
abbrev Zr:=@List.take_succ_cons
abbrev Zs:=@List.map_eq_flatMap
abbrev TZ:=@Nat.div_add_mod
abbrev T0:=@UInt8.toNat_inj
abbrev ada:=@List.getElem?_zip_eq_some
abbrev adb:=@List.findIdx?_eq_none_iff
abbrev Zt:=@Nat.eq_zero_or_pos
abbrev Fw:=@Prod.ext
abbrev T1:=@List.take_left
abbrev ade:=@List.getElem?_cons_succ
abbrev adf:=@Int.eq_ofNat_of_zero_le
abbrev Zu:=@List.length_range
abbrev Zv:=@List.flatMap_cons
abbrev ah5:=@List.set_eq_take_append_cons_drop
abbrev Zw:=@Nat.lt_of_not_le
abbrev Zx:=@Nat.lt_succ_self
abbrev Zy:=@Option.bind_some
abbrev adg:=@Array.getElem?_toList
abbrev adh:=@Array.mem_of_getElem?
abbrev adi:=@BitVec.eq_of_toNat_eq
abbrev adj:=@List.concat_eq_append
abbrev ah6:=@List.mk_mem_zipIdx_iff_getElem?
abbrev T2:=@Nat.mul_comm
abbrev Zz:=@List.foldl_cons
abbrev T3:=@List.mem_map
abbrev ZA:=@List.map_append
abbrev adk:=@List.pairwise_append
abbrev adl:=@List.getElem_of_mem
abbrev adm:=@List.replicate_succ
abbrev adn:=@Int.toNat_of_nonneg
abbrev ZB:=@List.drop_take
abbrev ah7:=@Array.getElem?_setIfInBounds
abbrev ZC:=@List.mapM_cons
abbrev ah8:=@List.dropLast_concat_getLast
abbrev T4:=@Sum.inl.inj
abbrev T5:=@Nat.sub_mul
abbrev T6:=@decide_true
abbrev ado:=@BitVec.toNat_ofInt
abbrev adp:=@of_decide_eq_false
abbrev ZD:=@Bool.or_assoc
abbrev ah9:=@Array.getElem?_append_left
abbrev adq:=@List.flatten_cons
abbrev adr:=@List.getElem_take
abbrev aia:=@List.getElem?_eq_none_iff
abbrev Lo:=@Ne.symm
abbrev ZE:=@Nat.add_comm
abbrev ZF:=@Nat.le_of_lt
abbrev ads:=@Array.toList_map
abbrev aib:=@Array.setIfInBounds_comm
abbrev aic:=@Bool.eq_false_or_eq_true
abbrev adt:=@List.getElem_mem
abbrev adu:=@List.length_tail
abbrev aid:=@List.getElem?_cons_zero
abbrev aie:=@List.filter_cons_of_pos
abbrev adv:=@List.length_set
abbrev adw:=@List.take_left'
abbrev adx:=@List.length_zip
abbrev ady:=@List.take_zero
abbrev adz:=@Nat.mul_le_mul
abbrev aif:=@List.getElem?_toArray
abbrev adA:=@Bool.and_false
abbrev T7:=@and_self
abbrev adB:=@Bool.or_false
abbrev adC:=@List.cons.inj
abbrev adD:=@Bool.and_true
abbrev adE:=@Nat.beq_refl
abbrev adF:=@Nat.zero_mul
abbrev adG:=@Nat.min_self
abbrev adH:=@Bool.not_not
noncomputable section
namespace Go.Ge
inductive Ty where
 | int (k:IntKind)|bool|str|slice (e:Ty)|arr (n:Nat) (e:Ty)|pair (a b:Ty)|unit
 | alt (u:Nat) (a r:Ty)|Bz
def Ty.den:Ty->Type
 | .int _=>Int
 | .bool=>Bool
 | .str=>ay
 | .slice e=>List e.den
 | .arr _ e=>List e.den
 | .pair a b=>a.den×b.den
 | .unit=>al
 | .alt _ a r=>a.den⊕r.den
 | .Bz=>al
def A2:IntKind->Nat
 | .i8=>0|.i16=>1|.i32=>2|.i64=>3|.u8=>4|.u16=>5|.u32=>6|.u64=>7
def zb{a b:IntKind}(h:Nat.beq (A2 a) (A2 b)=true):a=b:=by
 cases a<;>cases b<;>first|rfl|(exact absurd h aK)
def Ty.beq:Ty->Ty->Bool
 | .int k,.int g=>Nat.beq (A2 k) (A2 g)
 | .bool,.bool=>true
 | .str,.str=>true
 | .slice e,.slice f=>Ty.beq e f
 | .arr n e,.arr m f=>Nat.beq n m&&Ty.beq e f
 | .pair a b,.pair c d=>Ty.beq a c&&Ty.beq b d
 | .unit,.unit=>true
 | .alt u a r,.alt v b s=>Nat.beq u v&&(Ty.beq a b&&Ty.beq r s)
 | .Bz,.Bz=>true
 | _,_=>false
def Ty.eq_of_beq:∀{a b:Ty},Ty.beq a b=true->a=b:=by
 intro a;induction a with
 | int k=>intro b h;cases b<;>first|(exact congrArg _<|zb h)|(cases h)
 | bool=>intro b h;cases b<;>first|rfl|(cases h)
 | str=>intro b h;cases b<;>first|rfl|(cases h)
 | slice e f=>intro b h;cases b<;>first|(exact congrArg _<|f h)|(cases h)
 | arr n e f =>
   intro b h;cases b<;>first|(cases h;done)|skip
   simp only[Ty.beq,gy] at h;rw[iT h.1,f h.2]
 | pair a b d g =>
   intro c h;cases c<;>first|(cases h;done)|skip
   simp only[Ty.beq,gy] at h;rw[d h.1,g h.2]
 | unit=>intro b h;cases b<;>first|rfl|(cases h)
 | alt u a r d i =>
   intro c h;cases c<;>first|(cases h;done)|skip
   simp only[Ty.beq,gy] at h;rw[iT h.1,d h.2.1,i h.2.2]
 | Bz=>intro b h;cases b<;>first|rfl|(cases h)
def Ty.to(t u:Ty)(x:t.den):Option u.den :=
 if h:Ty.beq t u=true then ab ((Ty.eq_of_beq h)▸x) else ah
def Ty.beq_refl(t:Ty):Ty.beq t t=true:=by
 induction t with
 | int k=>cases k<;>rfl
 | bool=>rfl
 | str=>rfl
 | slice e d=>exact d
 | arr n e d=>simp[Ty.beq,d]
 | pair a b c f=>simp[Ty.beq,c,f]
 | unit=>rfl
 | alt u a r c g=>simp[Ty.beq,c,g]
 | Bz=>rfl
def Ty.lX{t u:Ty}{x:t.den}{y:u.den}(h:Ty.to t u x=ab y):∃e:t=u,y=e▸x:=by
 unfold Ty.to at h;split at h
 .rename_i a;exact⟨Ty.eq_of_beq a,by simpa using h.symm⟩
 .cases h
def toL(t u:Ty)(l:List t.den):Option (List u.den) :=
 if h:Ty.beq t u=true then ab ((Ty.eq_of_beq h)▸l) else ah
def my{t u:Ty}{l:List t.den}{m:List u.den}(h:toL t u l=ab m):∃e:t=u,m=e▸l:=by
 unfold toL at h;split at h
 .rename_i a;exact⟨Ty.eq_of_beq a,by simpa using h.symm⟩
 .cases h
def Ty.size:Ty->Nat
 | .int _|.bool|.str|.slice _=>1
 | .arr n e=>n*e.size
 | .pair a b=>a.size+b.size
 | .unit=>0
 | .alt _ _ r=>r.size
 | .Bz=>1
def Ty.isAgg:Ty->Bool
 | .arr ..|.pair ..|.unit=>true
 | .alt _ _ r=>r.isAgg
 | _=>false
def Ty.zero:(t:Ty)->t.den
 | .int _=>(0:Int)
 | .bool=>false
 | .str=>([]:ay)
 | .slice _=>[]
 | .arr n e=>List.replicate n e.zero
 | .pair a b=>(a.zero,b.zero)
 | .unit=>()
 | .alt _ _ r=>.inr r.zero
 | .Bz=>()
def ao{α:Type}(c:Bool)(x y:α):α:=bif c then x else y
def ag{a b:Type}(o:Option a)(f:a->Option b):Option b:=o.bind f
def nt(b:Bool):Bool:=!b
def an(a b:Bool):Bool:=a&&b
def oor(a b:Bool):Bool:=a||b
def aS(a b:Int):Bool:=decide (a=b)
def de(a b:Nat):Bool:=Nat.beq a b
def ba(a b:Int):Bool:=decide (a<b)
def cu(a b:Int):Bool:=decide (a<=b)
def bH(a b:ay):Bool:=decide (a=b)
def ft(a b:ay):Bool:=Op.bytesLess a b
def eqL(a b:List Int):Bool:=decide (a=b)
def eqB(a b:Bool):Bool:=a==b
def dq{S:Type}(o:Option (S⊕(Nat×S))):Option (S⊕S):=o.map λr=>match r with|.inl x=>.inl x|.inr y=>.inr y.2
def aH(k:IntKind)(a b:Int):Int:=k.wrap (a+b)
def da(k:IntKind)(a b:Int):Int:=k.wrap (a-b)
def jD(k:IntKind)(a b:Int):Int:=k.wrap (a*b)
def Lq(k:IntKind)(a b:Int):Int:=k.wrap (a.tdiv b)
def jQ(a b:Int):Int:=a.tmod b
def kE(k:IntKind)(a:Int):Int:=k.wrap a
def jR(k:IntKind)(x y:Int):Int:=k.wrap (BitVec.ofInt k.bits x &&& BitVec.ofInt k.bits y).toNat
def zM(k:IntKind)(x y:Int):Int:=k.wrap (BitVec.ofInt k.bits x ||| BitVec.ofInt k.bits y).toNat
def gM(k:IntKind)(x y:Int):Int:=k.wrap (BitVec.ofInt k.bits x ^^^ BitVec.ofInt k.bits y).toNat
def aj0(k:IntKind)(x y:Int):Int:=k.wrap (BitVec.ofInt k.bits x &&& ~~~BitVec.ofInt k.bits y).toNat
def aiE(a b:Int):Int:=bif decide (b<a) then b else a
def imax(a b:Int):Int:=bif decide (a<b) then b else a
def nR(k:IntKind)(a b:Int):Int:=k.wrap (a*2 ^ (min b.toNat k.bits))
def mz(k:IntKind)(a b:Int):Int:=a.fdiv (2 ^ (min b.toNat k.bits))
def plus(a b:Int):Int:=a+b
def minus(a b:Int):Int:=a-b
def len{α:Type}(l:List α):Int:=l.length
def fi{p:Prop}(h:p:=by unfold len;omega):p:=h
def app{α:Type}(l m:List α):List α:=l++m
def one{a:Type}(x:a):List a:=[x]
def idx{α:Type}(l:List α)(i:Int):Option α:=if 0<=i then l[i.toNat]? else ah
def lP{α:Type}(l:List α)(i:Int)(x:α):List α:=l.set i.toNat x
def kj{a:Type}(n:Int)(x:a):List a:=List.replicate n.toNat x
def sub{α:Type}(l:List α)(a n:Int):List α:=(l.drop a.toNat).take n.toNat
def iW{α:Type}(l:List α)(n:Int):List α:=l.take n.toNat
def over{α:Type}(l:List α)(a:Int)(c:List α):List α:=l.take a.toNat++c++l.drop (a.toNat+c.length)
def pick{d e c:Type}(f:d->c)(g:e->c)(x:d⊕e):c:=match x with|.inl a=>f a|.inr b=>g b
def u8(b:UInt8):Int:=(b.toNat:Int)
def aC(s:ay):List Int:=s.map λb=>(b.toNat:Int)
def bu(l:List Int):ay:=l.map λn=>UInt8.ofNat n.toNat
def fits(n:Int):Bool:=decide (n<=4294967296)
def inside(a b n:Int):Bool:=decide (0<=a)&&decide (a<=b)&&decide (b<=n)
def within(i n:Int):Bool:=decide (0<=i)&&decide (i<n)
inductive Tree (α:Type):Type 1 where
 | ret (a:α)
 | fail
 | node (c:Bool) (t e:Tree α)
 | look {T:Type} (o:Option T) (k:T->Tree α)
namespace Tree
def bind{α b:Type}:Tree α->(α->Tree b)->Tree b
 | .ret a,f=>f a
 | .fail,_=>.fail
 | .node c t e,f=>.node c (t.bind f) (e.bind f)
 | .look o k,f=>.look o λx=>(k x).bind f
def run{α:Type}:Tree α->Option α
 | .ret a=>ab a
 | .fail=>ah
 | .node c t e=>ao c t.run e.run
 | .look o k=>ag o λx=>(k x).run
def join{T a:Type}(t:Tree T)(k:T->Tree a):Tree a :=
 match t with
 | .ret x=>k x
 | .node c (.ret x) (.ret y)=>k (ao c x y)
 | t=>.look t.run k
def jG{α:Type}(c:Bool)(t:Tree α):Tree α:=.node c t .fail
def adI{b:Type}:Option b->Tree b
 | some a=>.ret a
 | none=>.fail
end Tree
inductive Sel where
 | gz (k off:Nat)
 | idx (i:Int) (size:Nat)
inductive cB where
 | undef
 | data (t:Ty) (x:t.den)
 | pQ
 | uy
 | uz
 | xO (b aU:Nat)
 | cell (t:Ty) (x:t.den)
 | ptr (b aU:Nat) (p:List Sel)
 | whole (b aU:Nat)
 | part (b aU:Nat) (lo n:Int)
 | win (b aU:Nat) (q:List Sel) (e:Ty) (k:Nat) (lo n:Int)
 | fn (f:Nat) (aj1:List (Nat×Nat))
 | mix (a b:cB)
 | BF (vs:cB)
 | nl
structure Box where
 val:cB
 tid:TypeId
 buf:Bool
 ro:Bool
 lk:Bool
 aU:Nat
structure St where
 br:Nat->cB
 mem:Nat->Option Box
structure BG where
 A:Ty
 R:Ty
 spec:A.den->Option R.den
structure BK where
 ps:List Bool
 A:Ty
 U:Ty
 R:Ty
 spec:A.den×U.den->Option (R.den×U.den)
inductive Dt where
 | dat (t:Ty)
 | buf (e:Ty) (eid:Nat)
 | one
 | self
inductive Spc where
 | chk (T:Nat)
 | str (T E:Nat)
 | clone (e:Ty)
 | own (e A:Ty) (res:Bool) (spec:List e.den->A.den->Option (List e.den))
structure Ctx where
 T:List (Nat×Ty)
 rv:List Nat
 zc:List Nat
 fns:List (Nat×Func)
 con:List (Nat×BG)
 adK:List (Nat×BK)
 sG:List (Nat×List Dt)
 TL:List (Nat×Spc)
 T8:List (Nat×Nat)
 inv:List (String×BG)
def T9{b:Type}:List (String×b)->String->Option b
 | [],_=>ah
 | (i,a)::r,k=>bif decide (i=k) then ab a else T9 r k
def find{α:Type}:List (Nat×α)->Nat->Option α
 | [],_=>ah
 | (i,a)::r,k=>bif Nat.beq i k then ab a else find r k
def St.put(a:St)(d:Nat)(v:cB):St:={ a with br:=λt=>bif Nat.beq t d then v else a.br t }
def St.bD(a:St)(d:Option Nat)(v:cB):St:=match d with|some d=>a.put d v|none=>a
def St.cg(a:St)(b:Nat)(x:Box):St:={ a with mem:=λi=>bif Nat.beq i b then ab x else a.mem i }
def St.bF{c:Type}(a:St)(b:Nat)(val:cB)(tid:TypeId)(buf:Bool)(k:Nat->St->Tree c):Tree c :=
 match a.mem b with
 | some bx=>bif bx.lk then .fail else k (bx.aU+1) (a.cg b { val,tid,buf,ro:=false,lk:=false,aU:=bx.aU+1 })
 | none=>k 0 (a.cg b { val,tid,buf,ro:=false,lk:=false,aU:=0 })
def dA:List Nat->Nat->Bool
 | [],_=>false
 | i::r,t=>Nat.beq t i||dA r t
def Lr:Value->cB
 | .int k n=>bif decide (k.min<=n)&&decide (n<=k.max) then .data (.int k) n else .undef
 | .bool b=>.data .bool b
 | .string s=>bif Nat.ble s.data.toList.length 4294967296 then .data .str s.data.toList else .undef
 | .pointer ah=>.uy
 | .nilIface=>.uz
 | .slice ah 0 0=>.pQ
 | _=>.undef
def dw(a:St):Operand->cB
 | .tmp t=>a.br t
 | .const v=>Lr v
 | .func f=>.fn f []
 | .global _=>.undef
def kk:Ty->Nat->Option Nat
 | .pair _ _,0=>ab 0
 | .pair a b,k+1=>(kk b k).map (a.size+·)
 | _,_=>ah
def ek:cB->Nat
 | .data t _=>t.size
 | .mix a b=>ek a+ek b
 | .nl=>0
 | _=>1
def yz:(t:Ty)->t.den->Nat->Option (Nat×cB)
 | .pair a _,x,0=>ab (0,.data a x.1)
 | .pair a b,x,k+1=>match yz b x.2 k with|some r=>ab (a.size+r.1,r.2)|none=>ah
 | _,_,_=>ah
def vx:cB->Nat->Option (Nat×cB)
 | .data t x,k=>yz t x k
 | .mix a _,0=>ab (0,a)
 | .mix a b,k+1=>match vx b k with|some r=>ab (ek a+r.1,r.2)|none=>ah
 | _,_=>ah
def toD(t:Ty):cB->Option t.den
 | .data u x=>Ty.to u t x
 | .pQ=>match t with|.slice _=>ab []|_=>ah
 | _=>ah
def toS(t:Ty):cB->Option t.den
 | .data u x=>Ty.to u t x
 | _=>ah
def Rs:(t:Ty)->t.den->Nat->(cB->Tree cB)->Tree t.den
 | .pair a b,x,0,f=>(f<|.data a x.1).bind λv=>match toS a v with
   | some y=>.ret (y,x.2)
   | none=>.fail
 | .pair a b,x,k+1,f=>(Rs b x.2 k f).bind λy=>.ret (x.1,y)
 | _,_,_,_=>.fail
def Ls:cB->Nat->(cB->Tree cB)->Tree cB
 | .data t x,k,f=>(Rs t x k f).bind λy=>.ret (.data t y)
 | .mix a b,0,f=>(f a).bind λv=>.ret (.mix v b)
 | .mix a b,k+1,f=>(Ls b k f).bind λv=>.ret (.mix a v)
 | _,_,_=>.fail
def nav:List Sel->cB->Tree cB
 | [],v=>.ret v
 | .gz k off::p,v=>match vx v k with
   | some (o,u)=>bif Nat.beq o off then nav p u else .fail
   | none=>.fail
 | .idx i size::p,v=>match v with
   | .data (.arr _ e) l=>bif Nat.beq size e.size then .look (idx (α:=e.den) l i) λx=>nav p (.data e x) else .fail
   | _=>.fail
def agA(a:Bool)(p:List Sel)(v:cB):Tree cB :=
 match a with
 | false=>nav p v
 | true=>match p,v with
   | .idx i size::p,.data (.slice e) l=>bif Nat.beq size e.size then .look (idx (α:=e.den) l i) λx=>nav p (.data e x) else .fail
   | _,_=>.fail
def zT:List Sel->cB->cB->Tree cB
 | [],_,u=>.ret u
 | .gz k off::p,v,u=>Ls v k λw=>zT p w u
 | .idx i size::p,v,u=>match v with
   | .data (.arr n e) l=>.look (idx (α:=e.den) l i) λx=>(zT p (.data e x) u).bind λw=>match toS e w with
     | some y=>.ret (.data (.arr n e)<|lP (α:=e.den) l i y)
     | none=>.fail
   | _=>.fail
def Rt(a:Bool)(p:List Sel)(v u:cB):Tree cB :=
 match a with
 | false=>zT p v u
 | true=>match p,v with
   | .idx i size::p,.data (.slice e) l=>.look (idx (α:=e.den) l i) λx=>(zT p (.data e x) u).bind λw=>match toS e w with
     | some y=>.ret (.data (.slice e)<|lP (α:=e.den) l i y)
     | none=>.fail
   | _,_=>.fail
namespace Tree
def run_bind{α g:Type}(t:Tree α)(f:α->Tree g):(t.bind f).run=t.run.bind λa=>(f a).run:=by
 induction t with
 | ret a=>rfl
 | fail=>rfl
 | node c t e b d=>cases c<;>simp[bind,run,b,d,ao]
 | look o k h=>cases o<;>simp[bind,run,h,ag]
def BL{T b:Type}(t:Tree T)(k:T->Tree b):(t.join k).run=t.run.bind λa=>(k a).run:=by
 unfold join;split
 .rfl
 .rename_i c x y;cases c<;>rfl
 .rfl
end Tree
def xP:Ty->Nat->Option Ty
 | .pair a _,0=>ab a
 | .pair _ b,k+1=>xP b k
 | _,_=>ah
def Ty.flat:Ty->Bool
 | .slice _=>false
 | .arr _ e=>e.flat
 | .pair a b=>a.flat&&b.flat
 | .alt _ a r=>a.flat&&r.flat
 | _=>true
def Box.row(bx:Box):Option (Ty×Nat) :=
 match bx.buf,bx.val with
 | true,.data (.slice e) l=>ab (e,List.length (α:=e.den) l)
 | false,.data (.arr n e) _=>ab (e,n)
 | _,_=>ah
def jH(e:Ty)(c:St):cB->Option (List e.den)
 | .data (.slice u) l=>toL u e l
 | .pQ=>ab []
 | .whole b aU=>match c.mem b with
   | some a=>bif Nat.beq a.aU aU&&a.buf then(match a.val with|.data (.slice u) l=>toL u e l|_=>ah) else ah
   | none=>ah
 | .part b aU lo n=>match c.mem b with
   | some a=>bif Nat.beq a.aU aU then(match a.buf,a.val with
     | true,.data (.slice u) l=>toL u e (sub (α:=u.den) l lo n)
     | false,.data (.arr _ u) l=>toL u e (sub (α:=u.den) l lo n)
     | _,_=>ah) else ah
   | none=>ah
 | _=>ah
def live(c:St)(b a:Nat):Bool:=match c.mem b with|some d=>Nat.beq d.aU a|none=>false
def sH(c:St):(t:Ty)->cB->Option t.den
 | .slice e,v=>(jH e c v:Option (List e.den))
 | .pair a b,v=>match v with
   | .data u x=>Ty.to u (.pair a b) x
   | .mix p q=>(match sH c a p,sH c b q with
     | some x,ab y=>ab (x,y)
     | _,_=>ah)
   | _=>ah
 | .alt n a r,v=>match v with
   | .data u x=>Ty.to u (.alt n a r) x
   | .uz=>match sH c r .uz with
     | some x=>ab (.inr x)
     | none=>ah
   | _=>ah
 | .Bz,v=>match v with
   | .data u x=>Ty.to u .Bz x
   | .uz=>ab ()
   | _=>ah
 | t,v=>match v with
   | .data u x=>Ty.to u t x
   | _=>ah
def freeze(a:St)(b:Nat):Option St :=
 match a.mem b with
 | some c=>bif c.ro then ab a else bif c.lk then ah else ab (a.cg b { c with ro:=true })
 | none=>ah
def jq(a:St):cB->Option St
 | .whole b _=>freeze a b
 | .part b _ _ _=>freeze a b
 | .mix v w=>match jq a v with
   | some a=>jq a w
   | none=>ah
 | _=>ab a
def BM(a:St)(t:Ty)(v:cB):Option (t.den×St) :=
 match v with
 | .data u x=>match Ty.to u t x with|some y=>ab (y,a)|none=>ah
 | v=>match sH a t v,jq a v with
   | some x,ab a=>ab (x,a)
   | _,_=>ah
def jr(σ:St):(A:Ty)->List cB->Option A.den
 | .unit,[]=>ab ()
 | .pair t r,v::vs=>match sH σ t v,jr σ r vs with
   | some x,ab y=>ab (x,y)
   | _,_=>ah
 | _,_=>ah
def lY(a:St):(A:Ty)->List cB->Option (A.den×St)
 | .unit,[]=>ab ((),a)
 | .pair t r,v::vs=>match BM a t v with
   | some (x,a)=>match lY a r vs with
     | some (y,a)=>ab ((x,y),a)
     | none=>ah
   | none=>ah
 | _,_=>ah
def BN:(R:Ty)->R.den->cB
 | .pair t r,x=>.mix (.data t x.1) (BN r x.2)
 | _,_=>.nl
def wK(R:Ty)(x:R.den):cB :=
 match R,x with
 | .pair t .unit,x=>.data t x.1
 | R,x=>.BF (BN R x)
def nth:cB->Nat->Option cB
 | .mix a _,0=>ab a
 | .mix _ b,k+1=>nth b k
 | _,_=>ah
def bitsOf(a:BinOp)(k:IntKind)(x y:Int):Option Int :=
 match a with
 | .and=>ab (jR k x y)
 | .or=>ab (zM k x y)
 | .xor=>ab (gM k x y)
 | .andNot=>ab (aj0 k x y)
 | _=>ah
def Ty.eqv:(t:Ty)->t.den->t.den->Option Bool
 | .int _,x,y=>ab (aS x y)
 | .bool,x,y=>ab (eqB x y)
 | .str,x,y=>ab (bH x y)
 | .pair a b,x,y=>match Ty.eqv a x.1 y.1,Ty.eqv b x.2 y.2 with
   | some p,ab q=>ab (an p q)
   | _,_=>ah
 | .unit,_,_=>ab true
 | .arr _ e,x,y=>match e,x,y with
   | .int _,x,y=>ab (eqL x y)
   | _,_,_=>ah
 | _,_,_=>ah
def Ty.JM:Ty->Nat
 | .pair a b=>a.JM+b.JM+1
 | .arr _ e=>e.JM+1
 | _=>1
def W2(d:BinOp)(k:IntKind)(a b:Int):Tree cB :=
 match d with
 | .add=>.ret (.data (.int k)<|aH k a b)
 | .sub=>.ret (.data (.int k)<|da k a b)
 | .mul=>.ret (.data (.int k)<|jD k a b)
 | .quo=>.node (aS b 0) .fail (.ret<|.data (.int k)<|Lq k a b)
 | .rem=>.node (aS b 0) .fail (.ret<|.data (.int k)<|jQ a b)
 | .eql=>.ret (.data .bool<|aS a b)
 | .neq=>.ret (.data .bool<|nt<|aS a b)
 | .lss=>.ret (.data .bool<|ba a b)
 | .leq=>.ret (.data .bool<|cu a b)
 | .gtr=>.ret (.data .bool<|ba b a)
 | .geq=>.ret (.data .bool<|cu b a)
 | d=>match bitsOf d k a b with
   | some c=>.ret (.data (.int k) c)
   | none=>.fail
def W3(a:BinOp)(x y:ay):Tree cB :=
 match a with
 | .add=>.jG (fits<|plus (len x)<|len y) (.ret<|.data .str<|app x y)
 | .eql=>.ret (.data .bool<|bH x y)
 | .neq=>.ret (.data .bool<|nt<|bH x y)
 | .lss=>.ret (.data .bool<|ft x y)
 | .leq=>.ret (.data .bool<|oor (ft x y)<|bH x y)
 | .gtr=>.ret (.data .bool<|nt<|oor (ft x y)<|bH x y)
 | .geq=>.ret (.data .bool<|nt<|ft x y)
 | _=>.fail
def isEq:BinOp->Option Bool
 | .eql=>ab true
 | .neq=>ab false
 | _=>ah
def Fx:BinOp->Option Bool
 | .shl=>ab true
 | .shr=>ab false
 | _=>ah
def Hk(o:Option Ty)(t:Ty):Bool:=match o with|some u=>Ty.beq u t|none=>false
def bin(f:Option Ty)(g:Bool)(d:BinOp)(x y:cB):Tree cB :=
 match x,y with
 | .data (.int k) a,.data (.int h) b =>
   match Fx d with
   | some left=>.node (ba b 0) .fail (.ret<|.data (.int k)<|bif left then nR k a b else mz k a b)
   | none=>bif Nat.beq (A2 k) (A2 h) then W2 d k a b else .fail
 | .data .str a,.data .str b=>W3 d a b
 | .data .bool a,.data .bool b=>bif Hk f .bool then(match isEq d with
   | some true=>.ret (.data .bool<|eqB a b)
   | some false=>.ret (.data .bool<|nt<|eqB a b)
   | none=>.fail) else .fail
 | .data (.pair a b) x,.data t y=>bif Hk f (.pair a b)&&Nat.ble (Ty.pair a b).JM 9000 then(match Ty.to t (.pair a b) y,isEq d with
   | some y,ab e=>match Ty.eqv (.pair a b) x y with
     | some c=>.ret (.data .bool<|bif e then c else nt c)
     | none=>.fail
   | _,_=>.fail) else .fail
 | .data (.arr n e) x,.data t y=>bif Hk f (.arr n e)&&Nat.ble (Ty.arr n e).JM 9000 then(match Ty.to t (.arr n e) y,isEq d with
   | some y,ab q=>match Ty.eqv (.arr n e) x y with
     | some c=>.ret (.data .bool<|bif q then c else nt c)
     | none=>.fail
   | _,_=>.fail) else .fail
 | .uy,.uy=>match g,isEq d with|true,ab e=>.ret (.data .bool e)|_,_=>.fail
 | _,_=>.fail
def adL(d:St)(f:Option Ty)(a:Bool)(c:BinOp)(x y:cB):Tree cB :=
 match x,y with
 | .ptr b aU _,.uy=>bif live d b aU&&a then(match isEq c with|some e=>.ret (.data .bool<|!e)|none=>.fail) else .fail
 | .uy,.ptr b aU _=>bif live d b aU&&a then(match isEq c with|some e=>.ret (.data .bool<|!e)|none=>.fail) else .fail
 | x,y=>bin f a c x y
def Ru(c:Bool)(x y:cB):Tree cB :=
 match x,y with
 | .data (.int k) a,.data (.int d) b=>bif Nat.beq (A2 k) (A2 d) then .ret (.data (.int k)<|bif c then aiE a b else imax a b) else .fail
 | _,_=>.fail
def un(a:UnOp)(x:cB):Tree cB :=
 match a,x with
 | .not,.data .bool b=>.ret (.data .bool<|nt b)
 | .neg,.data (.int k) n=>.ret (.data (.int k)<|da k 0 n)
 | .xor,.data (.int k) n=>.ret (.data (.int k)<|gM k (bif k.signed then -1 else k.max) n)
 | _,_=>.fail
def Lt:(t:Ty)->t.den->Nat->(u:Ty)->u.den->Option t.den
 | .pair a b,x,0,u,y=>match Ty.to u a y with|some y=>ab (y,x.2)|none=>ah
 | .pair a b,x,k+1,u,y=>match Lt b x.2 k u y with|some z=>ab (x.1,z)|none=>ah
 | _,_,_,_,_=>ah
def gY(a:St)(t:Ty)(x:t.den):List (Nat×Operand)->Option (t.den×St)
 | []=>ab (x,a)
 | (k,o)::r=>match xP t k with
   | some u=>match BM a u (dw a o) with
     | some (y,a)=>match Lt t x k u y with
       | some x=>gY a t x r
       | none=>ah
     | none=>ah
   | none=>ah
def fP(a:St)(e:Ty)(l:List e.den):List (Nat×Operand)->Option (List e.den×St)
 | []=>ab (l,a)
 | (k,o)::r=>match BM a e (dw a o) with
   | some (y,a)=>bif Nat.blt k l.length then fP a e (l.set k y) r else ah
   | none=>ah
def lenOf(c:St):cB->Option Int
 | .data .str s=>ab (len (α:=UInt8) s)
 | .data (.slice e) l=>ab (len (α:=e.den) l)
 | .data (.arr n _) _=>bif Nat.ble n 4294967296 then ab n else ah
 | .pQ=>ab 0
 | .whole b aU=>match c.mem b with
   | some a=>bif Nat.beq a.aU aU&&a.buf then(match a.val with|.data (.slice u) l=>ab (len (α:=u.den) l)|_=>ah) else ah
   | none=>ah
 | .part b aU _ n=>bif live c b aU then ab n else ah
 | _=>ah
def ZG(o:Option Ty):cB->Bool
 | .data .str _=>Hk o .str
 | .data (.slice e) _=>Hk o (.slice e)
 | .data (.arr n e) _=>Hk o (.arr n e)
 | .pQ|.whole ..|.part ..=>match o with|some (.slice _)=>true|_=>false
 | _=>false
def bounds(c:St)(n:Int)(d e:Option Operand):Option (Int×Int) :=
 match d,e with
 | none,ah=>ab (0,n)
 | some a,ah=>match dw c a with|.data (.int _) x=>ab (x,n)|_=>ah
 | none,ab b=>match dw c b with|.data (.int _) y=>ab (0,y)|_=>ah
 | some a,ab b=>match dw c a,dw c b with|.data (.int _) x,.data (.int _) y=>ab (x,y)|_,_=>ah
def isRef:cB->Bool
 | .ptr ..|.whole ..|.part ..|.fn ..|.uy|.uz|.xO ..|.mix ..|.cell ..|.pQ=>true
 | _=>false
section
variable (cx:Ctx) (nb:Nat) (bf:List Nat) (inl:Nat->List cB->St->Tree (cB×St))
def km(d:Option Nat)(c:TypeId)(v:cB)(a:St):Tree St :=
 match v with
 | .undef=>bif dA cx.rv c then .ret (a.bD d .undef) else .fail
 | .pQ=>match d,find cx.T c with
   | some d,ab (.slice e)=>bif dA bf d then a.bF (nb+d) (.data (.slice e) []) 0 true λb a=>.ret (a.put d<|.whole (nb+d) b)
     else .ret (a.put d<|.data (.slice e) [])
   | _,_=>.ret (a.bD d .pQ)
 | v=>.ret (a.bD d v)
def pR(d:Option Nat)(c a b:cB)(e:St):Tree St :=
 match c with
 | .data .bool c=>match a,b with
   | .data t x,.data u y=>match Ty.to u t y with
     | some y=>.ret (e.bD d<|.data t<|ao c x y)
     | none=>.fail
   | a,b=>.node c (.ret<|e.bD d a) (.ret<|e.bD d b)
 | _=>.fail
def adM:(t:Ty)->t.den->cB
 | .pair a b,x=>.mix (.data a x.1) (adM b x.2)
 | t,x=>.data t x
def adN:cB->cB
 | .data t x=>adM t x
 | v=>v
def adO:Ty->cB->Bool
 | .slice _,.whole ..=>true
 | t,.data u _=>Ty.beq u t
 | _,_=>false
def ZH:Ty->cB->Bool
 | .pair a b,.mix p q=>adO a p&&ZH b q
 | t,.data u _=>Ty.beq u t
 | _,_=>false
def adP(u:Ty):cB->Bool
 | .whole b aU=>adO u (.whole b aU)
 | .mix p q=>ZH u (.mix p q)
 | _=>false
def adQ:cB->Bool
 | .data (.pair _ _) _=>true
 | .mix ..=>true
 | _=>false
def CT(a:TypeId):cB->Bool
 | .mix p q=>match find cx.T a with|some u=>ZH u (.mix p q)|none=>false
 | _=>false
def zU(a:TypeId):cB->Bool
 | .data u _=>Hk (find cx.T a) u
 | .whole ..=>match find cx.T a with|some (.slice _)=>true|_=>false
 | .ptr ..|.uy|.fn ..=>dA cx.rv a
 | _=>false
def mA(d:Option Nat)(c:TypeId)(a:cB)(e:St):Tree St :=
 match a with
 | .cell u x=>bif Hk (find cx.T c) u then .ret (e.bD d<|.data u x) else .fail
 | .ptr b aU p=>match e.mem b with
   | some f=>bif Nat.beq f.aU aU then(agA f.buf p f.val).bind λv=>bif zU cx c v||CT cx c v then .ret (e.bD d v) else .fail else .fail
   | none=>.fail
 | _=>.fail
def storeAt(b d:Nat)(p:List Sel)(e:cB->Bool)(v:cB)(g:St):Tree St :=
 match g.mem b with
 | some a=>bif Nat.beq a.aU d&&!a.lk&&!a.ro then
    (agA a.buf p a.val).bind λf=>bif e f then(Rt a.buf p a.val v).bind λc=>.ret (g.cg b { a with val:=c }) else .fail
   else .fail
 | none=>.fail
def tD(b a:Nat)(p:List Sel)(n:Nat)(v:cB)(e:St):Tree St :=
 match e.mem b with
 | some bx=>bif Nat.beq bx.aU a&&!bx.lk&&!bx.ro&&!bx.buf&&adQ bx.val then
    (nav p<|adN bx.val).bind λd=>bif Nat.beq (ek d) n then(zT p (adN bx.val) v).bind λc=>bif adQ c then .ret (e.cg b { bx with val:=c }) else .fail else .fail
   else .fail
 | none=>.fail
def aiG(u:Ty):cB->Bool
 | .data t _=>Ty.beq t u
 | _=>false
def ZI:cB->Bool
 | .undef=>true
 | _=>false
def mV(e:TypeId)(a v:cB)(d:St):Tree St :=
 match a with
 | .ptr b aU p=>match d.mem b with
   | some f=>bif Nat.beq f.aU aU then(agA f.buf p f.val).bind λc=>match c with
      | .data u _=>bif Hk (find cx.T e) u then(bif dA bf 8000000&&adP u v then tD b aU p u.size v d else match BM d u v with
       | some (y,d)=>storeAt b aU p (aiG u) (.data u y) d
       | none=>.fail) else .fail
      | _=>bif zU cx e v&&isRef v then storeAt b aU p (λc=>(zU cx e c&&isRef c)||ZI c) v d else .fail
     else .fail
   | none=>.fail
 | _=>.fail
def mW(d:Option Nat)(i:TypeId)(x:cB)(lo h:Option Operand)(f:St):Tree St :=
 match find cx.T i,x with
 | some .str,.data .str s=>match bounds f (len (α:=UInt8) s) lo h with
   | some (a,b)=>.jG (inside a b<|len (α:=UInt8) s) (.ret<|f.bD d<|.data .str<|sub (α:=UInt8) s a<|minus b a)
   | none=>.fail
 | some (.slice u),.data (.slice e) l=>bif Ty.beq u e then(match bounds f (len (α:=e.den) l) lo h with
   | some (a,b)=>.jG (inside a b<|len (α:=e.den) l) (.ret<|f.bD d<|.data (.slice e)<|sub (α:=e.den) l a<|minus b a)
   | none=>.fail) else .fail
 | some (.slice u),.part c aU l n=>match f.mem c with
   | some g=>bif Nat.beq g.aU aU&&(match g.row with|some (e,_)=>Ty.beq u e|none=>false) then(match bounds f n lo h with
     | some (a,b)=>.jG (inside a b n) (.ret<|f.bD d<|.part c aU (plus l a)<|minus b a)
     | none=>.fail) else .fail
   | none=>.fail
 | some (.slice u),.whole c aU=>match f.mem c with
   | some g=>bif Nat.beq g.aU aU&&g.buf then(match g.val with
     | .data (.slice e) l=>bif Ty.beq u e then(match lo,h with
       | none,ah=>.ret (f.bD d<|.whole c aU)
       | lo,h=>match bounds f (len (α:=e.den) l) lo h with
         | some (a,b)=>.jG (inside a b<|len (α:=e.den) l) (.ret<|f.bD d<|.part c aU a<|minus b a)
         | none=>.fail) else .fail
     | _=>.fail) else .fail
   | none=>.fail
 | some (.arr m u),.ptr c aU (s::q)=>bif live f c aU&&Nat.ble m 4294967296 then(match bounds f m lo h with
   | some (a,b)=>.jG (inside a b m) (.ret<|f.bD d<|.win c aU (s::q) u m a<|minus b a)
   | none=>.fail) else .fail
 | some (.arr m u),.ptr c aU []=>match f.mem c with
   | some g=>bif Nat.beq g.aU aU&&!g.buf then(match g.val with
     | .data (.arr n e) _=>bif Nat.beq m n&&Ty.beq u e&&Nat.ble n 4294967296 then(match bounds f n lo h with
       | some (a,b)=>.jG (inside a b n) (.ret<|f.bD d<|.part c aU a<|minus b a)
       | none=>.fail) else .fail
     | _=>.fail) else .fail
   | none=>.fail
 | _,_=>.fail
def zV(d:St)(b a:Nat):Option (Ty×Int):=match d.mem b with
 | some c=>bif Nat.beq c.aU a then(match c.buf,c.val with
   | true,.data (.slice e) l=>ab (e,len (α:=e.den) l)
   | false,.data (.arr n e) _=>ab (e,n)
   | _,_=>ah) else ah
 | none=>ah
def P9(a:TypeId):Option Nat :=
 match find cx.T a with
 | some _=>ah
 | none=>match find cx.T8 a with
   | some e=>bif dA cx.rv e then ab e else ah
   | none=>ah
def Lu(d:Option Nat)(b a:Nat)(c:St)(i:Int):Nat->Nat->Tree St
 | 0,_=>.fail
 | m+1,k=>.node (aS i k) (.ret<|c.bD d<|.ptr b a [.gz k k]) (Lu d b a c i m<|k+1)
def KB:List Sel->Bool
 | [.gz _ off]=>Nat.beq off 0
 | _=>false
def eZ(d:Option Nat)(c:TypeId)(x:cB)(i:Int)(a:St):Tree St :=
 match find cx.T c,x with
 | some (.slice u),.data (.slice e) l=>bif Ty.beq u e then .look (idx (l:List e.den) i) λy=>.ret (a.bD d<|.cell e y) else .fail
 | some (.arr m u),.cell (.arr n e) l=>bif Ty.beq u e&&Nat.beq m n then .look (idx (l:List e.den) i) λy=>.ret (a.bD d<|.cell e y) else .fail
 | some (.slice u),.whole b aU=>match zV a b aU with
   | some (e,n)=>bif Ty.beq u e then .jG (within i n) (.ret<|a.bD d<|.ptr b aU [.idx i e.size]) else .fail
   | none=>.fail
 | some (.slice u),.part b aU lo n=>match zV a b aU with
   | some (e,_)=>bif Ty.beq u e then .jG (within i n) (.ret<|a.bD d<|.ptr b aU [.idx (plus lo i) e.size]) else .fail
   | none=>.fail
 | some (.arr m u),.ptr b aU p=>bif live a b aU then .jG (within i m) (.ret<|a.bD d<|.ptr b aU<|p++[.idx i u.size]) else .fail
 | none,.win b aU q _ _ lo n=>match P9 cx c with
   | some _=>bif KB q&&decide (lo=0)&&live a b aU then Lu d b aU a i n.toNat 0 else .fail
   | none=>.fail
 | _,_=>.fail
def mX(d:Option Nat)(c:TypeId)(x:cB)(i:Int)(a:St):Tree St :=
 match x,P9 cx c with
 | .win b aU q _ _ lo n,ab _=>bif KB q&&decide (lo=0)&&live a b aU then(match i with
  | .ofNat k=>bif decide ((k:Int)<n) then .ret (a.bD d<|.ptr b aU [.gz k k]) else .fail
  | .negSucc _=>.fail) else .fail
 | x,_=>eZ cx d c x i a
def mY(d:Option Nat)(c:TypeId)(x:cB)(i:Int)(a:St):Tree St :=
 match find cx.T c,x with
 | some .str,.data .str s=>.look (idx (s:ay) i) λb=>.ret (a.bD d<|.data (.int .u8)<|u8 b)
 | some (.arr m u),.data (.arr n e) l=>bif Ty.beq u e&&Nat.beq m n then .look (idx (l:List e.den) i) λy=>.ret (a.bD d<|.data e y) else .fail
 | _,_=>.fail
def Dt.size:Dt->Nat
 | .dat t=>t.size
 | _=>1
def zW:List Dt->Nat->Option Nat
 | [],_=>ah
 | _::_,0=>ab 0
 | f::r,k+1=>match zW r k with|some o=>ab (f.size+o)|none=>ah
def fy(d:Option Nat)(s:TypeId)(x:cB)(k:Nat)(a:St):Tree St :=
 match x with
 | .cell u y=>bif Hk (find cx.T s) u then(match vx (.data u y) k with
   | some (_,.data t z)=>.ret (a.bD d<|.cell t z)
   | _=>.fail) else .fail
 | .ptr b aU p=>bif live a b aU then(match find cx.T s with
   | some t=>match kk t k,xP t k with
     | some off,ab _=>.ret (a.bD d<|.ptr b aU<|p++[.gz k off])
     | _,_=>.fail
   | none=>match find cx.sG s with
     | some c=>match zW c k with
       | some off=>.ret (a.bD d<|.ptr b aU<|p++[.gz k off])
       | none=>.fail
     | none=>.fail) else .fail
 | _=>.fail
def iD(d:Option Nat)(b c:TypeId)(x:cB)(a:St):Tree St :=
 match find cx.T b,find cx.T c,x with
 | some (.int _),ab (.int k),.data (.int _) n=>.ret (a.bD d<|.data (.int k)<|kE k n)
 | some .str,ab .str,.data .str s=>.ret (a.bD d<|.data .str s)
 | some .str,ab (.slice<|.int .u8),.data .str s=>match d with
   | some d=>.jG (fits<|len (α:=UInt8) s) (a.bF (nb+d) (.data (.slice<|.int .u8)<|aC s) 0 true λe a=>.ret (a.put d<|.whole (nb+d) e))
   | none=>.fail
 | some (.slice<|.int .u8),ab .str,x=>match jH (.int .u8) a x with
   | some l=>.ret (a.bD d<|.data .str<|bu l)
   | none=>.fail
 | _,_,_=>.fail
def yA(e:Ty)(a:St)(x:cB):Option (List e.den):=match x with
 | .data .str t=>toL (.int .u8) e (aC t)
 | x=>jH e a x
def aiH(a t:Nat):Bool:=Nat.beq t 0||(match find cx.T8 a with|some e=>Nat.beq e t|none=>false)
def iX(d:Option Nat)(f:TypeId)(s x:cB)(a:St):Tree St :=
 match d,find cx.T f with
 | some d,ab (.slice e) =>
   match yA e a x with
   | some m=>match s with
     | .pQ=>.jG (fits<|len (α:=e.den) m) (a.bF (nb+d) (.data (.slice e) m) 0 true λaU a=>.ret (a.put d<|.whole (nb+d) aU))
     | .whole b aU=>match a.mem b,jH e a (.whole b aU) with
       | some c,ab l=>bif c.lk||!aiH cx f c.tid then .fail else
         .jG (fits<|plus (len (α:=e.den) l)<|len (α:=e.den) m) (.ret<|(a.cg b { c with val:=.data (.slice e) (app (α:=e.den) l m),aU:=aU+1 }).put d<|.whole b<|aU+1)
       | _,_=>.fail
     | _=>.fail
   | none=>.fail
 | _,_=>.fail
def la(e:Ty)(m:List e.den)(b d:Nat)(q:List Sel)(f:Nat->Ty->Bool)(i:Int)(g:St):Tree St :=
 match g.mem b with
 | some a=>bif Nat.beq a.aU d&&!a.lk&&!a.ro then
    (match a.buf with
    | true=>match q,a.val with
      | [],.data (.slice u) l=>match toL e u m with
        | some m=>.ret (g.cg b { a with val:=.data (.slice u) (over (α:=u.den) l i m) })
        | none=>.fail
      | _,_=>.fail
    | false=>(nav q a.val).bind λh=>match h with
      | .data (.arr k u) l=>bif f k u then(match toL e u m with
        | some m=>(zT q a.val<|.data (.arr k u)<|over (α:=u.den) l i m).bind λc=>.ret (g.cg b { a with val:=c })
        | none=>.fail) else .fail
      | _=>.fail)
   else .fail
 | none=>.fail
def Hl(e:Ty)(m:Int->List e.den)(t:cB)(a:St):Tree (Int×St) :=
 match t with
 | .part b aU lo n=>(la e (m n) b aU [] (λ_ _=>true) lo a).bind λa=>.ret (n,a)
 | .whole b aU=>match lenOf a t with|some n=>(la e (m n) b aU [] (λ_ _=>true) 0 a).bind λa=>.ret (n,a)|none=>.fail
 | .win b aU q u k lo n=>(la e (m n) b aU q (λc d=>Nat.beq k c&&Ty.beq u d) lo a).bind λa=>.ret (n,a)
 | _=>.fail
def zd(d:Option Nat)(b:TypeId)(t x:cB)(a:St):Tree St :=
 match find cx.T b with
 | some (.slice e)=>match yA e a x with
   | none=>.fail
   | some m=>(Hl e (λn=>iW (α:=e.den) m n) t a).bind λr=>.ret (r.2.bD d<|.data (.int .i64)<|len<|iW (α:=e.den) m r.1)
 | _=>.fail
def zf(a:TypeId)(t:cB)(b:St):Tree St :=
 match find cx.T a with
 | some (.slice e)=>(Hl e (λn=>kj n e.zero) t b).bind λr=>.ret r.2
 | _=>.fail
def rC:(U:Ty)->U.den->List Nat->Nat->Option cB
 | .pair t U,u,ns,c=>match ns with
   | b::ns=>bif Nat.beq c b then ab (.data t u.1) else rC U u.2 ns c
   | []=>ah
 | _,_,_,_=>ah
def zX(U:Ty)(u:U.den)(b:List Nat)(a:St):St :=
 { a with mem:=λc=>match rC U u b c with
  | some v=>(match a.mem c with|some d=>ab { d with val:=v }|none=>ah)
  | none=>a.mem c }
def tE(c:St):List Bool->(A U:Ty)->List cB->Option (A.den×U.den×List Nat)
 | [],A,U,vs=>match A,U,vs with
   | .unit,.unit,[]=>ab ((),(),[])
   | _,_,_=>ah
 | false::ps,A,U,vs=>match A,vs with
   | .pair t A,v::vs=>match toD t v,tE c ps A U vs with
     | some x,ab (y,u,ns)=>ab ((x,y),u,ns)
     | _,_=>ah
   | _,_=>ah
 | true::ps,A,U,vs=>match U,vs with
   | .pair t U,.ptr b aU []::vs=>match c.mem b with
     | some a=>bif Nat.beq a.aU aU&&!a.buf&&!a.lk&&!a.ro&&Nat.beq a.tid 0 then(match toS t a.val,tE c ps A U vs with
       | some x,ab (y,u,ns)=>bif dA ns b then ah else ab (y,(x,u),b::ns)
       | _,_=>ah) else ah
     | none=>ah
   | _,_=>ah
def KC:cB->Bool
 | .whole ..=>true
 | _=>false
def CU(s:Spc)(d:Option Nat)(c:List cB)(e:St):Tree St :=
 match s,c with
 | .chk T,[.ptr b aU []]=>match e.mem b with
   | some a=>match a.val with
     | .mix (.xO f g) (.mix u<|.data .unit _)=>bif Nat.beq a.aU aU&&!a.buf&&!a.lk&&!a.ro&&Nat.beq a.tid T&&Nat.blt 0 T&&Nat.beq f b&&Nat.beq g aU&&KC u then .ret (e.bD d<|.BF .nl) else .fail
     | _=>.fail
   | none=>.fail
 | .str T E,[.ptr b aU []]=>match e.mem b with
   | some a=>match a.val with
     | .mix (.xO _ _) (.mix (.whole h hv)<|.data .unit _)=>bif Nat.beq a.aU aU&&!a.buf&&Nat.beq a.tid T&&Nat.blt 0 T&&!Nat.beq h b then(match e.mem h with
       | some hx=>bif Nat.beq hx.aU hv&&hx.buf&&!hx.lk&&Nat.beq hx.tid E&&Nat.blt 0 E then(match hx.val with
         | .data (.slice<|.int .u8) l=>.ret ((e.cg h { hx with val:=.data (.slice<|.int .u8) [],aU:=hx.aU+1 }).bD d<|.data .str<|bu l)
         | _=>.fail) else .fail
       | none=>.fail) else .fail
     | _=>.fail
   | none=>.fail
 | _,_=>.fail
def ownRow(d:Option Nat):Option Nat:=match d with|some d=>bif dA bf (4000000+d) then ab d else ah|none=>ah
def Ua(d:Option Nat):Option Nat:=match d with|some d=>bif dA bf d then ab d else ah|none=>ah
def mZ(e:Ty)(d:Option Nat)(a:List cB)(b:St):Tree St :=
 match d,a with
 | some d,[x]=>match BM b (.slice e) x with
   | some (l,b)=>bif Nat.blt 0 e.size then .jG (fits<|len (α:=e.den) l) (b.bF (nb+d) (.data (.slice e) l) 0 true λc b=>.ret (b.put d<|.whole (nb+d) c)) else .fail
   | none=>.fail
 | _,_=>.fail
def zY(e:Ty)(c:St):cB->Option (Nat×Nat×Box×List e.den)
 | .whole b aU=>match c.mem b with
   | some a=>bif Nat.beq a.aU aU&&a.buf&&!a.lk&&!a.ro&&Nat.beq a.tid 0 then(match a.val with
     | .data (.slice u) l=>(match toL u e l with|some l=>ab (b,aU,a,l)|none=>ah)
     | _=>ah) else ah
   | none=>ah
 | .part b aU lo n=>match c.mem b with
   | some a=>bif Nat.beq a.aU aU&&a.buf&&!a.lk&&!a.ro&&Nat.beq a.tid 0&&decide (lo=0) then(match a.val with
     | .data (.slice u) l=>(match toL u e l with|some l=>ab (b,aU,a,sub (α:=e.den) l lo n)|none=>ah)
     | _=>ah) else ah
   | none=>ah
 | _=>ah
def tF(e A:Ty)(g:Bool)(a:List e.den->A.den->Option (List e.den))(d:Option Nat)(c:List cB)(f:St):Tree St :=
 match c with
 | v::vs=>match lY f A vs with
   | some (x,f)=>match zY e f v with
     | some (b,aU,h,l)=>.look (a l x) λi=>match g,d with
       | true,ab d=>.ret ((f.cg b { h with val:=.data (.slice e) i,aU:=aU+1 }).put d<|.whole b<|aU+1)
       | false,d=>bif KC v then .ret ((f.cg b { h with val:=.data (.slice e) i }).bD d<|.BF .nl) else .fail
       | _,_=>.fail
     | none=>.fail
   | none=>.fail
 | []=>.fail
def yB(d:Option Nat)(f:Nat):Option Spc :=
 match find cx.TL f with
 | some (.clone e)=>match Ua bf d with|some _=>ab (.clone e)|none=>ah
 | some (.own e A r s)=>ab (.own e A r s)
 | _=>ah
def yC(d:Option Nat)(f:Nat)(a:List cB)(b:St):Tree St :=
 match find cx.con f with
 | some c=>match c.R.flat with
   | true=>match jr b c.A a with
     | some x=>.look (c.spec x) λy=>.ret (b.bD d<|wK c.R y)
     | none=>.fail
   | false=>match lY b c.A a with
     | some (x,b)=>.look (c.spec x) λy=>.ret (b.bD d<|wK c.R y)
     | none=>.fail
 | none=>match find cx.TL f with
  | some s=>CU s d a b
  | none=>match find cx.adK f with
   | some c=>(match tE b c.ps c.A c.U a with
     | some (x,u,ns)=>.look (c.spec (x,u)) λy=>.ret ((zX c.U y.2 ns b).bD d<|wK c.R y.1)
     | none=>(inl f a b).bind λr=>.ret (r.2.bD d r.1))
   | none=>(inl f a b).bind λr=>.ret (r.2.bD d r.1)
def vN(d:Option Nat)(f:Nat)(a:List cB)(b:St):Tree St :=
 match yB cx bf d f with
 | some (.clone e)=>mZ nb e d a b
 | some (.own e A r s)=>tF e A r s d a b
 | _=>yC cx inl d f a b
def Ub:(t:Ty)->(u:Nat)->Option ((a:Ty)×(a.den->t.den))
 | .alt n a r,u=>bif Nat.beq n u then ab ⟨a,.inl⟩ else match Ub r u with
   | some ⟨b,f⟩=>ab ⟨b,λx=>.inr (f x)⟩
   | none=>ah
 | _,_=>ah
def sZ(d:Option Nat)(c u:TypeId)(x:cB)(b:St):Tree St :=
 match find cx.T c with
 | some t=>match Ub t u with
   | some ⟨a,f⟩=>match BM b a x with
     | some (y,b)=>.ret (b.bD d<|.data t<|f y)
     | none=>.fail
   | none=>.fail
 | none=>.fail
def s6(d:Option Nat)(a:String)(b:List cB)(e:St):Tree St :=
 match T9 cx.inv a with
 | some c=>match lY e c.A b with
   | some (x,e)=>.look (c.spec x) λy=>.ret (e.bD d<|wK c.R y)
   | none=>.fail
 | none=>.fail
def wL(d:Option Nat)(h:TypeId)(c:Call)(a:St):Tree St :=
 match c.callee with
 | .builtin b=>match b,c.args.toList.map (dw a),c.argTypes.toList with
   | .len,[x],[t]=>bif ZG (find cx.T t) x then(match lenOf a x with
     | some n=>.ret (a.bD d<|.data (.int .i64) n)
     | none=>.fail) else(match P9 cx t,x with
     | some _,.win b aU _ _ _ _ n=>bif live a b aU&&decide (n<=64) then .ret (a.bD d<|.data (.int .i64) n) else .fail
     | _,_=>.fail)
   | .append,[s,x],[t,u]=>match find cx.T u with
     | some .str|some (.slice _)=>iX cx nb d t s x a
     | _=>.fail
   | .copy,[t,x],[g,tx]=>match find cx.T tx with
     | some .str|some (.slice _)=>zd cx d g t x a
     | _=>.fail
   | .clear,[t],[g]=>match d with|none=>zf cx g t a|some _=>.fail
   | .min,[x,y],_=>Ru true x y |>.bind λv=>.ret (a.bD d v)
   | .max,[x,y],_=>Ru false x y |>.bind λv=>.ret (a.bD d v)
   | _,_,_=>.fail
 | .value f=>match dw a f with
   | .fn f e=>bif e.all (λb=>live a b.1 b.2) then vN cx nb bf inl d f (c.args.toList.map (dw a)++e.map λb=>.ptr b.1 b.2 []) a else .fail
   | _=>.fail
 | .invoke r name=>s6 cx d name (dw a r::c.args.toList.map (dw a)) a
def Hm:List cB->Option (List<|Nat×Nat)
 | []=>ab []
 | .ptr b aU []::r=>(Hm r).map ((b,aU)::·)
 | _=>ah
def KD(a:St)(b:Nat):Nat:=match a.mem b with|some bx=>bx.aU+1|none=>0
def mkObj(b a:Nat):List Dt->Nat->St->Tree (cB×St)
 | [],_,σ=>.ret (.data .unit (),σ)
 | .dat t::r,j,σ=>(mkObj b a r (j+1) σ).bind λx=>.ret (.mix (.data t t.zero) x.1,x.2)
 | .one::r,j,σ=>(mkObj b a r (j+1) σ).bind λx=>.ret (.mix .uy x.1,x.2)
 | .self::r,j,σ=>(mkObj b a r (j+1) σ).bind λx=>.ret (.mix (.xO b a) x.1,x.2)
 | .buf e c::r,j,σ=>bif Nat.blt 0 e.size then σ.bF (b*1000+999-j) (.data (.slice e) []) c true λv σ=>(mkObj b a r (j+1) σ).bind λx=>.ret (.mix (.whole (b*1000+999-j) v) x.1,x.2) else .fail
def tG:List Dt->Option cB
 | []=>ab (.data .unit ())
 | .dat t::r=>match tG r with|some v=>ab (.mix (.data t t.zero) v)|none=>ah
 | .buf _ _::r=>match tG r with|some v=>ab (.mix .pQ v)|none=>ah
 | .one::r=>match tG r with|some v=>ab (.mix .uy v)|none=>ah
 | .self::_=>ah
def rD(b:St)(a:List Dt):cB->List (Nat×Operand)->Option cB
 | v,[]=>ab v
 | v,(k,x)::r=>match vx v k,zW a k,a[k]? with
   | some (o,.data t _),ab c,ab f=>bif Nat.beq o c&&Nat.beq t.size f.size then(match toS t (dw b x) with
     | some y=>match(Ls v k λ_=>.ret (.data t y)).run with
       | some v=>rD b a v r
       | none=>ah
     | none=>ah) else ah
   | _,_,_=>ah
def rE(b:Nat):List Dt->Nat->cB->St->Tree (cB×St)
 | [],_,.data .unit x,σ=>.ret (.data .unit x,σ)
 | .dat _::r,j,.mix (.data u y) v,σ=>(rE b r (j+1) v σ).bind λx=>.ret (.mix (.data u y) x.1,x.2)
 | .one::r,j,.mix .uy v,σ=>(rE b r (j+1) v σ).bind λx=>.ret (.mix .uy x.1,x.2)
 | .buf e a::r,j,.mix .pQ v,σ=>bif Nat.blt 0 e.size then σ.bF (b*1000+999-j) (.data (.slice e) []) a true λc σ=>(rE b r (j+1) v σ).bind λx=>.ret (.mix (.whole (b*1000+999-j) c) x.1,x.2) else .fail
 | _,_,_,_=>.fail
def BO(a:St):Nat->List (Nat×Operand)->Option cB
 | _,[]=>ab (.data .unit ())
 | k,(j,x)::r=>bif Nat.beq j k then(match dw a x,BO a (k+1) r with
   | .uy,ab v=>ab (.mix .uy v)
   | .ptr b aU p,ab v=>ab (.mix (.ptr b aU p) v)
   | .fn f c,ab v=>ab (.mix (.fn f c) v)
   | _,_=>ah) else ah
def CV(d:Option Nat)(t:TypeId)(a:Nat)(b:List (Nat×Operand))(c:St):Tree St :=
 match d,P9 cx t,BO c 0 b with
 | some d,ab _,ab v=>bif Nat.beq a b.length&&Nat.blt 0 a&&Nat.ble a 64 then
  c.bF (nb+d) v 0 false λe c=>.ret (c.put d<|.win (nb+d) e [.gz 0 0] .bool a 0 a) else .fail
 | _,_,_=>.fail
def Fy(d:Option Nat)(a:TypeId)(x:cB)(c:St):Tree St :=
 match d,x with
 | some _,.undef=>.fail
 | some _,.BF _=>.fail
 | some d,v=>match find cx.sG a with
   | some e=>(rE (nb+d) e 0 v c).bind λr=>r.2.bF (nb+d) r.1 a false λb c=>.ret (c.put d<|.ptr (nb+d) b [])
   | none=>c.bF (nb+d) v 0 false λb c=>.ret (c.put d<|.ptr (nb+d) b [])
 | none,_=>.fail
def wC(d:Nat)(t:Ty)(a:St):Tree St :=
 match Ua bf (ab d),t with
 | some _,.slice e=>bif Nat.blt 0 e.size then a.bF ((nb+d)*1000+999) (.data (.slice e) []) 0 true λv a =>
  a.bF (nb+d) (.whole ((nb+d)*1000+999) v) 0 false λb a=>.ret (a.put d<|.ptr (nb+d) b []) else .fail
 | _,t=>a.bF (nb+d) (.data t t.zero) 0 false λb a=>.ret (a.put d<|.ptr (nb+d) b [])
def rF(o:Oper)(g:St):Tree St :=
 match o.op with
 | .move x|.assign x=>km cx nb bf o.dst o.type (dw g x) g
 | .pick c a b=>pR o.dst (dw g c) (dw g a) (dw g b) g
 | .alloc elem=>match o.dst,find cx.T elem with
   | some d,ab t=>wC nb bf d t g
   | some d,ah=>match find cx.sG elem with
     | some m=>(mkObj (nb+d) (KD g<|nb+d) m 0 g).bind λr=>r.2.bF (nb+d) r.1 elem false λh g=>.ret (g.put d<|.ptr (nb+d) h [])
     | none=>bif dA cx.rv elem then g.bF (nb+d) .undef 0 false λh g=>.ret (g.put d<|.ptr (nb+d) h []) else .fail
   | _,_=>.fail
 | .box elem x=>Fy cx nb o.dst elem (dw g x) g
 | .build t parts=>match find cx.T t with
   | some (.pair a b)=>match gY g (.pair a b) (Ty.pair a b).zero parts.toList with
     | some (x,g)=>.ret (g.bD o.dst<|.data (.pair a b) x)
     | none=>.fail
   | some (.arr n e)=>match fP g e (List.replicate n e.zero) parts.toList with
     | some (l,g)=>.ret (g.bD o.dst<|.data (.arr n e) l)
     | none=>.fail
   | none=>match find cx.sG t with
     | some m=>match tG m with
       | some z=>match rD g m z parts.toList with
         | some (.mix p q)=>.ret (g.bD o.dst<|.mix p q)
         | some (.data .unit _)=>.ret (g.bD o.dst<|.data .unit ())
         | _=>.fail
       | none=>.fail
     | none=>.fail
   | _=>.fail
 | .buildSlice t len parts=>match find cx.T t with
   | some (.slice e)=>match Ua bf o.dst,len,parts.toList with
     | some d,0,[]=>g.bF (nb+d) (.data (.slice e) []) 0 true λh g=>.ret (g.put d<|.whole (nb+d) h)
     | _,_,_=>bif Nat.ble (len*e.size) 65536 then(match fP g e (List.replicate len e.zero) parts.toList with
     | some (l,g)=>(match ownRow bf o.dst with
       | some d=>g.bF (nb+d) (.data (.slice e) l) 0 true λh g=>.ret (g.put d<|.whole (nb+d) h)
       | none=>.ret (g.bD o.dst<|.data (.slice e) l))
     | none=>.fail) else .fail
   | none=>CV cx nb o.dst t len parts.toList g
   | _=>.fail
 | .load t a=>mA cx o.dst t (dw g a) g
 | .store t a x=>match o.dst with|none=>mV cx bf t (dw g a) (dw g x) g|some _=>.fail
 | .nilCheck x=>match dw g x with
   | .ptr b h p=>bif live g b h then .ret (g.bD o.dst<|.ptr b h p) else .fail
   | .cell t x=>.ret (g.bD o.dst<|.cell t x)
   | .fn f c=>.ret (g.bD o.dst<|.fn f c)
   | _=>.fail
 | .binOp op A x y _=>(adL g (find cx.T A) (dA cx.zc A) op (dw g x)<|dw g y).bind λv=>.ret (g.bD o.dst v)
 | .unOp op _ x=>(un op<|dw g x).bind λv=>.ret (g.bD o.dst v)
 | .convert src dst x=>iD cx nb o.dst src dst (dw g x) g
 | .makeFunc (.func f) first j=>match first.toList,Hm (j.toList.map<|dw g) with
   | [],ab cs=>.ret (g.bD o.dst<|.fn f cs)
   | _,_=>.fail
 | .slice t x lo hi ah=>mW cx o.dst t (dw g x) lo hi g
 | .fieldAddr s x k=>fy cx o.dst s (dw g x) k g
 | .field A x k=>match dw g x with
   | .data u y=>bif Hk (find cx.T A) u then(match vx (.data u y) k with
     | some (_,v)=>.ret (g.bD o.dst v)
     | none=>.fail) else .fail
   | _=>.fail
 | .indexAddr t x i=>match dw g i with
   | .data (.int _) i=>bif dA bf 5000000 then mX cx o.dst t (dw g x) i g else eZ cx o.dst t (dw g x) i g
   | _=>.fail
 | .index t x i=>match dw g i with
   | .data (.int _) i=>mY cx o.dst t (dw g x) i g
   | _=>.fail
 | .makeSlice t l c=>match o.dst,find cx.T t,dw g l,dw g c with
   | some d,ab (.slice e),.data (.int _) l,.data (.int _) c =>
     .jG (inside 0 l c) (.jG (fits c)
      (g.bF (nb+d) (.data (.slice e)<|kj l e.zero) 0 true λh g=>.ret (g.put d<|.whole (nb+d) h)))
   | _,_,_,_=>.fail
 | .extract t k=>match dw g t with
   | .BF vs=>match nth vs k with
     | some v=>.ret (g.bD o.dst v)
     | none=>.fail
   | _=>.fail
 | .call c=>wL cx nb bf inl o.dst o.type c g
 | .makeInterface u x=>sZ cx o.dst o.type u (dw g x) g
 | _=>.fail
def zZ(g:Option (Nat×Bool))(j:Nat)(a:Bool):Bool :=
 match g with|some (i,b)=>Nat.beq i j&&(b==a)|none=>false
def under(j:Nat)(a:Bool):(inner:List Nat)->List (Nat×Oper)->List (Nat×Oper)×List (Nat×Oper)
 | _,[]=>([],[])
 | inner,(i,o)::r =>
   bif zZ o.guard j a then let x:=under j a (i::inner) r;((i,{ o with guard:=ah })::x.1,x.2)
   else bif (match o.guard with|some (k,_)=>inner.any (Nat.beq k)|none=>false) then let x:=under j a (i::inner) r;((i,o)::x.1,x.2)
   else([],(i,o)::r)
def KE(a:Ctx):List (Nat×Oper)->Bool
 | []=>false
 | (_,o)::r=>(match o.op with
   | .call c=>match c.callee with
     | .value (.func f)=>match find a.con f with|some _=>false|none=>true
     | .value _=>true
     | .builtin .append=>true
     | _=>false
   | .store ..=>true
   | _=>false)||KE a r
def St.js(a:St):St:={ a with mem:=λi=>match a.mem i with|some b=>ab { b with lk:=true }|none=>ah }
def St.undef(a:St):List (Nat×Oper)->St
 | []=>a
 | (_,o)::r=>(a.undef r).bD o.dst .undef
def oH(d:Nat):List (Nat×Oper)->Bool
 | []=>false
 | (_,o)::r=>(match o.dst with|some k=>Nat.beq k d|none=>false)||oH d r
def z6(e:St)(f:Oper)(g:Nat)(d:Bool):Option cB :=
 match f.op with
 | .pick (.tmp c) a b=>bif Nat.beq c g then ab (dw e<|bif d then a else b) else ah
 | _=>ah
def rG(a:Array Oper):Nat->List (Nat×Oper)->St->Tree St
 | 0,_,_=>.fail
 | n+1,[],σ=>.ret σ
 | n+1,(i,o)::r,σ =>
   match o.guard with
   | none=>(rF cx nb bf inl o σ).bind λσ=>rG a n r σ
   | some (j,want) =>
     let g:=under j want [] ((i,o)::r)
     match(a[j]?).bind (·.dst) with
     | none=>.fail
     | some d=>match σ.br d,g.2 with
       | .data .bool c,(_,b)::rest=>bif oH d g.1 then .fail else match b.guard with
         | some _=>.fail
         | none =>
           let e:=bif want then c else nt c
           bif KE cx g.1 then
            (Tree.node e ((rG a n g.1 σ).bind λσ=>match z6 σ b d want with
              | some v=>.ret (σ.bD b.dst v)
              | none=>.fail)
             (match z6 (σ.undef g.1) b d (!want) with
              | some v=>.ret ((σ.undef g.1).bD b.dst v)
              | none=>.fail)).bind λσ=>rG a n rest σ
           else match find cx.T b.type,b.dst with
            | some t,ab f=>(Tree.node e ((rG a n g.1 σ.js).bind λτ=>match(z6 τ b d want).bind (toD t) with
              | some x=>.ret x
              | none=>.fail)
             (match(z6 (σ.undef g.1) b d<|!want).bind (toD t) with
              | some x=>.ret x
              | none=>.fail)).join λx=>rG a n rest ((σ.undef g.1).put f<|.data t x)
            | _,_=>.fail
       | _,_=>.fail
def number:Nat->List Oper->List (Nat×Oper)
 | _,[]=>[]
 | k,o::r=>(k,o)::number (k+1) r
def Lv(a:Array Oper)(b:St):Tree St:=rG cx nb bf inl a (2*a.size+1) (number 0 a.toList) b
def iE:Op->List Operand
 | .move x|.assign x|.box _ x|.load _ x|.nilCheck x|.unOp _ _ x|.convert _ _ x|.fieldAddr _ x _|.field _ x _|.extract x _=>[x]
 | .pick c a b=>[c,a,b]
 | .build _ ps|.buildSlice _ _ ps=>ps.toList.map (·.2)
 | .store _ a x=>[a,x]
 | .binOp _ _ x y _=>[x,y]
 | .makeFunc _ f c=>f.toList++c.toList
 | .slice _ x lo hi _=>x::(lo.toList++hi.toList)
 | .indexAddr _ x i|.index _ x i=>[x,i]
 | .makeSlice _ l c=>[l,c]
 | .call c=>(match c.callee with|.value f=>[f]|.invoke r _=>[r]|_=>[])++c.args.toList
 | .makeInterface _ x=>[x]
 | _=>[]
def tmpsOf:List Operand->List Nat
 | []=>[]
 | .tmp t::r=>t::tmpsOf r
 | _::r=>tmpsOf r
def rH(o:Oper)(a:St):Option Nat:=match o.op with
 | .call c=>match c.callee with
   | .value x=>match dw a x with
     | .fn f _=>ab f
     | _=>ah
   | _=>ah
 | _=>ah
def aj3:Option Nat->Option Nat->Bool
 | some a,ab b=>Nat.beq a b
 | none,ah=>true
 | _,_=>false
def cls(g:Option Nat)(o:Oper):Nat:=match o.op with
 | .assign _|.move _|.makeSlice ..|.convert ..=>1
 | .box e _=>match find cx.sG e with
   | some _=>3
   | none=>1
 | .alloc e=>match find cx.T e with
   | some (.slice _)=>3
   | some _=>1
   | none=>match find cx.sG e with
     | some _=>3
     | none=>1
 | .build ..|.buildSlice ..|.store ..=>2
 | .call c=>match c.callee with
   | .builtin .len|.builtin .min|.builtin .max=>0
   | .builtin .append=>2
   | .builtin _=>3
   | .value _=>match g with
     | some f=>match find cx.TL f with
       | some (.clone _)=>2
       | some (.own _ _ _ _)=>2
       | _=>match find cx.con f with
         | some c=>bif c.R.flat then 0 else 2
         | none=>3
     | none=>3
   | .invoke ..=>2
 | .makeInterface ..=>2
 | _=>0
structure Fp where
 rd:List Nat
 wr:List Nat
 KF:Bool
 fn:Option Nat
def zg(d:St):cB->List Nat
 | .ptr b _ _=>[b]
 | .whole b _=>[b]
 | .part b _ _ _=>[b]
 | .win b _ _ _ _ _ _=>[b]
 | .fn _ c=>c.map (·.1)
 | .mix a b=>zg d a++zg d b
 | _=>[]
def refsOf(a:St):List Operand->List Nat
 | []=>[]
 | x::r=>zg a (dw a x)++refsOf a r
def aj4(o:Oper)(a:St):List Nat:=match o.op with
 | .move _|.assign _=>[]
 | _=>refsOf a (iE o.op)
def own(o:Oper):List Nat:=match o.dst with|some d=>[nb+d]|none=>[]
def BP(o:Oper)(a:St):Fp :=
 let rd:=own nb o++aj4 o a
 let g:=rH o a
 match cls cx g o with
 | 0=>⟨rd,[],false,g⟩
 | 1=>⟨rd,own nb o,false,g⟩
 | 2=>⟨rd,rd,false,g⟩
 | _=>⟨[],[],true,g⟩
def St.only(a:St)(ts c:List Nat):St:={ br:=λt=>bif dA ts t then a.br t else .undef,mem:=λb=>bif dA c b then a.mem b else ah }
def lay(a:St)(d:Option Nat)(e:List Nat)(c:St):St :=
 { br:=match d with|some d=>λt=>bif Nat.beq t d then c.br d else a.br t|none=>a.br
   mem:=λb=>bif dA e b then c.mem b else a.mem b }
def BQ(_:Nat)(_:List cB)(_:St):Tree (cB×St):=.fail
def adR(b:Fp)(o:Oper)(a:St):Tree St:=bif aj3 (rH o a) b.fn then rF cx nb bf BQ o a else .fail
def jt(a:Fp)(o:Oper)(b:St):Tree St :=
 bif a.KF then rF cx nb bf inl o b
 else(adR cx nb bf a o<|b.only (tmpsOf<|iE o.op) a.rd).bind λτ=>.ret (lay b o.dst a.wr τ)
abbrev Uc:=Nat×Oper×Fp×Nat
def maskAt:List Uc->Nat->Nat
 | [],_=>0
 | (i,_,_,m)::r,k=>bif Nat.beq i k then m else maskAt r k
def wD(a:List Uc):List Edge->Nat
 | []=>0
 | e::r=>bif Region.binds .any e then(wD a r ||| 2 ^ e.on) ||| maskAt a e.on else wD a r
def mask(a:List Uc)(o:Oper):Nat:=wD a o.after.toList
def aaT(a b:List Nat):Bool:=a.all λx=>!dA b x
def apart(x y:Oper)(f g:Fp):Bool :=
 !f.KF&&!g.KF&&aaT f.wr g.rd&&aaT g.wr f.rd &&
 (match x.dst with|some d=>!dA (tmpsOf<|iE y.op) d&&(match y.dst with|some e=>!Nat.beq d e|none=>true)|none=>true) &&
 (match y.dst with|some e=>!dA (tmpsOf<|iE x.op) e|none=>true)
def loose(o:Oper)(f:Fp)(m:Nat):List Uc->Bool
 | []=>true
 | (k,ok,a,_)::r=>(Nat.testBit m k||apart ok o a f)&&loose o f m r
def Lw:List (Nat×Oper)->List Uc->St->Tree St
 | [],_,σ=>.ret σ
 | (i,o)::r,done,σ=>match o.guard with
   | some _=>.fail
   | none =>
     let f:=BP cx nb o σ
     let m:=mask done o
     bif loose o f m done&&(o.after.all λe=>!Region.binds .any e||Nat.blt e.on i) then
      (jt cx nb bf inl f o σ).bind λσ=>Lw r ((i,o,f,m)::done) σ
     else .fail
def Qa(a:Array Oper)(o:Oper):List Nat:=match o.guard with
 | some (g,_)=>match(a[g]?).bind (·.dst) with|some d=>[d]|none=>[]
 | none=>[]
def Et(a:Array Oper)(o:Oper):List Nat:=Qa a o++tmpsOf (iE o.op)
def zh(o:Oper)(k:Nat):Bool:=match o.guard with|some (g,_)=>!Nat.beq g k|none=>true
def BR(a:Array Oper)(i j:Nat)(x y:Oper)(f g:Fp):Bool :=
 !f.KF&&!g.KF&&aaT f.wr g.rd&&aaT g.wr f.rd&&zh x j&&zh y i &&
 (match x.dst with|some d=>!dA (Et a y) d&&(match y.dst with|some e=>!Nat.beq d e|none=>true)|none=>true) &&
 (match y.dst with|some e=>!dA (Et a x) e|none=>true)
def Eu(a:Array Oper)(i:Nat)(o:Oper)(f:Fp)(m:Nat):List Uc->Bool
 | []=>true
 | (k,ok,b,_)::r=>(Nat.testBit m k||BR a k i ok o b f)&&Eu a i o f m r
def kH(i:Nat)(a:Nat->Bool):Nat->Bool:=λk=>Nat.beq k i||a k
def xQ(a:Array Oper):List (Nat×Oper)->List Uc->St->(Nat->Bool)->Tree St
 | [],_,σ,_=>.ret σ
 | (i,o)::r,done,σ,b =>
   let f:=BP cx nb o σ
   let m:=mask done o
   bif Eu a i o f m done&&(o.after.all λe=>!Region.binds .any e||Nat.blt e.on i) then
    match o.guard with
    | none=>(jt cx nb bf inl f o σ).bind λσ=>xQ a r ((i,o,f,m)::done) σ b
    | some (g,want)=>match(a[g]?).bind (·.dst) with
      | none=>.fail
      | some dg=>bif b g then xQ a r ((i,o,f,m)::done) (σ.bD o.dst .undef) (kH i b)
        else match σ.br dg with
         | .data .bool c=>.node c
          (bif want then(jt cx nb bf inl f o<|σ.put dg<|.data .bool true).bind λσ=>xQ a r ((i,o,f,m)::done) σ b
           else xQ a r ((i,o,f,m)::done) ((σ.put dg<|.data .bool true).bD o.dst .undef) (kH i b))
          (bif want then xQ a r ((i,o,f,m)::done) ((σ.put dg<|.data .bool false).bD o.dst .undef) (kH i b)
           else(jt cx nb bf inl f o<|σ.put dg<|.data .bool false).bind λσ=>xQ a r ((i,o,f,m)::done) σ b)
         | _=>.fail
   else .fail
def oI:List Oper->Bool
 | []=>true
 | o::r=>(match o.dst with|some d=>!dA (Hn r) d|none=>true)&&oI r
where Hn:List Oper->List Nat
 | []=>[]
 | o::r=>match o.dst with|some d=>d::Hn r|none=>Hn r
def zi(a:Array Oper)(b:St):Tree St :=
 bif a.any λo=>o.guard.isSome then(bif oI a.toList then xQ cx nb bf inl a (number 0 a.toList) [] b (λ_=>false) else .fail)
 else Lw cx nb bf inl (number 0 a.toList) [] b
end
def rounds{S R:Type}(f:S->Option (S⊕R)):Nat->S->Option R
 | 0,_=>ah
 | n+1,s=>(f s).bind λx=>match x with|.inl s=>rounds f n s|.inr r=>ab r
def IM{S R}{f:S->Option (S⊕R)}:∀{n s r},rounds f n s=ab r->∀m,n<=m->rounds f m s=ab r:=by
 intro n;induction n with
 | zero=>intro s r h;cases h
 | succ n b =>
   intro s r h m c;obtain⟨k,rfl⟩:∃k,m=k+1:=⟨m-1,ai⟩;simp only[rounds] at h⊢;cases a:f s with
   | none=>rw[a] at h;cases h
   | some x =>
     grind
open Classical in
def Ud{S R:Type}(f:S->Option (S⊕R))(s:S):Option R :=
 if h:∃n r,rounds f n s=ab r then ab (Classical.choose<|TN h) else ah
def A3{S R}{f:S->Option (S⊕R)}{n s r}(h:rounds f n s=ab r):Ud f s=ab r:=by
 have c:∃n r,rounds f n s=ab r:=⟨n,r,h⟩;unfold Ud;have a:=IM h (max n<|Classical.choose c) ai;have b:=IM (TN<|TN c) (max n<|Classical.choose c) ai
 grind
class Lp where
 loop:{S R:Type}->(S->Option (S⊕R))->S->Option R
 ok:∀{S R:Type} (f:S->Option (S⊕R)) (s:S),loop f s=Ud f s
def Lp.one(i j:Lp):i=j:=by
 obtain⟨l,h⟩:=i;obtain⟨m,k⟩:=j;have:@l=@m:=by funext S R f s;rw[h,k]
 grind
@[reducible] noncomputable def Lp.lZ:Lp where
 loop:=λf s=>match rounds f 100000 s with|some r=>ab r|none=>Ud f s
 ok:=λf s=>by
  generalize 100000=k;cases a:rounds f k s with
  | some r=>exact(A3 a).symm
  | none=>rfl
section
variable [Lp]
def Loop{S R:Type}(f:S->Option (S⊕R))(s:S):Option R:=Lp.loop f s
def rI{S R}{f:S->Option (S⊕R)}{n s r}(h:rounds f n s=ab r):Loop f s=ab r:=(Lp.ok f s).trans (A3 h)
def rJ{S R}{f:S->Option (S⊕R)}{s r}(h:Loop f s=ab r):∃n,rounds f n s=ab r:=by
 replace h:=(Lp.ok f s).symm.trans h;unfold Ud at h;split at h
 .grind
 .cases h
def aT{S R}(f:S->Option (S⊕R)) s:Loop f s=(f s).bind λx=>match x with|.inl s=>Loop f s|.inr r=>ab r:=by
 cases c:f s with
 | none =>
   cases b:Loop f s with
   | none=>rfl
   | some r =>
     obtain⟨n,a⟩:=rJ b;cases n with
     | zero=>cases a
     | succ n=>simp[rounds,c] at a
 | some x =>
   cases x with
   | inr r=>exact rI (n:=1) (by simp[rounds,c])
   | inl e =>
     show Loop f s=Loop f e
     cases b:Loop f e with
     | some r =>
       obtain⟨n,a⟩:=rJ b;exact rI (n:=n+1) (by simp[rounds,c,a])
     | none =>
       cases d:Loop f s with
       | none=>rfl
       | some r =>
         obtain⟨n,a⟩:=rJ d;cases n with
         | zero=>cases a
         | succ n =>
           simp[rounds,c] at a;rw[rI a] at b;cases b
end
inductive Sh where
 | d (t:Ty)
 | k (v:cB)
 | m (a b:Sh)
def Sh.ty:Sh->Ty
 | .d t=>t
 | .k _=>.unit
 | .m a b=>.pair a.ty b.ty
def KG:List Sel->List Sel->Bool
 | [],[]=>true
 | .gz k o::p,.gz a b::q=>Nat.beq k a&&Nat.beq o b&&KG p q
 | _,_=>false
def KH:List (Nat×Nat)->List (Nat×Nat)->Bool
 | [],[]=>true
 | (a,b)::r,(c,d)::s=>Nat.beq a c&&Nat.beq b d&&KH r s
 | _,_=>false
def W4:∀{p q},KG p q=true->p=q:=by
 intro p;induction p with
 | nil=>intro q h;cases q<;>first|rfl|cases h
 | cons s p a =>
   intro q h;cases s with
   | idx i n=>cases q<;>cases h
   | gz k o =>
     cases q with
     | nil=>cases h
     | cons b q =>
       cases b with
       | idx i n=>cases h
       | gz c d =>
         simp only[KG,gy] at h;rw[iT h.1.1,iT h.1.2,a h.2]
def W5:∀{p q},KH p q=true->p=q:=by
 intro p;induction p with
 | nil=>intro q h;cases q<;>first|rfl|cases h
 | cons s p c =>
   intro q h;obtain⟨a,b⟩:=s;cases q with
   | nil=>cases h
   | cons d q =>
     simp only[KH,gy] at h;rw[iT h.1.1,iT h.1.2,c h.2]
def Fz(V:Nat->Bool->Bool)(d g:St):cB->cB->Bool
 | .ptr b v p,.ptr e a h=>Nat.beq b e&&KG p h&&(bif V b false then(match d.mem b,g.mem b with|some x,ab y=>Nat.beq x.aU v&&Nat.beq y.aU a|_,_=>false) else Nat.beq v a)
 | .whole b v,.whole e a=>Nat.beq b e&&(match d.mem b,g.mem b with|some x,ab y=>Nat.beq x.aU v&&Nat.beq y.aU a&&y.buf|_,_=>false)
 | .fn f c,.fn i j=>Nat.beq f i&&KH c j
 | .uy,.uy=>true
 | .uz,.uz=>true
 | .xO b v,.xO e a=>Nat.beq b e&&Nat.beq v a
 | _,_=>false
def agB:cB->Sh
 | .data t _=>.d t
 | .mix a b=>.m (agB a) (agB b)
 | v=>.k v
def Sh.out(V:Nat->Bool->Bool)(c e:St):(s:Sh)->cB->Option s.ty.den
 | .d t,v=>toD t v
 | .k u,v=>bif Fz V c e u v then ab () else ah
 | .m a b,.mix v w=>match Sh.out V c e a v,Sh.out V c e b w with
   | some x,ab y=>ab (x,y)
   | _,_=>ah
 | .m _ _,_=>ah
def bump(M:Nat->Bool)(V:Nat->Bool->Bool):cB->cB
 | .whole b v=>bif M b&&V b true then .whole b (v+1) else .whole b v
 | .ptr b v p=>bif M b&&V b false then .ptr b (v+1) p else .ptr b v p
 | v=>v
def Sh.pJ(M:Nat->Bool)(V:Nat->Bool->Bool):(s:Sh)->s.ty.den->cB
 | .d t,x=>.data t x
 | .k v,_=>bump M V v
 | .m a b,x=>.mix (a.pJ M V x.1) (b.pJ M V x.2)
structure Lx where
 S:List (Nat×Nat)
 M:List Nat
 fz:Bool
structure FA where
 marks:List (Option Lx)
 aiI:List Nat
structure Carry where
 S:List (Nat×Sh)
 M:List (Nat×Sh×Box)
 V:Nat->Bool->Bool
def tyS:List (Nat×Sh)->Ty
 | []=>.unit
 | (_,s)::r=>.pair s.ty (tyS r)
def tyM:List (Nat×Sh×Box)->Ty
 | []=>.unit
 | (_,s,_)::r=>.pair s.ty (tyM r)
def Carry.ty(c:Carry):Ty:=.pair (tyS c.S) (tyM c.M)
def agC(V:Nat->Bool->Bool)(a b:St):(l:List (Nat×Sh))->Option (tyS l).den
 | []=>ab ()
 | (i,s)::r=>match Sh.out V a b s (b.br i),agC V a b r with
   | some x,ab y=>ab (x,y)
   | _,_=>ah
def IP(c d:Bool)(a b:Box):Bool:=(c||(a.ro==b.ro))&&Nat.beq a.tid b.tid&&(a.buf==b.buf)&&(d||Nat.beq a.aU b.aU)
def agD(V:Nat->Bool->Bool)(d:Bool)(a c:St):(l:List (Nat×Sh×Box))->Option (tyM l).den
 | []=>ab ()
 | (i,s,b)::r=>match c.mem i with
   | some e=>bif IP d (V i b.buf) e b then(match Sh.out V a c s e.val,agD V d a c r with
     | some x,ab y=>ab (x,y)
     | _,_=>ah) else ah
   | none=>ah
def Carry.out(c:Carry)(fz:Bool)(a b:St):Option c.ty.den :=
 match agC c.V a b c.S,agD c.V fz a b c.M with
 | some x,ab y=>ab (x,y)
 | _,_=>ah
def Rv(M:Nat->Bool)(V:Nat->Bool->Bool):(l:List (Nat×Sh))->(tyS l).den->Nat->Option cB
 | [],_,_=>ah
 | (i,s)::r,x,t=>bif Nat.beq t i then ab (s.pJ M V x.1) else Rv M V r x.2 t
def Ly(fz:Bool)(M:Nat->Bool)(V:Nat->Bool->Bool):(l:List (Nat×Sh×Box))->(tyM l).den->Nat->Option Box
 | [],_,_=>ah
 | (i,s,b)::r,x,t=>bif Nat.beq t i then ab { b with val:=s.pJ M V x.1,ro:=b.ro||fz,aU:=bif V t b.buf then b.aU+1 else b.aU } else Ly fz M V r x.2 t
def Du:List (Nat×Sh×Box)->Nat->Bool
 | [],_=>false
 | (i,_,_)::r,t=>Nat.beq t i||Du r t
def Carry.pJ(c:Carry)(fz lock:Bool)(e:List Nat)(a:St)(x:c.ty.den):St :=
 { br:=λt=>match Rv (Du c.M) c.V c.S x.1 t with
    | some v=>v
    | none=>bif dA e t then .undef else a.br t
   mem:=λb=>match Ly fz (Du c.M) c.V c.M x.2 b with
    | some d=>ab d
    | none=>match a.mem b with
      | some d=>ab { d with lk:=d.lk||lock }
      | none=>ah }
def settle:List (Nat×Sh)->St->Option St
 | [],σ=>ab σ
 | (i,.d t)::r,σ=>match BM σ t (σ.br i) with
   | some (x,σ)=>settle r (σ.put i<|.data t x)
   | none=>ah
 | _::r,σ=>settle r σ
def Carry.LA(c:Carry)(fz:Bool)(a b:St):Option c.ty.den :=
 bif fz then(match settle c.S b with
  | some b=>c.out true a b
  | none=>ah)
 else c.out false a b
def Carry.lock(c:Carry)(a:St):St :=
 { a with mem:=λb=>match a.mem b with
  | some d=>ab (bif Du c.M b then d else { d with lk:=true })
  | none=>ah }
def rK:List Oper->List Nat
 | []=>[]
 | o::r=>match o.dst with|some d=>d::rK r|none=>rK r
def writes:Code->List Nat
 | .region _ ops _=>rK ops.toList
 | .seq a b=>writes a++writes b
 | .cond _ a b=>writes a++writes b
 | .block _ a=>writes a
 | .loop a=>writes a
 | .scope a=>writes a
 | _=>[]
def vy:Code->List Nat
 | .seq a b=>vy a++(vy b).filter λe=>!dA (vy a) e
 | .cond _ a b=>vy a++(vy b).filter λe=>!dA (vy a) e
 | .block i a=>(vy a).filter λe=>!Nat.beq e (i+2)
 | .loop a=>vy a
 | .scope a=>vy a
 | .ret=>[1]
 | .exit i=>[i+2]
 | _=>[]
def marks:Code->Nat
 | .seq a b=>marks a+marks b
 | .cond _ a b=>marks a+marks b+1
 | .block _ a=>marks a
 | .loop a=>marks a+1
 | .scope a=>marks a
 | _=>0
def JN:List Nat->Nat->Option Nat
 | [],_=>ah
 | e::r,k=>bif Nat.beq e k then ab 0 else(JN r k).map (·+1)
def W6:List Nat->List Nat->List Nat
 | [],l=>l
 | b::r,l=>bif dA l b then W6 r l else W6 r (l++[b])
section
variable (cx:Ctx)
def mkS(a:St):List (Nat×Nat)->Option (List<|Nat×Sh)
 | []=>ab []
 | (i,ty)::r=>match mkS a r with
   | none=>ah
   | some l=>bif Nat.beq ty 999999 then(match a.br i with
     | .whole b v=>ab ((i,.k (.whole b v))::l)
     | _=>ab l) else match a.br i with
     | .data t _=>ab ((i,.d t)::l)
     | .undef|.pQ=>match find cx.T ty with
       | some t=>ab ((i,.d t)::l)
       | none=>ah
     | v=>ab ((i,.k v)::l)
def CW(a:St):List Nat->List Nat
 | []=>[]
 | b::r=>(match a.mem b with|some d=>(match d.val with|.mix u v=>zg a (.mix u v)|.whole c _=>[c]|.fn f c=>zg a (.fn f c)|_=>[])|none=>[])++CW a r
def Rw(a:St):List Nat->List Nat
 | []=>[]
 | i::r =>
   let b:=zg a (a.br i)
   let c:=CW a b
   let r2:=CW a c
   W6 (b++(c++(r2++CW a r2))) (Rw a r)
def mkM(c:St):List Nat->Option (List<|Nat×Sh×Box)
 | []=>ab []
 | b::r=>match c.mem b,mkM c r with
   | some a,ab l=>bif a.lk then ah else ab ((b,agB a.val,a)::l)
   | _,_=>ah
def aiJ:cB->Option Nat
 | .whole b _=>ab b
 | .part b _ _ _=>ab b
 | _=>ah
def FB:List Nat->St->Option St
 | [],σ=>ab σ
 | m::r,σ=>bif Nat.ble 2000000 m then(match aiJ (σ.br<|m-2000000) with
  | some b=>match σ.mem b with
    | some a=>match a.val with
      | .data (.slice e) _=>match BM σ (.slice e) (σ.br<|m-2000000) with
        | some (x,σ)=>FB r (σ.put (m-2000000)<|.data (.slice e) x)
        | none=>ah
      | _=>ah
    | none=>ah
  | none=>FB r σ) else FB r σ
def aj8(a:Nat)(c:List Nat)(d:St)(b:Nat):Bool:=dA (c.map (a+·)) b&&(match d.mem b with|some x=>!x.buf&&!KC x.val|none=>false)
def KI(d:Nat)(e:List Nat)(a:St)(p:Lx):Option Carry :=
 match mkS cx a p.S,mkM a (Rw a p.M) with
 | some s,ab m=>ab ⟨s,m,λb c=>bif c then !dA p.M 3999999 else aj8 d e a b⟩
 | _,_=>ah
variable (nb:Nat) (bf:List Nat) (inl:Nat->List cB->St->Tree (cB×St))
def FC{a:Type}:List Nat->Nat->(Nat->Tree a)->Tree a
 | [],_,_=>.fail
 | [e],_,f=>f e
 | e::r,i,f=>.node (de i 0) (f e) (FC r (i-1) f)
variable [Lp]
def again{S:Type}(f:S->Tree (Nat×S)):Nat->S->Tree (Nat×S)
 | 0,_=>.fail
 | n+1,s=>(f s).bind λr=>bif Nat.beq r.1 0 then again f n r.2 else .ret r
def W7(p:Lx):Option Nat:=match p.M with
 | [m]=>bif Nat.ble 6000000 m then ab (m-6000000) else ah
 | _=>ah
def Ho(f:St->Tree (Nat×St))(c:Nat):Nat->Nat->St->Tree (Nat×St)
 | 0,_,_=>.fail
 | n+1,j,σ=>match σ.br c with
   | .data (.int .i64) x=>.jG (aS x j) ((f<|σ.put c<|.data (.int .i64) (j:Int)).bind λr=>bif Nat.beq r.1 0 then Ho f c n (j+1) r.2 else .ret r)
   | _=>.fail
def kD:Code->List (Option Lx)->St->Tree (Nat×St)
 | .skip,_,σ=>.ret (0,σ)
 | .label _,_,σ=>.ret (0,σ)
 | .ret,_,σ=>.ret (1,σ)
 | .exit i,_,σ=>.ret (i+2,σ)
 | .region _ ops f,_,σ=>(bif f then zi cx nb bf inl ops σ else Lv cx nb bf inl ops σ).bind λσ=>.ret (0,σ)
 | .seq a b,pl,σ=>(kD a pl σ).bind λr=>bif Nat.beq r.1 0 then kD b (pl.drop<|marks a) r.2 else .ret r
 | .block i a,pl,σ=>(kD a pl σ).bind λr=>.ret (bif Nat.beq r.1 (i+2) then 0 else r.1,r.2)
 | .scope a,pl,σ=>kD a pl σ
 | .cond c a b,pl,σ=>match dw σ c,pl with
   | .data .bool c,none::pl=>.node c (kD a pl σ) (kD b (pl.drop<|marks a) σ)
   | .data .bool c,ab p::pl=>match FB p.M σ with
    | none=>.fail
    | some σ=>match KI cx nb bf σ p with
     | none=>.fail
     | some k =>
       let t:=Tree.node c (kD a pl<|k.lock σ) (kD b (pl.drop<|marks a)<|k.lock σ)
       let wr:=writes a++writes b
       match vy a++(vy b).filter (λe=>!dA (vy a) e) with
       | []=>(t.bind λr=>bif Nat.beq r.1 0 then Tree.adI (k.LA p.fz σ r.2) else .fail).join λx=>.ret (0,k.pJ p.fz false wr σ x)
       | es=>(t.bind λr=>match JN (0::es) r.1,k.LA p.fz σ r.2 with
        | some i,ab x=>.ret (i,x)
        | _,_=>.fail).join λx=>FC (0::es) x.1 λe=>.ret (e,k.pJ p.fz false wr σ x.2)
   | _,_=>.fail
 | .loop a,pl,σ=>match pl with
   | some p::pl=>match W7 p with
    | some c=>Ho (λσ=>kD a pl σ) c 100 0 σ
    | none=>match FB p.M σ with
    | none=>.fail
    | some σ=>match KI cx nb bf σ p with
     | none=>.fail
     | some k=>match k.out false σ σ with
       | none=>.fail
       | some d =>
         let wr:=writes a
         let es:=vy a
         let body (x:k.ty.den):Option (k.ty.den⊕(Nat×k.ty.den)):=((kD a pl<|k.pJ false true wr σ x).bind λr=>bif Nat.beq r.1 0 then(match k.out false σ r.2 with
           | some y=>.ret (.inl y)
           | none=>.fail)
          else match JN es r.1,k.LA p.fz σ r.2 with
           | some i,ab y=>.ret (.inr (i,y))
           | _,_=>.fail).run
         match es with
         | [e]=>.look (Loop (λx=>dq (body x)) d) λx=>.ret (e,k.pJ p.fz false wr σ x)
         | es=>.look (Loop body d) λx=>FC es x.1 λe=>.ret (e,k.pJ p.fz false wr σ x.2)
   | none::pl=>again (λσ=>kD a pl σ) 100000 σ
   | _=>.fail
 | _,_,_=>.fail
end
variable [Lp]
def pS(mem:Nat->Option Box)(a:List cB):St:={ br:=λt=>(a[t]?).getD .undef,mem }
def Hp(c:Ctx)(b:St):ResultVar->Tree cB
 | .tmp t=>.ret (b.br t)
 | .cell a ty=>(mA c (ab 0) ty (b.br a) b).bind λτ=>.ret (τ.br 0)
def FD(a:Ctx)(b:St):List ResultVar->Tree cB
 | []=>.ret .nl
 | r::rs=>(Hp a b r).bind λv=>(FD a b rs).bind λl=>.ret (.mix v l)
def results1(a:Ctx)(b:St):List ResultVar->Tree cB
 | [r]=>Hp a b r
 | rs=>(FD a b rs).bind λl=>.ret (.BF l)
def lQ(mem:Nat->Option Box):St:={ br:=λ_=>.undef,mem }
def aij(a:Ctx):List TypeId->Option (List Ty)
 | []=>ab []
 | t::r=>match find a.T t,aij a r with
   | some u,ab l=>ab (u::l)
   | _,_=>ah
def adS(b:Ctx)(a:List TypeId):List Nat->Option (Bool×List Ty)
 | []=>ah
 | m::r=>bif Nat.ble 7000000 m&&Nat.ble m 7999999 then(bif Nat.beq m 7999999 then(aij b a).map λl=>(true,l) else(find b.T<|m-7000000).map λR=>(false,[R])) else adS b a r
def spread(a:Bool)(v:cB):Nat->cB :=
 match a,v with
 | false,v=>λt=>bif Nat.beq t 0 then v else .undef
 | true,.BF m=>λt=>match nth m t with|some u=>u|none=>.undef
 | true,_=>λ_=>.undef
def Rx:cB->Nat
 | .mix _ b=>Rx b+1
 | _=>0
def Ue(a:Bool)(v:cB)(n:Nat):Bool :=
 match a,v with
 | false,_=>Nat.beq n 1
 | true,.BF m=>Nat.beq (Rx m) n
 | true,_=>false
def aiK(a:Nat->cB):Nat->Nat->cB
 | _,0=>.nl
 | i,n+1=>.mix (a i) (aiK a (i+1) n)
def Ry(b:Bool)(n:Nat)(a:Nat->cB):cB :=
 match b with
 | false=>a 0
 | true=>.BF (aiK a 0 n)
def adT(a:Bool)(v:cB)(mem:Nat->Option Box):St:={ br:=spread a v,mem }
def ZJ:List Ty->Nat->List (Nat×Sh)
 | [],_=>[]
 | t::r,i=>(i,.d t)::ZJ r (i+1)
def aiL:cB->cB
 | .whole _ _=>.undef
 | v=>v
def ZK(R:Bool×List Ty)(args:List cB)(a:Nat->Option Box)(F:(Nat->Option Box)->Tree (cB×(Nat->Option Box))):Tree (cB×(Nat->Option Box)) :=
 match mkM (lQ a) (Rw (pS a<|args.map aiL)<|List.range args.length) with
 | none=>.fail
 | some m =>
   let k:Carry:=⟨ZJ R.2 0,m,λ_ b=>b⟩
   let wr:=List.range R.2.length
   ((F (k.lock<|lQ a).mem).bind λr=>bif Ue R.1 r.1 R.2.length then Tree.adI (k.out false (lQ a)<|adT R.1 r.1 r.2) else .fail).join λx =>
    .ret (Ry R.1 R.2.length (k.pJ false false wr (lQ a) x).br,(k.pJ false false wr (lQ a) x).mem)
def LB(d:Ctx)(e:Nat)(p:FA)(inl:Nat->List cB->St->Tree (cB×St))(f:Func)(c:Code)(a:List cB)(b:Nat->Option Box):Tree (cB×(Nat->Option Box)) :=
 (kD d e p.aiI inl c p.marks<|pS b a).bind λr =>
  bif Nat.beq r.1 0||Nat.beq r.1 1 then(results1 d r.2 f.results.toList).bind λv=>.ret (v,r.2.mem) else .fail
def FE(a:Ctx):Nat->(nb:Nat)->(fF:Nat->FA)->Nat->List cB->(Nat->Option Box)->Tree (cB×(Nat->Option Box))
 | 0,_,_,_,_,_=>.fail
 | n+1,nb,fF,f,args,mem=>match find a.fns f with
   | some fn=>match fn.body with
     | some c=>match adS a fn.resultTypes.toList (fF f).aiI with
       | none=>LB a nb (fF f) (λg b σ=>(FE a n ((nb+g+1)*1000) fF g b σ.mem).bind λr=>.ret (r.1,{ σ with mem:=r.2 })) fn c args mem
       | some R=>ZK R args mem (LB a nb (fF f) (λg b σ=>(FE a n ((nb+g+1)*1000) fF g b σ.mem).bind λr=>.ret (r.1,{ σ with mem:=r.2 })) fn c args)
     | none=>.fail
   | none=>.fail
def LC:(A:Ty)->A.den->List cB
 | .pair t r,x=>.data t x.1::LC r x.2
 | _,_=>[]
def FF:cB->List cB
 | .mix a b=>a::FF b
 | _=>[]
def FG:(R:Ty)->cB->List cB
 | .pair _ .unit,v=>[v]
 | _,.BF v=>FF v
 | _,v=>[v]
def l4(k:Nat):Nat:=777000000+k
def IQ:List Bool->(A U:Ty)->A.den->Nat->List cB
 | [],_,_,_,_=>[]
 | false::ps,A,U,x,k=>match A,x with
   | .pair t A,x=>.data t x.1::IQ ps A U x.2 k
   | _,_=>[]
 | true::ps,A,U,x,k=>match U with
   | .pair _ U=>.ptr (l4 k) 0 []::IQ ps A U x (k+1)
   | _=>[]
def Ow:(U:Ty)->U.den->Nat->Nat->Option Box
 | .pair t U,u,k,b=>bif Nat.beq b (l4 k) then ab { val:=.data t u.1,tid:=0,buf:=false,ro:=false,lk:=false,aU:=0 } else Ow U u.2 (k+1) b
 | _,_,_,_=>ah
def Uf(a:Nat->Option Box):(U:Ty)->Nat->Option U.den
 | .pair t U,k=>match a (l4 k) with
   | some b=>bif Nat.beq b.aU 0&&!b.buf&&!b.ro then(match toS t b.val,Uf a U (k+1) with
     | some x,ab u=>ab (x,u)
     | _,_=>ah) else ah
   | none=>ah
 | .unit,_=>ab ()
 | _,_=>ah
def adU(b:Ctx)(n:Nat)(a:Nat->FA)(f:Nat)(c:List Bool)(A U R:Ty)(x:A.den×U.den):Option (R.den×U.den) :=
 ((FE b n 0 a f (IQ c A U x.1 0)<|Ow U x.2 0).bind λr=>match lY (lQ r.2) R (FG R r.1) with
  | some (y,σ)=>(match Uf σ.mem U 0 with
    | some u=>.ret (y,u)
    | none=>.fail)
  | none=>.fail).run
def sem(b:Ctx)(n:Nat)(a:Nat->FA)(f:Nat)(A R:Ty)(x:A.den):Option R.den :=
 ((FE b n 0 a f (LC A x) λ_=>ah).bind λr=>match jr (lQ r.2) R (FG R r.1) with
  | some y=>.ret y
  | none=>.fail).run
end Go.Ge
namespace Go.Ge
structure Gh where
 I:Nat->Nat->Prop
 loc:Nat->Option (Nat×Nat)
def cY(t:Ty)(cs:List Value):Value:=bif t.isAgg then .agg cs.toArray else cs.headD undef
def bY(w:World)(I:Nat->Nat->Prop):(t:Ty)->t.den->List Value->Prop
 | .int k,n,cs=>cs=[.int k n]/\k.min<=(show Int from n)/\(show Int from n)<=k.max
 | .bool,b,cs=>cs=[.bool b]
 | .str,s,cs=>cs=[.string ⟨List.toArray (α:=UInt8) s⟩]/\List.length (α:=UInt8) s<=maxLen
 | .slice e,l,cs=>((∃base,cs=[.slice base 0 0])/\l=([]:List e.den)) \/
  ∃d off f,cs=[.slice (ab ⟨d,off,ah⟩) (List.length (α:=e.den) l) f]/\List.length (α:=e.den) l<=f/\f<=maxLen /\
   ∀(i:Nat) (x:e.den),(show List e.den from l)[i]?=ab x->∃es:List Value,es.length=e.size /\
    (∀(j:Nat) v,es[j]?=ab v->w.cell? ⟨d,off+i*e.size+j,ah⟩=ab v/\I d (off+i*e.size+j))/\bY w I e x es
 | .arr n e,l,cs=>List.length (α:=e.den) l=n/\cs.length=n*e.size /\
  ∀(i:Nat) (x:e.den),(show List e.den from l)[i]?=ab x->bY w I e x ((cs.drop<|i*e.size).take e.size)
 | .pair a b,x,cs=>∃g h,cs=g++h/\bY w I a x.1 g/\bY w I b x.2 h
 | .unit,_,cs=>cs=[]
 | .alt u a r,x,cs=>match(show a.den⊕r.den from x) with
   | .inl y=>r.size=1/\∃c,cs=[.iface u<|cY a c]/\bY w I a y c
   | .inr z=>bY w I r z cs
 | .Bz,_,cs=>cs=[.nilIface]
def bY.length{w I}:∀{t x cs},bY w I t x cs->cs.length=t.size:=by
 intro t;induction t with
 | int k=>intro x cs h;rw[h.1];rfl
 | bool=>intro x cs h;rw[h];rfl
 | str=>intro x cs h;rw[h.1];rfl
 | slice e j=>intro x cs h;rcases h with ⟨⟨_,h⟩,_⟩|⟨_,_,_,h,_⟩<;>rw[h]<;>rfl
 | arr n e j=>intro x cs h;exact h.2.1
 | pair a b d f=>intro x cs h;obtain⟨m,o,rfl,g,l⟩:=h;rw[jB,d g,f l];rfl
 | unit=>intro x cs h;rw[h];rfl
 | alt u a r d i =>
   intro x cs h;rcases x with y|z
   .obtain⟨g,c,rfl,_⟩:=h;exact g.symm
   .exact i h
 | Bz=>intro x cs h;rw[show cs=_ from h];rfl
def bY.mono{w w' I I'}(C:∀b o,I b o->I' b o)(D:∀b o,I b o->w'.cell? ⟨b,o,ah⟩=w.cell? ⟨b,o,ah⟩) :
  ∀{t x cs},bY w I t x cs->bY w' I' t x cs:=by
 intro t;induction t with
 | int k=>intro x cs h;exact h
 | bool=>intro x cs h;exact h
 | str=>intro x cs h;exact h
 | slice e q =>
   intro x cs h;rcases h with h|⟨blk,off,j,f,g,l,E⟩
   .exact .inl h
   .refine .inr ⟨blk,off,j,f,g,l,λi y s=>?_⟩
    grind
 | arr n e q=>intro x cs h;exact⟨h.1,h.2.1,λi y s=>q (h.2.2 i y s)⟩
 | pair a b d m=>intro x cs h;obtain⟨v,A,B,f,g⟩:=h;exact⟨v,A,B,d f,m g⟩
 | unit=>intro x cs h;exact h
 | alt u a r d p =>
   intro x cs h;rcases x with y|z
   .obtain⟨f,c,g,l⟩:=h;exact⟨f,c,g,d l⟩
   .exact p h
 | Bz=>intro x cs h;exact h
def bY.one{w I}:∀{t x cs},bY w I t x cs->∀v∈cs,v.oneCell'=true:=by
 intro t;induction t with
 | int k=>intro x cs h v d;rw[h.1] at d;simp at d;subst d;rfl
 | bool=>intro x cs h v d;rw[h] at d;simp at d;subst d;rfl
 | str=>intro x cs h v d;rw[h.1] at d;simp at d;subst d;rfl
 | slice e j=>intro x cs h v d;rcases h with ⟨⟨_,h⟩,_⟩|⟨_,_,_,h,_⟩<;>rw[h] at d<;>simp at d<;>subst d<;>rfl
 | arr n e j =>
   intro x cs h v d;obtain⟨f,o,l⟩:=h;obtain⟨k,B,p⟩:=adl d;have m:0<e.size:=by
    grind
   have hx:∃y,(show List e.den from x)[k / e.size]?=ab y:=⟨_,ik (by rw[f];exact(by rw[Zn m];omega))⟩;obtain⟨y,q⟩:=hx;refine j (l _ y q) v ?_;have C:=A1 k m;have s:k / e.size*e.size+k % e.size=k:=by rw[T2];exact TZ k e.size
   have:((cs.drop<|k / e.size*e.size).take e.size)[k % e.size]?=ab v:=by
    grind
   grind
 | pair a b g A =>
   intro x cs h v d;obtain⟨D,E,rfl,f,o⟩:=h
   grind
 | unit=>intro x cs h v d;rw[h] at d;cases d
 | alt u a r g i =>
   intro x cs h v d;rcases x with y|z
   .obtain⟨f,c,rfl,l⟩:=h;simp at d;subst d;rfl
   .exact i h v d
 | Bz=>intro x cs h v d;rw[show cs=_ from h] at d;simp at d;subst d;rfl
def tH{w I}:∀{t x cs},bY w I t x cs->(cY t cs).cells.toList=cs:=by
 intro t;induction t with
 | int k=>intro x cs h;rw[h.1];rfl
 | bool=>intro x cs h;rw[h];rfl
 | str=>intro x cs h;rw[h.1];rfl
 | slice e=>intro x cs h;rcases h with ⟨⟨_,h⟩,_⟩|⟨_,_,_,h,_⟩<;>rw[h]<;>rfl
 | arr n e=>intro x cs h;rfl
 | pair a b=>intro x cs h;rfl
 | unit=>intro x cs h;rfl
 | alt u a r f d =>
   intro x cs h;rcases x with y|z
   .obtain⟨g,c,rfl,i⟩:=h;unfold cY Ty.isAgg;cases r.isAgg<;>rfl
   .exact d h
 | Bz=>intro x cs h;rw[show cs=_ from h];rfl
inductive Mode where
 | cells|val|many
def wM(a:Option Addr)(b:Nat):Prop:=b=0\/∃c d,a=ab ⟨c,d,ah⟩
def eC:List Sel->Nat
 | []=>0
 | .gz _ off::p=>off+eC p
 | .idx i size::p=>i.toNat*size+eC p
def BS p q:eC (p++q)=eC p+eC q:=by
 induction p with
 | nil=>simp[eC]
 | cons s p a=>cases s<;>simp[eC]<;>omega
section
variable (γ:Gh) (mem:Nat->Option Box) (w:World)
def FH(e:Box)(b:Nat)(f:Int)(a:Option Addr)(c:Nat):Prop:=f=0->e.buf=true->(γ.loc b=ah/\a=ah/\c=0)\/∃d,γ.loc b=ab (d,c)/\a=ab ⟨d,0,ah⟩
def FI(I:Nat->Nat->Prop)(a b:Nat)(c:List Value):Prop:=∀(j:Nat) v,c[j]?=ab v->w.cell? ⟨a,b+j,ah⟩=ab v/\I a (b+j)
def nU(b a:Nat)(K:Box->Prop):Prop:=∃c,mem b=ab c/\a<=c.aU/\(c.aU=a->K c)
def cM:cB->Mode->List Value->Prop
 | .undef,.val,vs=>∃v,vs=[v]
 | .undef,.cells,vs=>∃v,vs=[v]/\v.oneCell'=true
 | .undef,.many,_=>False
 | .data t x,.cells,vs=>bY w γ.I t x vs
 | .data t x,.val,vs=>∃cs,bY w γ.I t x cs/\vs=[cY t cs]
 | .data _ _,.many,_=>False
 | .mix a b,.cells,vs=>∃m o,vs=m++o/\cM a .cells m/\cM b .cells o
 | .mix a b,.val,vs=>∃m o,vs=[.agg (m++o).toArray]/\cM a .cells m/\cM b .cells o
 | .mix a b,.many,vs=>∃v r,vs=v::r/\cM a .val [v]/\cM b .many r
 | .nl,.many,vs=>vs=[]
 | .nl,_,_=>False
 | .BF u,.val,vs=>∃j:Array Value,vs=[.tuple j]/\cM u .many j.toList
 | .BF _,_,_=>False
 | .uy,.many,_=>False
 | .uy,_,vs=>vs=[.pointer ah]
 | .uz,.many,_=>False
 | .uz,_,vs=>vs=[.nilIface]
 | .xO _ _,.many,_=>False
 | .xO b aU,_,vs=>(∃v,vs=[v]/\v.oneCell'=true)/\nU mem b aU λ_=>∃d g,γ.loc b=ab (d,g)/\(vs=[.pointer ah]\/vs=[.pointer<|some ⟨d,0,ah⟩])
 | .pQ,.many,_=>False
 | .pQ,_,vs=>vs=[.slice ah 0 0]
 | .cell _ _,.many,_=>False
 | .cell t x,_,vs=>∃d off cs,vs=[.pointer<|some ⟨d,off,ah⟩]/\bY w γ.I t x cs/\FI w γ.I d off cs
 | .ptr _ _ _,.many,_=>False
 | .ptr b aU p,_,vs=>(∃v,vs=[v]/\v.oneCell'=true)/\nU mem b aU λ_=>∃d g,γ.loc b=ab (d,g)/\vs=[.pointer<|some ⟨d,eC p,ah⟩]
 | .whole _ _,.many,_=>False
 | .whole b aU,_,vs=>(∃v,vs=[v]/\v.oneCell'=true)/\nU mem b aU λbx=>∃e n,bx.buf=true/\bx.row=ab (e,n) /\
  ((γ.loc b=ah/\vs=[.slice ah 0 0])\/∃d g,γ.loc b=ab (d,g)/\vs=[.slice (ab ⟨d,0,ah⟩) n g])
 | .part _ _ _ _,.many,_=>False
 | .part b aU lo n,_,vs=>(∃v,vs=[v]/\v.oneCell'=true)/\nU mem b aU λbx=>∃e k,bx.row=ab (e,k)/\0<=lo/\0<=n/\lo+n<=k /\
  ∃h g,vs=[.slice h n.toNat g]/\n.toNat<=g/\g<=maxLen/\(wM h g/\FH γ bx b lo h g)/\(n=0\/∃d c,γ.loc b=ab (d,c)/\h=ab ⟨d,lo.toNat*e.size,ah⟩)
 | .win _ _ _ _ _ _ _,.many,_=>False
 | .win b aU q e k lo n,_,vs=>(∃v,vs=[v]/\v.oneCell'=true)/\nU mem b aU λ_=>q≠[]/\∃d c,γ.loc b=ab (d,c)/\0<=lo/\0<=n/\lo+n<=k /\
  ∃h g,vs=[.slice h n.toNat g]/\n.toNat<=g/\(n=0\/h=ab ⟨d,eC q+lo.toNat*e.size,ah⟩)
 | .fn _ _,.many,_=>False
 | .fn f l,_,vs=>∃j:Array Value,vs=[.func (.func f) #[] j]/\j.size=l.length /\
  ∀(i:Nat) b aU,l[i]?=ab (b,aU)->nU mem b aU λ_=>∃d g,γ.loc b=ab (d,g)/\j[i]?=ab (.pointer<|some ⟨d,0,ah⟩)
def nV(b:Array Value)(c:Nat×Nat):Prop:=∀a,a<b.size->¬(c.1<=a/\a<c.2)
def Ty.isInt:Ty->Bool
 | .int _=>true
 | _=>false
structure ThB (e:Ty) (cur:Array Value) (fr:Nat×Nat):Prop where
 th:nV cur fr
 um:e.isInt=false->¬(fr.1<=cur.size/\cur.size<fr.2)
def fj(b:Nat)(bx:Box):Prop :=
 match bx.buf with
 | true=>∃(e:Ty) (l:List e.den),bx.val=.data (.slice e) l/\0<e.size /\
  ((γ.loc b=ah/\l=[])\/∃d c a tid f,γ.loc b=ab (d,c)/\w.heap[d]?=ab (.cells a tid f)/\ThB e a f/\(bx.tid=0\/tid=bx.tid)/\l.length<=c/\c<=maxLen /\
   a.size=c*e.size/\∀(i:Nat) (x:e.den),l[i]?=ab x->bY w γ.I e x ((a.toList.drop<|i*e.size).take e.size))
 | false=>∃d c a tid f,γ.loc b=ab (d,c)/\w.heap[d]?=ab (.cells a tid f)/\nV a f/\(bx.tid=0\/tid=bx.tid)/\cM γ mem w bx.val .cells a.toList
end
def W9(a:Box):Nat->Prop:=λb=>a.ro=true/\(a.buf=true->∀e n,a.row=ab (e,n)->b<n*e.size)
abbrev BT:=Nat->(Obj->Prop)->Prop
def xR:BT:=λ_ _=>False
def Hq(G:BT)(w:World):Prop:=∀b Q,G b Q->∃o,w.heap[b]?=ab o/\Q o
structure BA where
 lo:Nat
 X:Nat->Prop
 G:BT
def BA.has(B:BA)(k:Nat):Prop:=B.lo<=k\/B.X k
def oJ(G:BT)(n:Nat):BA:=⟨n,λ_=>False,G⟩
def BA.new{B:BA}{n}(h:B.lo<=n):B.has n:=.inl h
def rL{G n k}:(oJ G n).has k↔n<=k:=⟨λh=>h.elim id False.elim,.inl⟩
structure wE (B:BA) (w w':World):Prop where
 os:w'.os=w.os
 tape:w'.tape=w.tape
 output:w'.output=w.output
 size:w.heap.size<=w'.heap.size
 block:∀k,¬B.has k->w'.heap[k]?=w.heap[k]?
def wE.refl B w:wE B w w:=⟨rfl,rfl,rfl,cp _,λ_ _=>rfl⟩
def wE.trans{B a b c}(h:wE B a b)(k:wE B b c):wE B a c :=
 ⟨k.os.trans h.os,k.tape.trans h.tape,k.output.trans h.output,iU h.size k.size,λi d=>(k.block i d).trans (h.block i d)⟩
def wE.of{B w w'}(h:RowKit.Below B.lo w w'):wE B w w':=⟨h.os,h.tape,h.output,h.size,λk a=>h.block k (Zw λq=>a (.inl q))⟩
def wE.below{G n w w'}(h:wE (oJ G n) w w'):RowKit.Below n w w':=⟨h.os,h.tape,h.output,h.size,λk a=>h.block k λq=>by have:=rL.1 q;omega⟩
def wE.drew{B a w}(h:wE B a w):wE B a w.drew:=⟨h.os,h.tape,h.output,h.size,h.block⟩
def wE.alloc{B a w}(h:wE B a w)(b:B.lo<=w.heap.size) o:wE B a (w.alloc o):=h.trans (.of<|(RowKit.Below.refl _ _).alloc b o)
structure bM (B:BA) (γ:Gh) (mem:Nat->Option Box) (w:World):Prop where
 base:B.lo<=w.heap.size
 boxes:∀b bx,mem b=ab bx->fj γ mem w b bx
 inj:∀b c blk k k',mem b≠ah->mem c≠ah->γ.loc b=ab (blk,k)->γ.loc c=ab (blk,k')->b=c
 fresh:∀b blk k,mem b≠ah->γ.loc b=ab (blk,k)->B.has blk/\blk<w.heap.size
 vz:∀blk off,γ.I blk off->blk<w.heap.size
 sep:∀b bx blk k off,mem b=ab bx->γ.loc b=ab (blk,k)->γ.I blk off->W9 bx off
 dv:∀b Q,B.G b Q->¬B.has b/\∃o,w.heap[b]?=ab o/\Q o
structure dJ (B:BA) (N:Nat) (γ:Gh) (σ:St) (a:Act) (w:World):Prop where
 br:∀t,cM γ σ.mem w (σ.br t) .val [a.tmps.getD t undef]
 size:a.tmps.size=N
 defers:a.defers=[]
 ok:bM B γ σ.mem w
structure Ext (B:BA) (γ:Gh) (mem:Nat->Option Box) (w:World) (bJ:Gh) (cT:Nat->Option Box) (w':World):Prop where
 below:wE B w w'
 I:∀b o,γ.I b o->bJ.I b o
 rM:∀b o,bJ.I b o->γ.I b o\/B.has b
 cells:∀b o,γ.I b o->w'.cell? ⟨b,o,ah⟩=w.cell? ⟨b,o,ah⟩
 boxes:∀b bx,mem b=ab bx->∃u6,cT b=ab u6/\bx.aU<=u6.aU/\(u6.aU=bx.aU->bJ.loc b=γ.loc b/\u6.buf=bx.buf/\u6.row=bx.row)
def bM.FJ{B γ bJ mem cT w w'}(h:bM B γ mem w)(x:Ext B γ mem w bJ cT w'):∀b Q,B.G b Q->¬B.has b/\∃o,w'.heap[b]?=ab o/\Q o:=λb Q g=>by
 obtain⟨i,o,c,q⟩:=h.dv b Q g;exact⟨i,o,(x.below.block b i).trans c,q⟩
def bM.Rz{B γ mem w}(h:bM B γ mem w):Hq B.G w:=λb Q g=>(h.dv b Q g).2
def Ext.refl B γ mem w:Ext B γ mem w γ mem w :=
 ⟨wE.refl _ _,λ_ _ h=>h,λ_ _ h=>.inl h,λ_ _ _=>rfl,λb bx h=>⟨bx,h,cp _,λ_=>⟨rfl,rfl,rfl⟩⟩⟩
def Ext.trans{B γ bJ c mem cT a w w' d}(h:Ext B γ mem w bJ cT w')(k:Ext B bJ cT w' c a d) :
  Ext B γ mem w c a d where
 below:=h.below.trans k.below
 I:=λb o x=>k.I _ _ (h.I _ _ x)
 rM:=λb o x=>by
  rcases k.rM b o x with y|y
  .exact h.rM b o y
  .grind
 cells:=λb o x=>(k.cells _ _<|h.I _ _ x).trans (h.cells _ _ x)
 boxes:=λb bx x=>by
  obtain⟨u6,f,g,i⟩:=h.boxes b bx x;obtain⟨e,j,l,m⟩:=k.boxes b u6 f
  grind
def nU.ext{B γ bJ mem cT w w'}(h:Ext B γ mem w bJ cT w'){b aU K c}(d:nU mem b aU K)
  (k:∀a u6,mem b=ab a->cT b=ab u6->bJ.loc b=γ.loc b->u6.buf=a.buf->u6.row=a.row->K a->c u6):nU cT b aU c:=by
 obtain⟨a,f,g,l⟩:=d;obtain⟨u6,i,j,m⟩:=h.boxes b a f;refine⟨u6,i,iU g j,λe=>?_⟩
 grind
def FI.ext{w w' I I'}(c:∀b o,I b o->I' b o)(d:∀b o,I b o->w'.cell? ⟨b,o,ah⟩=w.cell? ⟨b,o,ah⟩){blk off cs}
  (h:FI w I blk off cs):FI w' I' blk off cs :=
 λj v e=>by obtain⟨a,b⟩:=h j v e;exact⟨by rw[d _ _ b];exact a,c _ _ b⟩
def cM.ext{B γ bJ mem cT w w'}(h:Ext B γ mem w bJ cT w'):∀{v m vs},cM γ mem w v m vs->cM bJ cT w' v m vs:=by
 intro v;induction v with
 | undef=>intro m vs r;cases m<;>exact r
 | data t x =>
   intro m vs r;cases m with
   | cells=>exact bY.mono h.I h.cells r
   | val=>obtain⟨E,d,g⟩:=r;exact⟨E,bY.mono h.I h.cells d,g⟩
   | many=>exact r
 | pQ=>intro m vs r;cases m<;>exact r
 | uy=>intro m vs r;cases m<;>exact r
 | uz=>intro m vs r;cases m<;>exact r
 | xO b aU =>
   intro m vs r;cases m with
   | many=>exact r
   | cells=>exact⟨r.1,r.2.ext h λj u6 _ _ c _ _ k=>by rw[c];exact k⟩
   | val=>exact⟨r.1,r.2.ext h λj u6 _ _ c _ _ k=>by rw[c];exact k⟩
 | cell t x =>
   intro m vs r;cases m with
   | many=>exact r
   | cells=>obtain⟨o,s,E,d,g,y⟩:=r;exact⟨o,s,E,d,bY.mono h.I h.cells g,y.ext h.I h.cells⟩
   | val=>obtain⟨o,s,E,d,g,y⟩:=r;exact⟨o,s,E,d,bY.mono h.I h.cells g,y.ext h.I h.cells⟩
 | ptr b aU p =>
   intro m vs r;cases m with
   | many=>exact r
   | cells=>exact⟨r.1,r.2.ext h λj u6 _ _ c _ _ k=>by rw[c];exact k⟩
   | val=>exact⟨r.1,r.2.ext h λj u6 _ _ c _ _ k=>by rw[c];exact k⟩
 | whole b aU =>
   intro m vs r;cases m with
   | many=>exact r
   | cells=>exact⟨r.1,r.2.ext h λj u6 _ _ c z A k=>by rw[c,z,A];exact k⟩
   | val=>exact⟨r.1,r.2.ext h λj u6 _ _ c z A k=>by rw[c,z,A];exact k⟩
 | part b aU lo n =>
   intro m vs r;cases m with
   | many=>exact r
   | cells=>exact⟨r.1,r.2.ext h λj u6 _ _ c z A k=>by unfold FH at k⊢;rw[c,z,A];exact k⟩
   | val=>exact⟨r.1,r.2.ext h λj u6 _ _ c z A k=>by unfold FH at k⊢;rw[c,z,A];exact k⟩
 | win b aU q e k lo n =>
   intro m vs r;cases m with
   | many=>exact r
   | cells=>exact⟨r.1,r.2.ext h λj u6 _ _ c _ _ k=>by rw[c];exact k⟩
   | val=>exact⟨r.1,r.2.ext h λj u6 _ _ c _ _ k=>by rw[c];exact k⟩
 | fn f K =>
   intro m vs r;cases m with
   | many=>exact r
   | cells=>obtain⟨l,d,g,y⟩:=r;exact⟨l,d,g,λi b aU J=>(y i b aU J).ext h λj u6 _ _ c _ _ k=>by rw[c];exact k⟩
   | val=>obtain⟨l,d,g,y⟩:=r;exact⟨l,d,g,λi b aU J=>(y i b aU J).ext h λj u6 _ _ c _ _ k=>by rw[c];exact k⟩
 | mix a b C D =>
   intro m vs r;cases m with
   | cells=>obtain⟨F,G,H,d,g⟩:=r;exact⟨F,G,H,C d,D g⟩
   | val=>obtain⟨F,G,H,d,g⟩:=r;exact⟨F,G,H,C d,D g⟩
   | many=>obtain⟨F,G,H,d,g⟩:=r;exact⟨F,G,H,C d,D g⟩
 | BF u L =>
   intro m vs r;cases m with
   | val=>obtain⟨l,d,g⟩:=r;exact⟨l,d,L g⟩
   | cells=>exact r
   | many=>exact r
 | nl=>intro m vs r;cases m<;>exact r
end Go.Ge
