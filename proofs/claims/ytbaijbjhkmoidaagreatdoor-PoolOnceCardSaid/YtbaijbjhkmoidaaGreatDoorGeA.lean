/- A ghost interpreter of the model's code, and that it tells the truth: part 1. It says of a function of plain data what a call of it comes to. -/
import Derived.WalkKit
set_option linter.unusedVariables false
set_option linter.unusedSectionVars false
set_option linter.unusedSimpArgs false
abbrev aE:=List UInt8
abbrev ah:=Unit
abbrev aq:=@Option.some.inj
abbrev cG:=@Nat.eq_of_beq_eq_true
abbrev cA:=@Bool.and_eq_true
abbrev b8:=@Prod.mk.inj
abbrev nP:=@List.getElem?_eq_getElem
abbrev l9:=@List.length_append
abbrev pY:=@List.head_eq_of_cons_eq
abbrev lW:=@List.mem_append
abbrev pR:=@List.mem_append_right
abbrev sE:=@List.getElem?_eq_some_iff
abbrev cd:=@cond_true
abbrev fO:=@Bool.not_eq_true'
abbrev fj:=@List.length_take
abbrev iw:=@List.mem_append_left
abbrev cU:=@Nat.le_refl
abbrev gD:=@List.mem_singleton
abbrev bp:=@if_neg
abbrev gA:=@List.length_cons
abbrev eR:=@List.mem_cons
abbrev bH:=@if_pos
abbrev kJ:=@List.mem_cons_of_mem
abbrev fY:=@List.map_cons
abbrev lz:=@Nat.mul_le_mul_right
abbrev oc:=@Array.getElem?_eq_some_iff
abbrev j7:=@Option.some.injEq
abbrev kK:=@List.getElem?_take
abbrev kQ:=@List.mem_cons_self
abbrev fk:=@cond_false
abbrev iA:=@Nat.le_trans
abbrev mj:=@List.append_assoc
abbrev od:=@List.mem_of_getElem?
abbrev pS:=@Option.map_eq_some_iff
abbrev pZ:=@Option.bind_eq_some_iff
abbrev mJ:=@List.length_drop
abbrev p4:=@List.length_singleton
abbrev jO:=@Nat.zero_le
abbrev kL:=@Nat.zero_add
abbrev ni:=@List.length_nil
abbrev pT:=@List.getElem?_drop
abbrev rT:=@Nat.le_of_ble_eq_true
abbrev sG:=@List.take_of_length_le
abbrev lY:=@List.mem_map
abbrev tY:=@List.length_eq_zero_iff
abbrev rp:=@Nat.lt_of_lt_of_le
abbrev oY:=@List.map_append
abbrev oe:=@decide_eq_true
abbrev oZ:=@List.drop_drop
abbrev p5:=@List.length_map
abbrev vt:=@List.take_append_drop
abbrev sH:=@List.getElem?_map
abbrev rU:=@List.nil_append
abbrev jr:=@if_true
abbrev wD:=@Bool.or_eq_false_iff
abbrev rV:=@List.drop_left
abbrev sI:=@Option.map_some
abbrev o0:=@Nat.add_mul
abbrev tZ:=@List.all_eq_true
abbrev p6:=@Nat.succ_mul
abbrev Ct:=@List.getElem?_append_left
abbrev ua:=@List.append_nil
abbrev ub:=@Nat.min_eq_left
abbrev uc:=@decide_eq_false
abbrev rq:=@Nat.add_zero
abbrev Cu:=@Option.isSome_iff_exists
abbrev Hc:=@List.take_succ_eq_append_getElem
abbrev Eo:=@Array.getD_eq_getD_getElem?
abbrev wE:=@List.nodup_append
abbrev Ep:=@List.getElem?_append_right
abbrev Es:=@List.getD_eq_getElem?_getD
abbrev wF:=@List.cons_append
abbrev yV:=@decide_eq_true_eq
abbrev yW:=@of_decide_eq_true
abbrev ud:=@Nat.add_assoc
abbrev wG:=@Bool.or_eq_true
abbrev wH:=@List.nodup_cons
abbrev yX:=@Array.toList_inj
abbrev ue:=@Nat.lt_or_ge
abbrev uf:=@Nat.beq_refl
abbrev AN:=@List.getElem?_set
abbrev AO:=@Int.toNat_natCast
abbrev Cv:=@List.map_congr_left
abbrev yY:=@List.cons.injEq
abbrev I0:=@List.drop_append_of_le_length
abbrev I3:=@List.eq_nil_of_length_eq_zero
abbrev AP:=@Option.bind_some
abbrev Cw:=@List.ext_getElem?
abbrev He:=@Classical.choose_spec
abbrev Et:=@Bool.false_eq_true
abbrev Hf:=@List.getElem?_eq_none
abbrev yZ:=@Nat.le_of_eq
abbrev Hg:=@Array.toList_append
abbrev I4:=@List.drop_of_length_le
abbrev I5:=@Array.getElem?_eq_none
abbrev LS:=@List.take_length_add_append
abbrev Hh:=@List.mem_filterMap
abbrev I6:=@Array.getElem?_modify
abbrev Cx:=@Prod.mk.injEq
abbrev ug:=@if_false
abbrev I7:=@List.mem_of_mem_take
abbrev Hi:=@Array.toList_map
abbrev Gd:=@List.filterMap_cons_some
abbrev Cy:=@Array.length_toList
abbrev Gf:=@List.getElem?_replicate
abbrev sJ:=@Nat.mod_lt
abbrev zT:=@List.drop_left'
abbrev Gg:=@List.length_eq_one_iff
abbrev I8:=@List.take_append_of_le_length
abbrev Cz:=@List.flatMap_cons
abbrev I9:=@Array.getElem?_setIfInBounds
abbrev zU:=@List.drop_zero
abbrev zV:=@List.take_left
abbrev CA:=@List.take_length
abbrev zW:=@Bool.false_or
abbrev Ja:=@Option.ne_none_iff_exists'
abbrev wI:=@Nat.mul_one
abbrev wJ:=@decide_true
abbrev wK:=@Int.le_refl
abbrev Gi:=@List.getElem_of_mem
abbrev Gj:=@List.getElem?_range
abbrev CB:=@List.length_set
abbrev CC:=@List.take_left'
abbrev Gk:=@Nat.eq_zero_or_pos
abbrev zX:=@List.map_map
abbrev CD:=@List.take_zero
abbrev CE:=@List.take_take
abbrev CF:=@List.mem_range
abbrev Jb:=@List.getElem?_cons_zero
abbrev Jc:=@List.getElem?_cons_succ
abbrev Jd:=@decide_eq_false_iff_not
abbrev Je:=@List.pairwise_singleton
abbrev Gl:=@Nat.lt_of_not_le
abbrev Gm:=@Nat.lt_succ_self
abbrev Jf:=@Array.getElem?_toList
abbrev Jg:=@Array.mem_of_getElem?
abbrev Jh:=@BitVec.eq_of_toNat_eq
abbrev Ji:=@Bool.and_eq_true_iff
abbrev CG:=@Nat.zero_mul
abbrev Jj:=@List.getElem?_append
abbrev Jk:=@List.mem_of_mem_drop
abbrev CH:=@List.map_nil
abbrev Jl:=@List.replicate_succ'
abbrev CI:=@Nat.sub_self
abbrev Jm:=@Int.toNat_of_nonneg
abbrev Gn:=@List.drop_take
abbrev wL:=@and_self
abbrev Gp:=@List.mapM_cons
abbrev Jn:=@List.filterMap_map
abbrev Jo:=@List.pairwise_cons
abbrev M4:=@Array.toList_setIfInBounds
abbrev Gq:=@List.cons.inj
abbrev Jp:=@List.size_toArray
abbrev Jq:=@Array.size_append
abbrev Jr:=@List.length_range
abbrev CJ:=@Array.ext'
abbrev M5:=@List.sublist_append_right
abbrev M6:=@Classical.byContradiction
abbrev wM:=@Ne.symm
abbrev Gr:=@Nat.add_comm
abbrev M7:=@List.sublist_append_left
abbrev M8:=@List.filterMap_cons_none
abbrev Gs:=@Nat.ne_of_gt
abbrev Gt:=@decide_false
abbrev M9:=@Array.setIfInBounds_comm
abbrev Na:=@Bool.eq_false_or_eq_true
abbrev Js:=@List.getElem_mem
abbrev Jt:=@Nat.div_add_mod
abbrev Ju:=@List.sum_append
abbrev Nb:=@Nat.div_lt_iff_lt_mul
abbrev Nc:=@Bool.and_eq_false_iff
abbrev Nf:=@List.filterMap_append
abbrev Ng:=@List.getElem?_toArray
abbrev Jv:=@Bool.or_false
abbrev Jw:=@List.map_take
abbrev Jx:=@Bool.or_assoc
abbrev Jy:=@List.sum_cons
abbrev Jz:=@Nat.le_of_lt
noncomputable section
namespace Go.Ge
inductive Ty where
 | int (k:IntKind)|bool|str|slice (e:Ty)|arr (n:Nat) (e:Ty)|pair (a b:Ty)|unit
 | alt (u:Nat) (a r:Ty)|rr
def Ty.den:Ty->Type
 | .int _=>Int
 | .bool=>Bool
 | .str=>aE
 | .slice e=>List e.den
 | .arr _ e=>List e.den
 | .pair a b=>a.den×b.den
 | .unit=>ah
 | .alt _ a r=>a.den⊕r.den
 | .rr=>ah
def pF:IntKind->Nat
 | .i8=>0|.i16=>1|.i32=>2|.i64=>3|.u8=>4|.u16=>5|.u32=>6|.u64=>7
theorem oh{a b:IntKind}(h:Nat.beq (pF a) (pF b)=true):a=b:=by
 cases a<;>cases b<;>first|rfl|(exact absurd h<|by decide)
def Ty.beq:Ty->Ty->Bool
 | .int k,.int g=>Nat.beq (pF k) (pF g)
 | .bool,.bool=>true
 | .str,.str=>true
 | .slice e,.slice f=>Ty.beq e f
 | .arr n e,.arr m f=>Nat.beq n m&&Ty.beq e f
 | .pair a b,.pair c d=>Ty.beq a c&&Ty.beq b d
 | .unit,.unit=>true
 | .alt u a r,.alt v b s=>Nat.beq u v&&(Ty.beq a b&&Ty.beq r s)
 | .rr,.rr=>true
 | _,_=>false
theorem Ty.eq_of_beq:∀{a b:Ty},Ty.beq a b=true->a=b:=by
 intro a;induction a with
 | int k=>intro b h;cases b<;>first|(exact congrArg _<|oh h)|(cases h)
 | bool=>intro b h;cases b<;>first|rfl|(cases h)
 | str=>intro b h;cases b<;>first|rfl|(cases h)
 | slice e f=>intro b h;cases b<;>first|(exact congrArg _<|f h)|(cases h)
 | arr n e f =>
   intro b h;cases b<;>first|(cases h;done)|skip
   simp only[Ty.beq,cA] at h;rw[cG h.1,f h.2]
 | pair a b d g =>
   intro c h;cases c<;>first|(cases h;done)|skip
   simp only[Ty.beq,cA] at h;rw[d h.1,g h.2]
 | unit=>intro b h;cases b<;>first|rfl|(cases h)
 | alt u a r d i =>
   intro c h;cases c<;>first|(cases h;done)|skip
   simp only[Ty.beq,cA] at h;rw[cG h.1,d h.2.1,i h.2.2]
 | rr=>intro b h;cases b<;>first|rfl|(cases h)
def Ty.to(t u:Ty)(x:t.den):Option u.den :=
 if h:Ty.beq t u=true then some ((Ty.eq_of_beq h)▸x) else none
theorem Ty.beq_refl(t:Ty):Ty.beq t t=true:=by
 induction t with
 | int k=>cases k<;>rfl
 | bool=>rfl
 | str=>rfl
 | slice e d=>exact d
 | arr n e d=>simp[Ty.beq,d]
 | pair a b c f=>simp[Ty.beq,c,f]
 | unit=>rfl
 | alt u a r c g=>simp[Ty.beq,c,g]
 | rr=>rfl
theorem Ty.fZ{t u:Ty}{x:t.den}{y:u.den}(h:Ty.to t u x=some y):∃e:t=u,y=e▸x:=by
 unfold Ty.to at h;split at h
 .rename_i a;exact⟨Ty.eq_of_beq a,by simpa using h.symm⟩
 .cases h
def toL(t u:Ty)(l:List t.den):Option (List u.den) :=
 if h:Ty.beq t u=true then some ((Ty.eq_of_beq h)▸l) else none
theorem gh{t u:Ty}{l:List t.den}{m:List u.den}(h:toL t u l=some m):∃e:t=u,m=e▸l:=by
 unfold toL at h;split at h
 .rename_i a;exact⟨Ty.eq_of_beq a,by simpa using h.symm⟩
 .cases h
def Ty.size:Ty->Nat
 | .int _|.bool|.str|.slice _=>1
 | .arr n e=>n*e.size
 | .pair a b=>a.size+b.size
 | .unit=>0
 | .alt _ _ r=>r.size
 | .rr=>1
def Ty.isAgg:Ty->Bool
 | .arr ..|.pair ..|.unit=>true
 | .alt _ _ r=>r.isAgg
 | _=>false
def Ty.zero:(t:Ty)->t.den
 | .int _=>(0:Int)
 | .bool=>false
 | .str=>([]:aE)
 | .slice _=>[]
 | .arr n e=>List.replicate n e.zero
 | .pair a b=>(a.zero,b.zero)
 | .unit=>()
 | .alt _ _ r=>.inr r.zero
 | .rr=>()
def av{α:Type}(c:Bool)(x y:α):α:=bif c then x else y
def ab{a b:Type}(o:Option a)(f:a->Option b):Option b:=o.bind f
def nt(b:Bool):Bool:=!b
def an(a b:Bool):Bool:=a&&b
def Py(a b:Bool):Bool:=a||b
def aQ(a b:Int):Bool:=decide (a=b)
def n9(a b:Nat):Bool:=Nat.beq a b
def cW(a b:Int):Bool:=decide (a<b)
def oW(a b:Int):Bool:=decide (a<=b)
def ie(a b:aE):Bool:=decide (a=b)
def LN(a b:aE):Bool:=Op.bytesLess a b
def Q7(a b:List Int):Bool:=decide (a=b)
def LO(a b:Bool):Bool:=a==b
def fh{S:Type}(o:Option (S⊕(Nat×S))):Option (S⊕S):=o.map λr=>match r with|.inl x=>.inl x|.inr y=>.inr y.2
def aK(k:IntKind)(a b:Int):Int:=k.wrap (a+b)
def dC(k:IntKind)(a b:Int):Int:=k.wrap (a-b)
def js(k:IntKind)(a b:Int):Int:=k.wrap (a*b)
def vu(k:IntKind)(a b:Int):Int:=k.wrap (a.tdiv b)
def iX(a b:Int):Int:=a.tmod b
def mB(k:IntKind)(a:Int):Int:=k.wrap a
def iY(k:IntKind)(x y:Int):Int:=k.wrap (BitVec.ofInt k.bits x &&& BitVec.ofInt k.bits y).toNat
def oi(k:IntKind)(x y:Int):Int:=k.wrap (BitVec.ofInt k.bits x ||| BitVec.ofInt k.bits y).toNat
def dY(k:IntKind)(x y:Int):Int:=k.wrap (BitVec.ofInt k.bits x ^^^ BitVec.ofInt k.bits y).toNat
def Nh(k:IntKind)(x y:Int):Int:=k.wrap (BitVec.ofInt k.bits x &&& ~~~BitVec.ofInt k.bits y).toNat
def Eu(a b:Int):Int:=bif decide (b<a) then b else a
def imax(a b:Int):Int:=bif decide (a<b) then b else a
def ix(k:IntKind)(a b:Int):Int:=k.wrap (a*2 ^ (min b.toNat k.bits))
def nj(k:IntKind)(a b:Int):Int:=a.fdiv (2 ^ (min b.toNat k.bits))
def plus(a b:Int):Int:=a+b
def minus(a b:Int):Int:=a-b
def len{α:Type}(l:List α):Int:=l.length
def app{α:Type}(l m:List α):List α:=l++m
def one{α:Type}(x:α):List α:=[x]
def idx{α:Type}(l:List α)(i:Int):Option α:=if 0<=i then l[i.toNat]? else none
def o5{α:Type}(l:List α)(i:Int)(x:α):List α:=l.set i.toNat x
def AQ{a:Type}(n:Int)(x:a):List a:=List.replicate n.toNat x
def sub{α:Type}(l:List α)(a n:Int):List α:=(l.drop a.toNat).take n.toNat
def iq{α:Type}(l:List α)(n:Int):List α:=l.take n.toNat
def over{α:Type}(l:List α)(a:Int)(c:List α):List α:=l.take a.toNat++c++l.drop (a.toNat+c.length)
def pick{d e c:Type}(f:d->c)(g:e->c)(x:d⊕e):c:=match x with|.inl a=>f a|.inr b=>g b
def u8(b:UInt8):Int:=(b.toNat:Int)
def al(s:aE):List Int:=s.map λb=>(b.toNat:Int)
def aH(l:List Int):aE:=l.map λn=>UInt8.ofNat n.toNat
def fits(n:Int):Bool:=decide (n<=4294967296)
def inside(a b n:Int):Bool:=decide (0<=a)&&decide (a<=b)&&decide (b<=n)
def within(i n:Int):Bool:=decide (0<=i)&&decide (i<n)
inductive Tree (α:Type):Type 1 where
 | ret (a:α)
 | fail
 | node (c:Bool) (t e:Tree α)
 | look {T:Type} (o:Option T) (k:T->Tree α)
namespace Tree
def bind{α b:Type}:Tree α->(α->Tree b)->Tree b
 | .ret a,f=>f a
 | .fail,_=>.fail
 | .node c t e,f=>.node c (t.bind f) (e.bind f)
 | .look o k,f=>.look o λx=>(k x).bind f
def run{α:Type}:Tree α->Option α
 | .ret a=>some a
 | .fail=>none
 | .node c t e=>av c t.run e.run
 | .look o k=>ab o λx=>(k x).run
def join{T a:Type}(t:Tree T)(k:T->Tree a):Tree a :=
 match t with
 | .ret x=>k x
 | .node c (.ret x) (.ret y)=>k (av c x y)
 | t=>.look t.run k
def Gu{T a:Type}(b:Bool)(t:Tree T)(k:T->Tree a):Tree a:=bif b then .look t.run k else t.join k
def need{α:Type}(c:Bool)(t:Tree α):Tree α:=.node c t .fail
def JA{b:Type}:Option b->Tree b
 | some a=>.ret a
 | none=>.fail
end Tree
inductive rW where
 | AR (k off:Nat)
 | idx (i:Int) (size:Nat)
inductive ax where
 | undef
 | data (t:Ty) (x:t.den)
 | jt
 | vv
 | cB
 | lA
 | ny (b au:Nat)
 | cell (t:Ty) (x:t.den)
 | ptr (b au:Nat) (p:List rW)
 | whole (b au:Nat)
 | kM (b au:Nat)
 | ju (l:List (Int×Int×ah))
 | part (b au:Nat) (lo n:Int)
 | win (b au:Nat) (q:List rW) (e:Ty) (k:Nat) (lo n:Int)
 | fn (f:Nat) (Nz:List (Nat×Nat))
 | mix (a b:ax)
 | pG (vs:ax)
 | nl
structure aS where
 val:ax
 tid:TypeId
 buf:Bool
 ro:Bool
 lk:Bool
 au:Nat
structure St where
 slots:Nat->ax
 mem:Nat->Option aS
structure vX where
 A:Ty
 R:Ty
 spec:A.den->Option R.den
inductive OT where
 | bW (t:Ty)
 | buf (e:Ty) (Cq:Nat)
 | map
 | ref (tid:Nat) (o:OT)
 | rf (tid:Nat) (o:OT)
 | pair (a b:OT)
 | unit
 | cB
def OT.den:OT->Type
 | .bW t=>t.den
 | .buf e _=>List e.den
 | .map=>List (Int×Int×ah)
 | .ref _ o=>o.den
 | .rf _ o=>o.den
 | .pair a b=>a.den×b.den
 | .unit=>ah
 | .cB=>ah
def OT.nr:OT->Nat
 | .ref _ o=>o.nr+1
 | .rf _ o=>o.nr
 | .pair a b=>a.nr+b.nr
 | _=>0
def OT.nb:OT->Nat
 | .buf ..=>1
 | .map=>1
 | .ref _ o=>o.nb
 | .rf _ o=>o.nb+1
 | .pair a b=>a.nb+b.nb
 | _=>0
structure sK where
 ps:List Bool
 A:Ty
 U:OT
 R:Ty
 spec:A.den×U.den->Option (R.den×U.den)
inductive jl where
 | bW (t:Ty)
 | buf (e:Ty) (Cq:Nat)
 | map
 | one
 | self
inductive IW where
 | NA (T:Nat)
 | str (T E:Nat)
 | clone (e:Ty)
 | own (e A:Ty) (res:Bool) (spec:List e.den->A.den->Option (List e.den))
 | p7 (g:Nat)
 | Ni (T:Nat)
 | look (ps:List Bool) (A R:Ty) (spec:A.den->Option R.den)
structure Ctx where
 T:List (Nat×Ty)
 ml:List Nat
 iy:List Nat
 fns:List (Nat×Func)
 Cr:List (Nat×vX)
 rX:List (Nat×sK)
 nk:List (Nat×List jl)
 yT:List (Nat×IW)
 JB:List (Nat×Nat)
 inv:List (String×vX)
def CK{b:Type}:List (String×b)->String->Option b
 | [],_=>none
 | (i,a)::r,k=>bif decide (i=k) then some a else CK r k
def find{α:Type}:List (Nat×α)->Nat->Option α
 | [],_=>none
 | (i,a)::r,k=>bif Nat.beq i k then some a else find r k
def St.put(a:St)(d:Nat)(v:ax):St:={ a with slots:=λt=>bif Nat.beq t d then v else a.slots t }
def St.aA(a:St)(d:Option Nat)(v:ax):St:=match d with|some d=>a.put d v|none=>a
def St.bI(a:St)(b:Nat)(x:aS):St:={ a with mem:=λi=>bif Nat.beq i b then some x else a.mem i }
def St.aw{c:Type}(a:St)(b:Nat)(val:ax)(tid:TypeId)(buf:Bool)(k:Nat->St->Tree c):Tree c :=
 match a.mem b with
 | some bx=>bif bx.lk then .fail else k (bx.au+1) (a.bI b { val,tid,buf,ro:=false,lk:=false,au:=bx.au+1 })
 | none=>k 0 (a.bI b { val,tid,buf,ro:=false,lk:=false,au:=0 })
def bJ:List Nat->Nat->Bool
 | [],_=>false
 | i::r,t=>Nat.beq t i||bJ r t
def AU(f:Nat):Nat:=bif Nat.blt f 10000000 then f else f % 10000000
def JC(f:Nat)(a b:List ax):List ax:=bif Nat.blt f 10000000 then a++b else b++a
def oj(f:Nat)(a:Array Value):Value:=bif Nat.blt f 10000000 then .func (.func f) #[] a else .func (.func<|f % 10000000) a #[]
def wN:Value->ax
 | .int k n=>bif decide (k.min<=n)&&decide (n<=k.max) then .data (.int k) n else .undef
 | .bool b=>.data .bool b
 | .string s=>bif Nat.ble s.data.toList.length 4294967296 then .data .str s.data.toList else .undef
 | .pointer none=>.cB
 | .nilIface=>.lA
 | .slice none 0 0=>.jt
 | _=>.undef
def bG(a:St):Operand->ax
 | .tmp t=>a.slots t
 | .const v=>wN v
 | .func f=>bif Nat.blt f 10000000 then .fn f [] else .undef
 | .global _=>.undef
def fP:Ty->Nat->Option Nat
 | .pair _ _,0=>some 0
 | .pair a b,k+1=>(fP b k).map (a.size+·)
 | _,_=>none
def b4:ax->Nat
 | .data t _=>t.size
 | .mix a b=>b4 a+b4 b
 | .nl=>0
 | _=>1
def jP:(t:Ty)->t.den->Nat->Option (Nat×ax)
 | .pair a _,x,0=>some (0,.data a x.1)
 | .pair a b,x,k+1=>match jP b x.2 k with|some r=>some (a.size+r.1,r.2)|none=>none
 | _,_,_=>none
def iB:ax->Nat->Option (Nat×ax)
 | .data t x,k=>jP t x k
 | .mix a _,0=>some (0,a)
 | .mix a b,k+1=>match iB b k with|some r=>some (b4 a+r.1,r.2)|none=>none
 | _,_=>none
def toD(t:Ty):ax->Option t.den
 | .data u x=>Ty.to u t x
 | .jt=>match t with|.slice _=>some []|_=>none
 | _=>none
def toS(t:Ty):ax->Option t.den
 | .data u x=>Ty.to u t x
 | _=>none
def vY:(t:Ty)->t.den->Nat->(ax->Tree ax)->Tree t.den
 | .pair a b,x,0,f=>(f<|.data a x.1).bind λv=>match toS a v with
   | some y=>.ret (y,x.2)
   | none=>.fail
 | .pair a b,x,k+1,f=>(vY b x.2 k f).bind λy=>.ret (x.1,y)
 | _,_,_,_=>.fail
def rY:ax->Nat->(ax->Tree ax)->Tree ax
 | .data t x,k,f=>(vY t x k f).bind λy=>.ret (.data t y)
 | .mix a b,0,f=>(f a).bind λv=>.ret (.mix v b)
 | .mix a b,k+1,f=>(rY b k f).bind λv=>.ret (.mix a v)
 | _,_,_=>.fail
def Hj:List rW->ax->Tree ax
 | [],v=>.ret v
 | .AR k off::p,v=>match iB v k with
   | some (o,u)=>bif Nat.beq o off then Hj p u else .fail
   | none=>.fail
 | .idx i size::p,v=>match v with
   | .data (.arr _ e) l=>bif Nat.beq size e.size then .look (idx (α:=e.den) l i) λx=>Hj p (.data e x) else .fail
   | _=>.fail
def Hk(a:Bool)(p:List rW)(v:ax):Tree ax :=
 match a with
 | false=>Hj p v
 | true=>match p,v with
   | .idx i size::p,.data (.slice e) l=>bif Nat.beq size e.size then .look (idx (α:=e.den) l i) λx=>Hj p (.data e x) else .fail
   | _,_=>.fail
def nQ:List rW->ax->ax->Tree ax
 | [],_,u=>.ret u
 | .AR k off::p,v,u=>rY v k λw=>nQ p w u
 | .idx i size::p,v,u=>match v with
   | .data (.arr n e) l=>.look (idx (α:=e.den) l i) λx=>(nQ p (.data e x) u).bind λw=>match toS e w with
     | some y=>.ret (.data (.arr n e)<|o5 (α:=e.den) l i y)
     | none=>.fail
   | _=>.fail
def vZ(a:Bool)(p:List rW)(v u:ax):Tree ax :=
 match a with
 | false=>nQ p v u
 | true=>match p,v with
   | .idx i size::p,.data (.slice e) l=>.look (idx (α:=e.den) l i) λx=>(nQ p (.data e x) u).bind λw=>match toS e w with
     | some y=>.ret (.data (.slice e)<|o5 (α:=e.den) l i y)
     | none=>.fail
   | _,_=>.fail
namespace Tree
theorem run_bind{α g:Type}(t:Tree α)(f:α->Tree g):(t.bind f).run=t.run.bind λa=>(f a).run:=by
 induction t with
 | ret a=>rfl
 | fail=>rfl
 | node c t e b d=>cases c<;>simp[bind,run,b,d,av]
 | look o k h=>cases o<;>simp[bind,run,h,ab]
theorem sL{T b:Type}(t:Tree T)(k:T->Tree b):(t.join k).run=t.run.bind λa=>(k a).run:=by
 unfold join;split
 .rfl
 .rename_i c x y;cases c<;>rfl
 .rfl
theorem uh{T c:Type}(b:Bool)(t:Tree T)(k:T->Tree c):(t.Gu b k).run=t.run.bind λa=>(k a).run:=by
 cases b with
 | true=>rfl
 | false=>exact sL t k
end Tree
def lB:Ty->Nat->Option Ty
 | .pair a _,0=>some a
 | .pair _ b,k+1=>lB b k
 | _,_=>none
def Ty.flat:Ty->Bool
 | .slice _=>false
 | .arr _ e=>e.flat
 | .pair a b=>a.flat&&b.flat
 | .alt _ a r=>a.flat&&r.flat
 | _=>true
def aS.row(bx:aS):Option (Ty×Nat) :=
 match bx.buf,bx.val with
 | true,.data (.slice e) l=>some (e,List.length (α:=e.den) l)
 | false,.data (.arr n e) _=>some (e,n)
 | _,_=>none
def ek(e:Ty)(c:St):ax->Option (List e.den)
 | .data (.slice u) l=>toL u e l
 | .jt=>some []
 | .whole b au=>match c.mem b with
   | some a=>bif Nat.beq a.au au&&a.buf then(match a.val with|.data (.slice u) l=>toL u e l|_=>none) else none
   | none=>none
 | .part b au lo n=>match c.mem b with
   | some a=>bif Nat.beq a.au au then(match a.buf,a.val with
     | true,.data (.slice u) l=>toL u e (sub (α:=u.den) l lo n)
     | false,.data (.arr _ u) l=>toL u e (sub (α:=u.den) l lo n)
     | _,_=>none) else none
   | none=>none
 | _=>none
def live(c:St)(b a:Nat):Bool:=match c.mem b with|some d=>Nat.beq d.au a|none=>false
def jv(c:St):(t:Ty)->ax->Option t.den
 | .slice e,v=>(ek e c v:Option (List e.den))
 | .pair a b,v=>match v with
   | .data u x=>Ty.to u (.pair a b) x
   | .mix p q=>(match jv c a p,jv c b q with
     | some x,some y=>some (x,y)
     | _,_=>none)
   | _=>none
 | .alt n a r,v=>match v with
   | .data u x=>Ty.to u (.alt n a r) x
   | .lA=>match jv c r .lA with
     | some x=>some (.inr x)
     | none=>none
   | _=>none
 | .rr,v=>match v with
   | .data u x=>Ty.to u .rr x
   | .lA=>some ()
   | _=>none
 | t,v=>match v with
   | .data u x=>Ty.to u t x
   | _=>none
def freeze(a:St)(b:Nat):Option St :=
 match a.mem b with
 | some c=>bif c.ro then some a else bif c.lk then none else some (a.bI b { c with ro:=true })
 | none=>none
def eA(a:St):ax->Option St
 | .whole b _=>freeze a b
 | .part b _ _ _=>freeze a b
 | .mix v w=>match eA a v with
   | some a=>eA a w
   | none=>none
 | _=>some a
def om(a:St)(t:Ty)(v:ax):Option (t.den×St) :=
 match v with
 | .data u x=>match Ty.to u t x with|some y=>some (y,a)|none=>none
 | v=>match jv a t v,eA a v with
   | some x,some a=>some (x,a)
   | _,_=>none
def ef(σ:St):(A:Ty)->List ax->Option A.den
 | .unit,[]=>some ()
 | .pair t r,v::a=>match jv σ t v,ef σ r a with
   | some x,some y=>some (x,y)
   | _,_=>none
 | _,_=>none
def p8(c:St)(t:Ty):ax->Option t.den
 | .ptr b au []=>match c.mem b with
   | some a=>bif Nat.beq a.au au&&!a.buf then jv c t a.val else none
   | none=>none
 | .cell u x=>Ty.to u t x
 | _=>none
def rE(a:St):List Bool->(A:Ty)->List ax->Option A.den
 | [],.unit,[]=>some ()
 | p::ps,.pair t r,v::b=>match(bif p then p8 a t v else jv a t v),rE a ps r b with
   | some x,some y=>some (x,y)
   | _,_=>none
 | _,_,_=>none
def gE(a:St):(A:Ty)->List ax->Option (A.den×St)
 | .unit,[]=>some ((),a)
 | .pair t r,v::b=>match om a t v with
   | some (x,a)=>match gE a r b with
     | some (y,a)=>some ((x,y),a)
     | none=>none
   | none=>none
 | _,_=>none
def p9:(R:Ty)->R.den->ax
 | .pair t r,x=>.mix (.data t x.1) (p9 r x.2)
 | _,_=>.nl
def kb(R:Ty)(x:R.den):ax :=
 match R,x with
 | .pair t .unit,x=>.data t x.1
 | R,x=>.pG (p9 R x)
def nth:ax->Nat->Option ax
 | .mix a _,0=>some a
 | .mix _ b,k+1=>nth b k
 | _,_=>none
def bitsOf(a:BinOp)(k:IntKind)(x y:Int):Option Int :=
 match a with
 | .and=>some (iY k x y)
 | .or=>some (oi k x y)
 | .xor=>some (dY k x y)
 | .andNot=>some (Nh k x y)
 | _=>none
def Ty.eqv:(t:Ty)->t.den->t.den->Option Bool
 | .int _,x,y=>some (aQ x y)
 | .bool,x,y=>some (LO x y)
 | .str,x,y=>some (ie x y)
 | .pair a b,x,y=>match Ty.eqv a x.1 y.1,Ty.eqv b x.2 y.2 with
   | some p,some q=>some (an p q)
   | _,_=>none
 | .unit,_,_=>some true
 | .arr _ e,x,y=>match e,x,y with
   | .int _,x,y=>some (Q7 x y)
   | _,_,_=>none
 | _,_,_=>none
def Ty.sM:Ty->Nat
 | .pair a b=>a.sM+b.sM+1
 | .arr _ e=>e.sM+1
 | _=>1
def Ev(d:BinOp)(k:IntKind)(a b:Int):Tree ax :=
 match d with
 | .add=>.ret (.data (.int k)<|aK k a b)
 | .sub=>.ret (.data (.int k)<|dC k a b)
 | .mul=>.ret (.data (.int k)<|js k a b)
 | .quo=>.node (aQ b 0) .fail (.ret<|.data (.int k)<|vu k a b)
 | .rem=>.node (aQ b 0) .fail (.ret<|.data (.int k)<|iX a b)
 | .eql=>.ret (.data .bool<|aQ a b)
 | .neq=>.ret (.data .bool<|nt<|aQ a b)
 | .lss=>.ret (.data .bool<|cW a b)
 | .leq=>.ret (.data .bool<|oW a b)
 | .gtr=>.ret (.data .bool<|cW b a)
 | .geq=>.ret (.data .bool<|oW b a)
 | d=>match bitsOf d k a b with
   | some c=>.ret (.data (.int k) c)
   | none=>.fail
def Ew(a:BinOp)(x y:aE):Tree ax :=
 match a with
 | .add=>.need (fits<|plus (len x)<|len y) (.ret<|.data .str<|app x y)
 | .eql=>.ret (.data .bool<|ie x y)
 | .neq=>.ret (.data .bool<|nt<|ie x y)
 | .lss=>.ret (.data .bool<|LN x y)
 | .leq=>.ret (.data .bool<|Py (LN x y)<|ie x y)
 | .gtr=>.ret (.data .bool<|nt<|Py (LN x y)<|ie x y)
 | .geq=>.ret (.data .bool<|nt<|LN x y)
 | _=>.fail
def isEq:BinOp->Option Bool
 | .eql=>some true
 | .neq=>some false
 | _=>none
def sN:BinOp->Option Bool
 | .shl=>some true
 | .shr=>some false
 | _=>none
def ui(o:Option Ty)(t:Ty):Bool:=match o with|some u=>Ty.beq u t|none=>false
def bin(f:Option Ty)(g:Bool)(d:BinOp)(x y:ax):Tree ax :=
 match x,y with
 | .data (.int k) a,.data (.int h) b =>
   match sN d with
   | some left=>.node (cW b 0) .fail (.ret<|.data (.int k)<|bif left then ix k a b else nj k a b)
   | none=>bif Nat.beq (pF k) (pF h) then Ev d k a b else .fail
 | .data .str a,.data .str b=>Ew d a b
 | .data .bool a,.data .bool b=>bif ui f .bool then(match isEq d with
   | some true=>.ret (.data .bool<|LO a b)
   | some false=>.ret (.data .bool<|nt<|LO a b)
   | none=>.fail) else .fail
 | .data (.pair a b) x,.data t y=>bif ui f (.pair a b)&&Nat.ble (Ty.pair a b).sM 9000 then(match Ty.to t (.pair a b) y,isEq d with
   | some y,some e=>match Ty.eqv (.pair a b) x y with
     | some c=>.ret (.data .bool<|bif e then c else nt c)
     | none=>.fail
   | _,_=>.fail) else .fail
 | .data (.arr n e) x,.data t y=>bif ui f (.arr n e)&&Nat.ble (Ty.arr n e).sM 9000 then(match Ty.to t (.arr n e) y,isEq d with
   | some y,some q=>match Ty.eqv (.arr n e) x y with
     | some c=>.ret (.data .bool<|bif q then c else nt c)
     | none=>.fail
   | _,_=>.fail) else .fail
 | .cB,.cB=>match g,isEq d with|true,some e=>.ret (.data .bool e)|_,_=>.fail
 | _,_=>.fail
def JD(d:St)(f:Option Ty)(a:Bool)(c:BinOp)(x y:ax):Tree ax :=
 match x,y with
 | .ptr b au _,.cB=>bif live d b au&&a then(match isEq c with|some e=>.ret (.data .bool<|!e)|none=>.fail) else .fail
 | .cB,.ptr b au _=>bif live d b au&&a then(match isEq c with|some e=>.ret (.data .bool<|!e)|none=>.fail) else .fail
 | x,y=>bin f a c x y
def AV(c:Bool)(x y:ax):Tree ax :=
 match x,y with
 | .data (.int k) a,.data (.int d) b=>bif Nat.beq (pF k) (pF d) then .ret (.data (.int k)<|bif c then Eu a b else imax a b) else .fail
 | _,_=>.fail
def un(a:UnOp)(x:ax):Tree ax :=
 match a,x with
 | .not,.data .bool b=>.ret (.data .bool<|nt b)
 | .neg,.data (.int k) n=>.ret (.data (.int k)<|dC k 0 n)
 | .xor,.data (.int k) n=>.ret (.data (.int k)<|dY k (bif k.signed then -1 else k.max) n)
 | _,_=>.fail
def wO:(t:Ty)->t.den->Nat->(u:Ty)->u.den->Option t.den
 | .pair a b,x,0,u,y=>match Ty.to u a y with|some y=>some (y,x.2)|none=>none
 | .pair a b,x,k+1,u,y=>match wO b x.2 k u y with|some z=>some (x.1,z)|none=>none
 | _,_,_,_,_=>none
def en(a:St)(t:Ty)(x:t.den):List (Nat×Operand)->Option (t.den×St)
 | []=>some (x,a)
 | (k,o)::r=>match lB t k with
   | some u=>match om a u (bG a o) with
     | some (y,a)=>match wO t x k u y with
       | some x=>en a t x r
       | none=>none
     | none=>none
   | none=>none
def du(a:St)(e:Ty)(l:List e.den):List (Nat×Operand)->Option (List e.den×St)
 | []=>some (l,a)
 | (k,o)::r=>match om a e (bG a o) with
   | some (y,a)=>bif Nat.blt k l.length then du a e (l.set k y) r else none
   | none=>none
def lenOf(c:St):ax->Option Int
 | .data .str s=>some (len (α:=UInt8) s)
 | .data (.slice e) l=>some (len (α:=e.den) l)
 | .data (.arr n _) _=>bif Nat.ble n 4294967296 then some n else none
 | .jt=>some 0
 | .whole b au=>match c.mem b with
   | some a=>bif Nat.beq a.au au&&a.buf then(match a.val with|.data (.slice u) l=>some (len (α:=u.den) l)|_=>none) else none
   | none=>none
 | .part b au _ n=>bif live c b au then some n else none
 | _=>none
def Gv(o:Option Ty):ax->Bool
 | .data .str _=>ui o .str
 | .data (.slice e) _=>ui o (.slice e)
 | .data (.arr n e) _=>ui o (.arr n e)
 | .jt|.whole ..|.part ..=>match o with|some (.slice _)=>true|_=>false
 | _=>false
def bounds(c:St)(n:Int)(d e:Option Operand):Option (Int×Int) :=
 match d,e with
 | none,none=>some (0,n)
 | some a,none=>match bG c a with|.data (.int _) x=>some (x,n)|_=>none
 | none,some b=>match bG c b with|.data (.int _) y=>some (0,y)|_=>none
 | some a,some b=>match bG c a,bG c b with|.data (.int _) x,.data (.int _) y=>some (x,y)|_,_=>none
def isRef:ax->Bool
 | .ptr ..|.whole ..|.part ..|.fn ..|.cB|.lA|.ny ..|.mix ..|.cell ..|.jt=>true
 | _=>false
section
variable (cx:Ctx) (nb:Nat) (bf:List Nat) (inl:Nat->List ax->St->Tree (ax×St))
def fQ(d:Option Nat)(c:TypeId)(v:ax)(a:St):Tree St :=
 match v with
 | .undef=>bif bJ cx.ml c then .ret (a.aA d .undef) else .fail
 | .jt=>match d,find cx.T c with
   | some d,some (.slice e)=>bif bJ bf d then a.aw (nb+d) (.data (.slice e) []) 0 true λb a=>.ret (a.put d<|.whole (nb+d) b)
     else .ret (a.put d<|.data (.slice e) [])
   | _,_=>.ret (a.aA d .jt)
 | v=>.ret (a.aA d v)
def jw(d:Option Nat)(c a b:ax)(e:St):Tree St :=
 match c with
 | .data .bool c=>match a,b with
   | .data t x,.data u y=>match Ty.to u t y with
     | some y=>.ret (e.aA d<|.data t<|av c x y)
     | none=>.fail
   | a,b=>.node c (.ret<|e.aA d a) (.ret<|e.aA d b)
 | _=>.fail
def Gw:(t:Ty)->t.den->ax
 | .pair a b,x=>.mix (.data a x.1) (Gw b x.2)
 | t,x=>.data t x
def JE:ax->ax
 | .data t x=>Gw t x
 | v=>v
def Hl:Ty->ax->Bool
 | .slice _,.whole ..=>true
 | t,.data u _=>Ty.beq u t
 | _,_=>false
def CL:Ty->ax->Bool
 | .pair a b,.mix p q=>Hl a p&&CL b q
 | t,.data u _=>Ty.beq u t
 | _,_=>false
def JF(u:Ty):ax->Bool
 | .whole b au=>Hl u (.whole b au)
 | .mix p q=>CL u (.mix p q)
 | _=>false
def JG:ax->Bool
 | .data (.pair _ _) _=>true
 | .mix ..=>true
 | _=>false
def o6(a:TypeId):ax->Bool
 | .mix p q=>match find cx.T a with|some u=>CL u (.mix p q)|none=>false
 | _=>false
def nR(a:TypeId):ax->Bool
 | .data u _=>ui (find cx.T a) u
 | .whole ..=>match find cx.T a with|some (.slice _)=>true|_=>false
 | .ptr ..|.cB|.fn ..=>bJ cx.ml a
 | _=>false
def gO(d:Option Nat)(c:TypeId)(a:ax)(e:St):Tree St :=
 match a with
 | .cell u x=>bif ui (find cx.T c) u then .ret (e.aA d<|.data u x) else .fail
 | .ptr b au p=>match e.mem b with
   | some f=>bif Nat.beq f.au au then(Hk f.buf p f.val).bind λv=>bif nR cx c v||o6 cx c v then .ret (e.aA d v) else .fail else .fail
   | none=>.fail
 | _=>.fail
def storeAt(b a:Nat)(p:List rW)(d:ax->Bool)(v:ax)(f:St):Tree St :=
 match f.mem b with
 | some bx=>bif Nat.beq bx.au a&&!bx.lk&&!bx.ro then
    (Hk bx.buf p bx.val).bind λe=>bif d e then(vZ bx.buf p bx.val v).bind λc=>.ret (f.bI b { bx with val:=c }) else .fail
   else .fail
 | none=>.fail
def jE(b a:Nat)(p:List rW)(n:Nat)(v:ax)(e:St):Tree St :=
 match e.mem b with
 | some bx=>bif Nat.beq bx.au a&&!bx.lk&&!bx.ro&&!bx.buf&&JG bx.val then
    (Hj p<|JE bx.val).bind λd=>bif Nat.beq (b4 d) n then(nQ p (JE bx.val) v).bind λc=>bif JG c then .ret (e.bI b { bx with val:=c }) else .fail else .fail
   else .fail
 | none=>.fail
def Hm(u:Ty):ax->Bool
 | .data t _=>Ty.beq t u
 | _=>false
def Gx:ax->Bool
 | .undef=>true
 | _=>false
def gZ(e:TypeId)(a v:ax)(d:St):Tree St :=
 match a with
 | .ptr b au p=>match d.mem b with
   | some f=>bif Nat.beq f.au au then(Hk f.buf p f.val).bind λc=>match c with
      | .data u _=>bif ui (find cx.T e) u then(bif bJ bf 8000000&&JF u v then jE b au p u.size v d else match om d u v with
       | some (y,d)=>storeAt b au p (Hm u) (.data u y) d
       | none=>.fail) else .fail
      | _=>bif nR cx e v&&isRef v then storeAt b au p (λc=>(nR cx e c&&isRef c)||Gx c) v d else .fail
     else .fail
   | none=>.fail
 | _=>.fail
def o7:Operand->Bool
 | .const (.slice none 0 0)=>true
 | _=>false
def sO(d:TypeId)(a:ax)(c:St):Tree St :=
 match a,find cx.T d with
 | .ptr b au p,some (.slice e)=>bif Nat.blt 0 e.size then c.aw (b*1000+990) (.data (.slice e) []) 0 true λv c=>jE b au p 1 (.whole (b*1000+990) v) c else .fail
 | _,_=>.fail
def JH(d:Nat):List Nat->Option Nat
 | []=>none
 | m::r=>bif Nat.ble 8500000 m&&Nat.blt m 8999999&&Nat.beq ((m-8500000) / 10) d then some ((m-8500000) % 10) else JH d r
def NB:Ty->Nat->ax->ax
 | .pair _ b,0,v=>.mix v (Gw b b.zero)
 | .pair a b,k+1,v=>.mix (.data a a.zero) (NB b k v)
 | t,_,_=>.data t t.zero
def mK(d:Nat)(t:Ty)(k:Nat)(a:St):Tree St :=
 match lB t k with
 | some (.slice e)=>bif Nat.blt 0 e.size then a.aw (nb+d) (.data (.slice e) []) 0 true λb a=>.ret (a.put d<|NB t k<|.whole (nb+d) b) else .fail
 | _=>.fail
def zeroAt(d:Option Nat)(a:List (Nat×Operand)):Option (Nat×Nat):=match d,a with
 | some d,[]=>match JH d bf with|some k=>some (d,k)|none=>none
 | _,_=>none
def hJ(d:Option Nat)(j:TypeId)(x:ax)(h i:Option Operand)(f:St):Tree St :=
 match find cx.T j,x with
 | some .str,.data .str s=>match bounds f (len (α:=UInt8) s) h i with
   | some (a,b)=>.need (inside a b<|len (α:=UInt8) s) (.ret<|f.aA d<|.data .str<|sub (α:=UInt8) s a<|minus b a)
   | none=>.fail
 | some (.slice u),.data (.slice e) l=>bif Ty.beq u e then(match bounds f (len (α:=e.den) l) h i with
   | some (a,b)=>.need (inside a b<|len (α:=e.den) l) (.ret<|f.aA d<|.data (.slice e)<|sub (α:=e.den) l a<|minus b a)
   | none=>.fail) else .fail
 | some (.slice u),.part c au l n=>match f.mem c with
   | some g=>bif Nat.beq g.au au&&(match g.row with|some (e,_)=>Ty.beq u e|none=>false) then(match bounds f n h i with
     | some (a,b)=>.need (inside a b n) (.ret<|f.aA d<|.part c au (plus l a)<|minus b a)
     | none=>.fail) else .fail
   | none=>.fail
 | some (.slice u),.whole c au=>match f.mem c with
   | some g=>bif Nat.beq g.au au&&g.buf then(match g.val with
     | .data (.slice e) l=>bif Ty.beq u e then(match h,i with
       | none,none=>.ret (f.aA d<|.whole c au)
       | h,i=>match bounds f (len (α:=e.den) l) h i with
         | some (a,b)=>.need (inside a b<|len (α:=e.den) l) (.ret<|f.aA d<|.part c au a<|minus b a)
         | none=>.fail) else .fail
     | _=>.fail) else .fail
   | none=>.fail
 | some (.arr m u),.ptr c au (s::q)=>bif live f c au&&Nat.ble m 4294967296 then(match bounds f m h i with
   | some (a,b)=>.need (inside a b m) (.ret<|f.aA d<|.win c au (s::q) u m a<|minus b a)
   | none=>.fail) else .fail
 | some (.arr m u),.ptr c au []=>match f.mem c with
   | some g=>bif Nat.beq g.au au&&!g.buf then(match g.val with
     | .data (.arr n e) _=>bif Nat.beq m n&&Ty.beq u e&&Nat.ble n 4294967296 then(match bounds f n h i with
       | some (a,b)=>.need (inside a b n) (.ret<|f.aA d<|.part c au a<|minus b a)
       | none=>.fail) else .fail
     | _=>.fail) else .fail
   | none=>.fail
 | _,_=>.fail
def o8(d:St)(b a:Nat):Option (Ty×Int):=match d.mem b with
 | some c=>bif Nat.beq c.au a then(match c.buf,c.val with
   | true,.data (.slice e) l=>some (e,len (α:=e.den) l)
   | false,.data (.arr n e) _=>some (e,n)
   | _,_=>none) else none
 | none=>none
def zY(a:TypeId):Option Nat :=
 match find cx.T a with
 | some _=>none
 | none=>match find cx.JB a with
   | some e=>bif bJ cx.ml e then some e else none
   | none=>none
def wP(d:Option Nat)(b a:Nat)(c:St)(i:Int):Nat->Nat->Tree St
 | 0,_=>.fail
 | m+1,k=>.node (aQ i k) (.ret<|c.aA d<|.ptr b a [.AR k k]) (wP d b a c i m<|k+1)
def v7:List rW->Bool
 | [.AR _ off]=>Nat.beq off 0
 | _=>false
def cR(d:Option Nat)(c:TypeId)(x:ax)(i:Int)(a:St):Tree St :=
 match find cx.T c,x with
 | some (.slice u),.data (.slice e) l=>bif Ty.beq u e then .look (idx (l:List e.den) i) λy=>.ret (a.aA d<|.cell e y) else .fail
 | some (.arr m u),.cell (.arr n e) l=>bif Ty.beq u e&&Nat.beq m n then .look (idx (l:List e.den) i) λy=>.ret (a.aA d<|.cell e y) else .fail
 | some (.slice u),.whole b au=>match o8 a b au with
   | some (e,n)=>bif Ty.beq u e then .need (within i n) (.ret<|a.aA d<|.ptr b au [.idx i e.size]) else .fail
   | none=>.fail
 | some (.slice u),.part b au lo n=>match o8 a b au with
   | some (e,_)=>bif Ty.beq u e then .need (within i n) (.ret<|a.aA d<|.ptr b au [.idx (plus lo i) e.size]) else .fail
   | none=>.fail
 | some (.arr m u),.ptr b au p=>bif live a b au then .need (within i m) (.ret<|a.aA d<|.ptr b au<|p++[.idx i u.size]) else .fail
 | none,.win b au q _ _ lo n=>match zY cx c with
   | some _=>bif v7 q&&decide (lo=0)&&live a b au then wP d b au a i n.toNat 0 else .fail
   | none=>.fail
 | _,_=>.fail
def hM(d:Option Nat)(c:TypeId)(x:ax)(i:Int)(a:St):Tree St :=
 match x,zY cx c with
 | .win b au q _ _ lo n,some _=>bif v7 q&&decide (lo=0)&&live a b au then(match i with
  | .ofNat k=>bif decide ((k:Int)<n) then .ret (a.aA d<|.ptr b au [.AR k k]) else .fail
  | .negSucc _=>.fail) else .fail
 | x,_=>cR cx d c x i a
def hU(d:Option Nat)(c:TypeId)(x:ax)(i:Int)(a:St):Tree St :=
 match find cx.T c,x with
 | some .str,.data .str s=>.look (idx (s:aE) i) λb=>.ret (a.aA d<|.data (.int .u8)<|u8 b)
 | some (.arr m u),.data (.arr n e) l=>bif Ty.beq u e&&Nat.beq m n then .look (idx (l:List e.den) i) λy=>.ret (a.aA d<|.data e y) else .fail
 | _,_=>.fail
def jl.size:jl->Nat
 | .bW t=>t.size
 | _=>1
def o9:List jl->Nat->Option Nat
 | [],_=>none
 | _::_,0=>some 0
 | f::r,k+1=>match o9 r k with|some o=>some (f.size+o)|none=>none
def di(d:Option Nat)(s:TypeId)(x:ax)(k:Nat)(a:St):Tree St :=
 match x with
 | .cell u y=>bif ui (find cx.T s) u then(match iB (.data u y) k with
   | some (_,.data t z)=>.ret (a.aA d<|.cell t z)
   | _=>.fail) else .fail
 | .ptr b au p=>bif live a b au then(match find cx.T s with
   | some t=>match fP t k,lB t k with
     | some off,some _=>.ret (a.aA d<|.ptr b au<|p++[.AR k off])
     | _,_=>.fail
   | none=>match find cx.nk s with
     | some c=>match o9 c k with
       | some off=>.ret (a.aA d<|.ptr b au<|p++[.AR k off])
       | none=>.fail
     | none=>.fail) else .fail
 | _=>.fail
def eI(d:Option Nat)(b dst:TypeId)(x:ax)(a:St):Tree St :=
 match find cx.T b,find cx.T dst,x with
 | some (.int _),some (.int k),.data (.int _) n=>.ret (a.aA d<|.data (.int k)<|mB k n)
 | some .str,some .str,.data .str s=>.ret (a.aA d<|.data .str s)
 | some .str,some (.slice<|.int .u8),.data .str s=>match d with
   | some d=>.need (fits<|len (α:=UInt8) s) (a.aw (nb+d) (.data (.slice<|.int .u8)<|al s) 0 true λc a=>.ret (a.put d<|.whole (nb+d) c))
   | none=>.fail
 | some (.slice<|.int .u8),some .str,x=>match ek (.int .u8) a x with
   | some l=>.ret (a.aA d<|.data .str<|aH l)
   | none=>.fail
 | _,_,_=>.fail
def mL(e:Ty)(a:St)(x:ax):Option (List e.den):=match x with
 | .data .str t=>toL (.int .u8) e (al t)
 | x=>ek e a x
def NC(a t:Nat):Bool:=Nat.beq t 0||(match find cx.JB a with|some e=>Nat.beq e t|none=>false)
def eS(d:Option Nat)(ty:TypeId)(s x:ax)(a:St):Tree St :=
 match d,find cx.T ty with
 | some d,some (.slice e) =>
   match mL e a x with
   | some m=>match s with
     | .jt=>.need (fits<|len (α:=e.den) m) (a.aw (nb+d) (.data (.slice e) m) 0 true λau a=>.ret (a.put d<|.whole (nb+d) au))
     | .whole b au=>match a.mem b,ek e a (.whole b au) with
       | some c,some l=>bif c.lk||!NC cx ty c.tid then .fail else
         .need (fits<|plus (len (α:=e.den) l)<|len (α:=e.den) m) (.ret<|(a.bI b { c with val:=.data (.slice e) (app (α:=e.den) l m),au:=au+1 }).put d<|.whole b<|au+1)
       | _,_=>.fail
     | _=>.fail
   | none=>.fail
 | _,_=>.fail
def gi(e:Ty)(m:List e.den)(b d:Nat)(q:List rW)(f:Nat->Ty->Bool)(i:Int)(g:St):Tree St :=
 match g.mem b with
 | some a=>bif Nat.beq a.au d&&!a.lk&&!a.ro then
    (match a.buf with
    | true=>match q,a.val with
      | [],.data (.slice u) l=>match toL e u m with
        | some m=>.ret (g.bI b { a with val:=.data (.slice u) (over (α:=u.den) l i m) })
        | none=>.fail
      | _,_=>.fail
    | false=>(Hj q a.val).bind λh=>match h with
      | .data (.arr k u) l=>bif f k u then(match toL e u m with
        | some m=>(nQ q a.val<|.data (.arr k u)<|over (α:=u.den) l i m).bind λc=>.ret (g.bI b { a with val:=c })
        | none=>.fail) else .fail
      | _=>.fail)
   else .fail
 | none=>.fail
def uj(e:Ty)(m:Int->List e.den)(t:ax)(a:St):Tree (Int×St) :=
 match t with
 | .part b au lo n=>(gi e (m n) b au [] (λ_ _=>true) lo a).bind λa=>.ret (n,a)
 | .whole b au=>match lenOf a t with|some n=>(gi e (m n) b au [] (λ_ _=>true) 0 a).bind λa=>.ret (n,a)|none=>.fail
 | .win b au q u k lo n=>(gi e (m n) b au q (λc d=>Nat.beq k c&&Ty.beq u d) lo a).bind λa=>.ret (n,a)
 | _=>.fail
def oo(d:Option Nat)(b:TypeId)(t x:ax)(a:St):Tree St :=
 match find cx.T b with
 | some (.slice e)=>match mL e a x with
   | none=>.fail
   | some m=>(uj e (λn=>iq (α:=e.den) m n) t a).bind λr=>.ret (r.2.aA d<|.data (.int .i64)<|len<|iq (α:=e.den) m r.1)
 | _=>.fail
def oq(a:TypeId)(t:ax)(b:St):Tree St :=
 match find cx.T a with
 | some (.slice e)=>(uj e (λn=>AQ n e.zero) t b).bind λr=>.ret r.2
 | _=>.fail
def ru:(o:OT)->o.den->(N M:List (Nat×Nat))->ax
 | .bW t,x,_,_=>.data t x
 | .buf _ _,_,_,M=>match M with|(b,v)::_=>.whole b v|[]=>.undef
 | .map,_,_,M=>match M with|(b,v)::_=>.kM b v|[]=>.undef
 | .ref _ _,_,N,_=>match N with|(b,v)::_=>.ptr b v []|[]=>.undef
 | .rf _ _,_,_,M=>match M with|(b,v)::_=>.ptr b v []|[]=>.undef
 | .pair p q,u,N,M=>.mix (ru p u.1 (N.take p.nr)<|M.take p.nb) (ru q u.2 (N.drop p.nr)<|M.drop p.nb)
 | .unit,_,_,_=>.data .unit ()
 | .cB,_,_,_=>.cB
def dF:(o:OT)->o.den->(N M:List (Nat×Nat))->Nat->Option aS
 | .bW _,_,_,_,_=>none
 | .buf e a,l,_,M,c=>match M with
   | (b,v)::_=>bif Nat.beq c b then some { val:=.data (.slice e) l,tid:=a,buf:=true,ro:=false,lk:=false,au:=v } else none
   | []=>none
 | .map,l,_,M,c=>match M with
   | (b,v)::_=>bif Nat.beq c b then some { val:=.ju l,tid:=0,buf:=true,ro:=false,lk:=false,au:=v } else none
   | []=>none
 | .ref tid o,u,N,M,c=>match N with
   | (b,v)::N=>bif Nat.beq c b then some { val:=ru o u N M,tid,buf:=false,ro:=false,lk:=false,au:=v } else dF o u N M c
   | []=>none
 | .rf tid o,u,N,M,c=>match M with
   | (b,v)::M=>bif Nat.beq c b then some { val:=ru o u N M,tid,buf:=false,ro:=false,lk:=false,au:=v } else dF o u N M c
   | []=>none
 | .pair p q,u,N,M,c=>match dF p u.1 (N.take p.nr) (M.take p.nb) c with
   | some x=>some x
   | none=>dF q u.2 (N.drop p.nr) (M.drop p.nb) c
 | .unit,_,_,_,_=>none
 | .cB,_,_,_,_=>none
def bE(d:Nat->Option aS):(o:OT)->ax->Option (o.den×List (Nat×Nat)×List (Nat×Nat))
 | .bW t,v=>match toS t v with|some x=>some (x,[],[])|none=>none
 | .buf e f,v=>match v with
   | .whole b au=>match d b with
     | some c=>bif Nat.beq c.au au&&c.buf&&!c.lk&&!c.ro&&Nat.beq c.tid f&&Nat.blt 0 e.size then(match c.val with
       | .data (.slice u) l=>match toL u e l with|some l=>some (l,[],[(b,au)])|none=>none
       | _=>none) else none
     | none=>none
   | _=>none
 | .map,v=>match v with
   | .kM b au=>match d b with
     | some c=>bif Nat.beq c.au au&&c.buf&&!c.lk&&!c.ro then(match c.val with
       | .ju l=>some (l,[],[(b,au)])
       | _=>none) else none
     | none=>none
   | _=>none
 | .ref tid o,v=>match v with
   | .ptr b au []=>match d b with
     | some c=>bif Nat.beq c.au au&&!c.buf&&!c.lk&&!c.ro&&Nat.beq c.tid tid then(match bE d o c.val with
       | some (u,N,M)=>some (u,(b,au)::N,M)
       | none=>none) else none
     | none=>none
   | _=>none
 | .rf tid o,v=>match v with
   | .ptr b au []=>match d b with
     | some c=>bif Nat.beq c.au au&&!c.buf&&!c.lk&&!c.ro&&Nat.beq c.tid tid then(match bE d o c.val with
       | some (u,N,M)=>some (u,N,(b,au)::M)
       | none=>none) else none
     | none=>none
   | _=>none
 | .pair p q,v=>match v with
   | .mix a b=>match bE d p a,bE d q b with
     | some (x,N,M),some (y,g,h)=>some ((x,y),N++g,M++h)
     | _,_=>none
   | _=>none
 | .unit,v=>match v with|.data .unit _=>some ((),[],[])|_=>none
 | .cB,v=>match v with|.cB=>some ((),[],[])|_=>none
def wQ:List Nat->Bool
 | []=>true
 | b::r=>!bJ r b&&wQ r
def aF(N M:List (Nat×Nat)):List Nat:=N.map (·.1)++M.map (·.1)
def cV(b:St):List Bool->(A:Ty)->(U:OT)->List ax->Option (A.den×U.den×List (Nat×Nat)×List (Nat×Nat))
 | [],A,U,a=>match A,U,a with
   | .unit,.unit,[]=>some ((),(),[],[])
   | _,_,_=>none
 | false::ps,A,U,a=>match A,a with
   | .pair t A,v::a=>match toD t v,cV b ps A U a with
     | some x,some (y,u,q)=>some ((x,y),u,q)
     | _,_=>none
   | _,_=>none
 | true::ps,A,U,a=>match U,a with
   | .pair (.ref tid o) U,v::a=>match bE b.mem (.ref tid o) v,cV b ps A U a with
     | some (x,N,M),some (y,u,c,d)=>some (y,(x,u),N++c,M++d)
     | _,_=>none
   | .pair .cB U,.cB::a=>match cV b ps A U a with
     | some (y,u,q)=>some (y,((),u),q)
     | none=>none
   | _,_=>none
def Ho(f:Nat):List ax->Nat
 | .cB::_=>2*f+1
 | _=>2*f
def gG(U:OT)(u:U.den)(N M:List (Nat×Nat))(a:St):St :=
 { a with mem:=λc=>match dF U u N (M.map λp=>(p.1,p.2+1)) c with
  | some b=>some b
  | none=>a.mem c }
def v8:ax->Bool
 | .whole ..=>true
 | _=>false
def qV(s:IW)(d:Option Nat)(a:List ax)(e:St):Tree St :=
 match s,a with
 | .NA T,[.ptr b au []]=>match e.mem b with
   | some c=>match c.val with
     | .mix (.ny f g) (.mix u<|.data .unit _)=>bif Nat.beq c.au au&&!c.buf&&!c.lk&&!c.ro&&Nat.beq c.tid T&&Nat.blt 0 T&&Nat.beq f b&&Nat.beq g au&&v8 u then .ret (e.aA d<|.pG .nl) else .fail
     | _=>.fail
   | none=>.fail
 | .str T E,[.ptr b au []]=>match e.mem b with
   | some c=>match c.val with
     | .mix (.ny _ _) (.mix (.whole h hv)<|.data .unit _)=>bif Nat.beq c.au au&&!c.buf&&Nat.beq c.tid T&&Nat.blt 0 T&&!Nat.beq h b then(match e.mem h with
       | some hx=>bif Nat.beq hx.au hv&&hx.buf&&!hx.lk&&Nat.beq hx.tid E&&Nat.blt 0 E then(match hx.val with
         | .data (.slice<|.int .u8) l=>.ret ((e.bI h { hx with val:=.data (.slice<|.int .u8) [],au:=hx.au+1 }).aA d<|.data .str<|aH l)
         | _=>.fail) else .fail
       | none=>.fail) else .fail
     | _=>.fail
   | none=>.fail
 | .look ps A R spec,a=>match rE e ps A a with
   | some x=>.look (spec x) λy=>.ret (e.aA d<|kb R y)
   | none=>.fail
 | _,_=>.fail
def ownRow(d:Option Nat):Option Nat:=match d with|some d=>bif bJ bf (4000000+d) then some d else none|none=>none
def CM(d:Option Nat):Option Nat:=match d with|some d=>bif bJ bf d then some d else none|none=>none
def hW(e:Ty)(d:Option Nat)(a:List ax)(b:St):Tree St :=
 match d,a with
 | some d,[x]=>match om b (.slice e) x with
   | some (l,b)=>bif Nat.blt 0 e.size then .need (fits<|len (α:=e.den) l) (b.aw (nb+d) (.data (.slice e) l) 0 true λc b=>.ret (b.put d<|.whole (nb+d) c)) else .fail
   | none=>.fail
 | _,_=>.fail
def hY(g:Nat)(d:Option Nat)(a:List ax)(b:St):Tree St :=
 match d,a with
 | some _,[.undef]=>.fail
 | some _,[.pG _]=>.fail
 | some d,[v]=>bif Nat.blt g 10000000 then b.aw (nb+d) v 0 false λc b=>.ret (b.put d<|.fn g [(nb+d,c)]) else .fail
 | _,_=>.fail
def sP(T:Nat)(d:Option Nat)(c:List ax)(a:St):Tree St :=
 match d,c with
 | some d,[.ptr b au []]=>match a.mem b with
   | some f=>match f.val with
     | .mix (.kM i j) (.mix (.data (.int .i64) n)<|.data .unit _)=>bif Nat.beq f.au au&&!f.buf&&Nat.beq f.tid T&&Nat.blt 0 T then(match a.mem i with
       | some g=>bif Nat.beq g.au j&&g.buf then(match g.val with
         | .ju l=>a.aw ((nb+d)*1000+999) (.ju l) 0 true λh a=>a.aw (nb+d) (.mix (.kM ((nb+d)*1000+999) h)<|.mix (.data (.int .i64) n)<|.data .unit ()) T false λe a=>.ret (a.put d<|.ptr (nb+d) e [])
         | _=>.fail) else .fail
       | none=>.fail) else .fail
     | _=>.fail
   | none=>.fail
 | _,_=>.fail
def pa(e:Ty)(c:St):ax->Option (Nat×Nat×aS×List e.den)
 | .whole b au=>match c.mem b with
   | some a=>bif Nat.beq a.au au&&a.buf&&!a.lk&&!a.ro&&Nat.beq a.tid 0 then(match a.val with
     | .data (.slice u) l=>(match toL u e l with|some l=>some (b,au,a,l)|none=>none)
     | _=>none) else none
   | none=>none
 | .part b au lo n=>match c.mem b with
   | some a=>bif Nat.beq a.au au&&a.buf&&!a.lk&&!a.ro&&Nat.beq a.tid 0&&decide (lo=0) then(match a.val with
     | .data (.slice u) l=>(match toL u e l with|some l=>some (b,au,a,sub (α:=e.den) l lo n)|none=>none)
     | _=>none) else none
   | none=>none
 | _=>none
def ld(e A:Ty)(g:Bool)(a:List e.den->A.den->Option (List e.den))(d:Option Nat)(c:List ax)(f:St):Tree St :=
 match c with
 | v::j=>match gE f A j with
   | some (x,f)=>match pa e f v with
     | some (b,au,h,l)=>.look (a l x) λi=>match g,d with
       | true,some d=>.ret ((f.bI b { h with val:=.data (.slice e) i,au:=au+1 }).put d<|.whole b<|au+1)
       | false,d=>bif v8 v then .ret ((f.bI b { h with val:=.data (.slice e) i }).aA d<|.pG .nl) else .fail
       | _,_=>.fail
     | none=>.fail
   | none=>.fail
 | []=>.fail
def kR(d:Option Nat)(f:Nat):Option IW :=
 match find cx.yT f with
 | some (.clone e)=>match CM bf d with|some _=>some (.clone e)|none=>none
 | some (.own e A r s)=>some (.own e A r s)
 | some (.p7 g)=>some (.p7 g)
 | some (.Ni T)=>some (.Ni T)
 | _=>none
def nS(d:Option Nat)(f:Nat)(a:List ax)(b:St):Tree St :=
 match find cx.Cr f with
 | some c=>match c.R.flat with
   | true=>match ef b c.A a with
     | some x=>.look (c.spec x) λy=>.ret (b.aA d<|kb c.R y)
     | none=>.fail
   | false=>match gE b c.A a with
     | some (x,b)=>.look (c.spec x) λy=>.ret (b.aA d<|kb c.R y)
     | none=>.fail
 | none=>match find cx.yT f with
  | some s=>qV s d a b
  | none=>match find cx.rX (Ho f a) with
   | some c=>(match cV b c.ps c.A c.U a with
     | some (x,u,N,M)=>bif wQ (aF N M) then .look (c.spec (x,u)) λy=>.ret ((gG c.U y.2 N M b).aA d<|kb c.R y.1) else .fail
     | none=>(inl f a b).bind λr=>.ret (r.2.aA d r.1))
   | none=>(inl f a b).bind λr=>.ret (r.2.aA d r.1)
def mn(d:Option Nat)(f:Nat)(a:List ax)(b:St):Tree St :=
 match kR cx bf d f with
 | some (.clone e)=>hW nb e d a b
 | some (.own e A r s)=>ld e A r s d a b
 | some (.p7 g)=>hY nb g d a b
 | some (.Ni T)=>sP nb T d a b
 | _=>nS cx inl d f a b
def CN:(t:Ty)->(u:Nat)->Option ((a:Ty)×(a.den->t.den))
 | .alt n a r,u=>bif Nat.beq n u then some ⟨a,.inl⟩ else match CN r u with
   | some ⟨b,f⟩=>some ⟨b,λx=>.inr (f x)⟩
   | none=>none
 | _,_=>none
def kS(d:Option Nat)(c u:TypeId)(x:ax)(b:St):Tree St :=
 match find cx.T c with
 | some t=>match CN t u with
   | some ⟨a,f⟩=>match om b a x with
     | some (y,b)=>.ret (b.aA d<|.data t<|f y)
     | none=>.fail
   | none=>.fail
 | none=>.fail
def kT(d:Option Nat)(a:String)(b:List ax)(e:St):Tree St :=
 match CK cx.inv a with
 | some c=>match gE e c.A b with
   | some (x,e)=>.look (c.spec x) λy=>.ret (e.aA d<|kb c.R y)
   | none=>.fail
 | none=>.fail
def mM(d:Option Nat)(h:TypeId)(c:Call)(a:St):Tree St :=
 match c.callee with
 | .builtin b=>match b,c.args.toList.map (bG a),c.argTypes.toList with
   | .len,[x],[t]=>bif Gv (find cx.T t) x then(match lenOf a x with
     | some n=>.ret (a.aA d<|.data (.int .i64) n)
     | none=>.fail) else(match zY cx t,x with
     | some _,.win b au _ _ _ _ n=>bif live a b au&&decide (n<=64) then .ret (a.aA d<|.data (.int .i64) n) else .fail
     | _,_=>.fail)
   | .append,[s,x],[t,u]=>match find cx.T u with
     | some .str|some (.slice _)=>eS cx nb d t s x a
     | _=>.fail
   | .copy,[t,x],[g,tx]=>match find cx.T tx with
     | some .str|some (.slice _)=>oo cx d g t x a
     | _=>.fail
   | .clear,[t],[g]=>match d with|none=>oq cx g t a|some _=>.fail
   | .min,[x,y],_=>AV true x y |>.bind λv=>.ret (a.aA d v)
   | .max,[x,y],_=>AV false x y |>.bind λv=>.ret (a.aA d v)
   | _,_,_=>.fail
 | .value f=>match bG a f with
   | .fn f e=>bif e.all (λb=>live a b.1 b.2) then mn cx nb bf inl d (AU f) (JC f (c.args.toList.map<|bG a)<|e.map λb=>.ptr b.1 b.2 []) a else .fail
   | _=>.fail
 | .invoke r name=>kT cx d name (bG a r::c.args.toList.map (bG a)) a
def qa:List ax->Option (List<|Nat×Nat)
 | []=>some []
 | .ptr b au []::r=>(qa r).map ((b,au)::·)
 | _=>none
def wa(a:St)(b:Nat):Nat:=match a.mem b with|some bx=>bx.au+1|none=>0
def mkObj(b a:Nat):List jl->Nat->St->Tree (ax×St)
 | [],_,σ=>.ret (.data .unit (),σ)
 | .bW t::r,j,σ=>(mkObj b a r (j+1) σ).bind λx=>.ret (.mix (.data t t.zero) x.1,x.2)
 | .one::r,j,σ=>(mkObj b a r (j+1) σ).bind λx=>.ret (.mix .cB x.1,x.2)
 | .self::r,j,σ=>(mkObj b a r (j+1) σ).bind λx=>.ret (.mix (.ny b a) x.1,x.2)
 | .buf e c::r,j,σ=>bif Nat.blt 0 e.size then σ.aw (b*1000+999-j) (.data (.slice e) []) c true λv σ=>(mkObj b a r (j+1) σ).bind λx=>.ret (.mix (.whole (b*1000+999-j) v) x.1,x.2) else .fail
 | .map::r,j,σ=>σ.aw (b*1000+999-j) (.ju []) 0 true λv σ=>(mkObj b a r (j+1) σ).bind λx=>.ret (.mix (.kM (b*1000+999-j) v) x.1,x.2)
def jF:List jl->Option ax
 | []=>some (.data .unit ())
 | .bW t::r=>match jF r with|some v=>some (.mix (.data t t.zero) v)|none=>none
 | .buf _ _::r=>match jF r with|some v=>some (.mix .jt v)|none=>none
 | .one::r=>match jF r with|some v=>some (.mix .cB v)|none=>none
 | .self::_=>none
 | .map::r=>match jF r with|some v=>some (.mix .vv v)|none=>none
def ND:ax->Bool
 | .ptr _ _ _=>true
 | .whole _ _=>true
 | _=>false
def gP(a:St)(b:List jl):ax->List (Nat×Operand)->Option ax
 | v,[]=>some v
 | v,(k,x)::r=>match iB v k,o9 b k,b[k]? with
   | some (o,.data t _),some c,some f=>bif Nat.beq o c&&Nat.beq t.size f.size then(match toS t (bG a x) with
     | some y=>match(rY v k λ_=>.ret (.data t y)).run with
       | some v=>gP a b v r
       | none=>none
     | none=>none) else none
   | some (o,z),some c,some f=>bif Nat.beq o c&&Nat.beq 1 f.size&&Nat.beq (b4 z) 1&&ND (bG a x) then(match(rY v k λ_=>.ret (bG a x)).run with
    | some v=>gP a b v r
    | none=>none) else none
   | _,_,_=>none
def eC(b:Nat):List jl->Nat->ax->St->Tree (ax×St)
 | [],_,.data .unit x,σ=>.ret (.data .unit x,σ)
 | .bW _::r,j,.mix (.data u y) v,σ=>(eC b r (j+1) v σ).bind λx=>.ret (.mix (.data u y) x.1,x.2)
 | .one::r,j,.mix .cB v,σ=>(eC b r (j+1) v σ).bind λx=>.ret (.mix .cB x.1,x.2)
 | .one::r,j,.mix (.ptr c d p) v,σ=>(eC b r (j+1) v σ).bind λx=>.ret (.mix (.ptr c d p) x.1,x.2)
 | .buf _ _::r,j,.mix (.whole c d) v,σ=>(eC b r (j+1) v σ).bind λx=>.ret (.mix (.whole c d) x.1,x.2)
 | .buf e f::r,j,.mix .jt v,σ=>bif Nat.blt 0 e.size then σ.aw (b*1000+999-j) (.data (.slice e) []) f true λa σ=>(eC b r (j+1) v σ).bind λx=>.ret (.mix (.whole (b*1000+999-j) a) x.1,x.2) else .fail
 | .map::r,j,.mix .vv v,σ=>σ.aw (b*1000+999-j) (.ju []) 0 true λa σ=>(eC b r (j+1) v σ).bind λx=>.ret (.mix (.kM (b*1000+999-j) a) x.1,x.2)
 | _,_,_,_=>.fail
def qb(a:St):Nat->List (Nat×Operand)->Option ax
 | _,[]=>some (.data .unit ())
 | k,(j,x)::r=>bif Nat.beq j k then(match bG a x,qb a (k+1) r with
   | .cB,some v=>some (.mix .cB v)
   | .ptr b au p,some v=>some (.mix (.ptr b au p) v)
   | .fn f c,some v=>some (.mix (.fn f c) v)
   | _,_=>none) else none
def qW(d:Option Nat)(t:TypeId)(a:Nat)(b:List (Nat×Operand))(c:St):Tree St :=
 match d,zY cx t,qb c 0 b with
 | some d,some _,some v=>bif Nat.beq a b.length&&Nat.blt 0 a&&Nat.ble a 64 then
  c.aw (nb+d) v 0 false λe c=>.ret (c.put d<|.win (nb+d) e [.AR 0 0] .bool a 0 a) else .fail
 | _,_,_=>.fail
def sQ(d:Option Nat)(a:TypeId)(x:ax)(c:St):Tree St :=
 match d,x with
 | some _,.undef=>.fail
 | some _,.pG _=>.fail
 | some d,v=>match find cx.nk a with
   | some e=>(eC (nb+d) e 0 v c).bind λr=>r.2.aw (nb+d) r.1 a false λb c=>.ret (c.put d<|.ptr (nb+d) b [])
   | none=>c.aw (nb+d) v 0 false λb c=>.ret (c.put d<|.ptr (nb+d) b [])
 | none,_=>.fail
def mC(d:Nat)(t:Ty)(a:St):Tree St :=
 match CM bf (some d),t with
 | some _,.slice e=>bif Nat.blt 0 e.size then a.aw ((nb+d)*1000+999) (.data (.slice e) []) 0 true λv a =>
  a.aw (nb+d) (.whole ((nb+d)*1000+999) v) 0 false λb a=>.ret (a.put d<|.ptr (nb+d) b []) else .fail
 | _,t=>a.aw (nb+d) (.data t t.zero) 0 false λb a=>.ret (a.put d<|.ptr (nb+d) b [])
def kd(o:Oper)(σ:St):Tree St :=
 match o.op with
 | .move x|.assign x=>fQ cx nb bf o.dst o.type (bG σ x) σ
 | .pick c a b=>jw o.dst (bG σ c) (bG σ a) (bG σ b) σ
 | .alloc elem=>match o.dst,find cx.T elem with
   | some d,some t=>mC nb bf d t σ
   | some d,none=>match find cx.nk elem with
     | some j=>(mkObj (nb+d) (wa σ<|nb+d) j 0 σ).bind λr=>r.2.aw (nb+d) r.1 elem false λg σ=>.ret (σ.put d<|.ptr (nb+d) g [])
     | none=>bif bJ cx.ml elem then σ.aw (nb+d) .undef 0 false λg σ=>.ret (σ.put d<|.ptr (nb+d) g []) else .fail
   | _,_=>.fail
 | .box elem x=>sQ cx nb o.dst elem (bG σ x) σ
 | .build t parts=>match find cx.T t with
   | some (.pair a b)=>match zeroAt bf o.dst parts.toList with
     | some (d,k)=>mK nb d (.pair a b) k σ
     | none=>match en σ (.pair a b) (Ty.pair a b).zero parts.toList with
       | some (x,σ)=>.ret (σ.aA o.dst<|.data (.pair a b) x)
       | none=>.fail
   | some (.arr n e)=>match du σ e (List.replicate n e.zero) parts.toList with
     | some (l,σ)=>.ret (σ.aA o.dst<|.data (.arr n e) l)
     | none=>.fail
   | none=>match find cx.nk t with
     | some j=>match jF j with
       | some z=>match gP σ j z parts.toList with
         | some (.mix p q)=>.ret (σ.aA o.dst<|.mix p q)
         | some (.data .unit _)=>.ret (σ.aA o.dst<|.data .unit ())
         | _=>.fail
       | none=>.fail
     | none=>.fail
   | _=>.fail
 | .buildSlice t len parts=>match find cx.T t with
   | some (.slice e)=>match CM bf o.dst,len,parts.toList with
     | some d,0,[]=>σ.aw (nb+d) (.data (.slice e) []) 0 true λg σ=>.ret (σ.put d<|.whole (nb+d) g)
     | _,_,_=>bif Nat.ble (len*e.size) 65536 then(match du σ e (List.replicate len e.zero) parts.toList with
     | some (l,σ)=>(match ownRow bf o.dst with
       | some d=>σ.aw (nb+d) (.data (.slice e) l) 0 true λg σ=>.ret (σ.put d<|.whole (nb+d) g)
       | none=>.ret (σ.aA o.dst<|.data (.slice e) l))
     | none=>.fail) else .fail
   | none=>qW cx nb o.dst t len parts.toList σ
   | _=>.fail
 | .load t a=>gO cx o.dst t (bG σ a) σ
 | .store t a x=>match o.dst with|none=>bif bJ bf 8000001&&o7 x then sO cx t (bG σ a) σ else gZ cx bf t (bG σ a) (bG σ x) σ|some _=>.fail
 | .nilCheck x=>match bG σ x with
   | .ptr b g p=>bif live σ b g then .ret (σ.aA o.dst<|.ptr b g p) else .fail
   | .cell t x=>.ret (σ.aA o.dst<|.cell t x)
   | .fn f c=>.ret (σ.aA o.dst<|.fn f c)
   | _=>.fail
 | .binOp op m x y _=>(JD σ (find cx.T m) (bJ cx.iy m) op (bG σ x)<|bG σ y).bind λv=>.ret (σ.aA o.dst v)
 | .unOp op _ x=>(un op<|bG σ x).bind λv=>.ret (σ.aA o.dst v)
 | .convert src dst x=>eI cx nb o.dst src dst (bG σ x) σ
 | .makeFunc (.func f) first h=>match first.toList,qa (h.toList.map<|bG σ) with
   | [],some cs=>bif Nat.blt f 10000000 then .ret (σ.aA o.dst<|.fn f cs) else .fail
   | [x],some []=>(match qa [bG σ x] with
     | some cs=>bif Nat.blt f 10000000 then .ret (σ.aA o.dst<|.fn (f+10000000) cs) else .fail
     | none=>.fail)
   | _,_=>.fail
 | .slice t x lo w none=>hJ cx o.dst t (bG σ x) lo w σ
 | .fieldAddr s x k=>di cx o.dst s (bG σ x) k σ
 | .field m x k=>match bG σ x with
   | .data u y=>bif ui (find cx.T m) u then(match iB (.data u y) k with
     | some (_,v)=>.ret (σ.aA o.dst v)
     | none=>.fail) else .fail
   | _=>.fail
 | .indexAddr t x i=>match bG σ i with
   | .data (.int _) i=>bif bJ bf 5000000 then hM cx o.dst t (bG σ x) i σ else cR cx o.dst t (bG σ x) i σ
   | _=>.fail
 | .index t x i=>match bG σ i with
   | .data (.int _) i=>hU cx o.dst t (bG σ x) i σ
   | _=>.fail
 | .makeSlice t l c=>match o.dst,find cx.T t,bG σ l,bG σ c with
   | some d,some (.slice e),.data (.int _) l,.data (.int _) c =>
     .need (inside 0 l c) (.need (fits c)
      (σ.aw (nb+d) (.data (.slice e)<|AQ l e.zero) 0 true λg σ=>.ret (σ.put d<|.whole (nb+d) g)))
   | _,_,_,_=>.fail
 | .extract t k=>match bG σ t with
   | .pG A=>match nth A k with
     | some v=>.ret (σ.aA o.dst v)
     | none=>.fail
   | _=>.fail
 | .call c=>mM cx nb bf inl o.dst o.type c σ
 | .makeInterface u x=>kS cx o.dst o.type u (bG σ x) σ
 | _=>.fail
def pb(g:Option (Nat×Bool))(j:Nat)(a:Bool):Bool :=
 match g with|some (i,b)=>Nat.beq i j&&(b==a)|none=>false
def under(j:Nat)(want:Bool):(inner:List Nat)->List (Nat×Oper)->List (Nat×Oper)×List (Nat×Oper)
 | _,[]=>([],[])
 | inner,(i,o)::r =>
   bif pb o.guard j want then let x:=under j want (i::inner) r;((i,{ o with guard:=none })::x.1,x.2)
   else bif (match o.guard with|some (k,_)=>inner.any (Nat.beq k)|none=>false) then let x:=under j want (i::inner) r;((i,o)::x.1,x.2)
   else([],(i,o)::r)
def wc(a:Ctx):List (Nat×Oper)->Bool
 | []=>false
 | (_,o)::r=>(match o.op with
   | .call c=>match c.callee with
     | .value (.func f)=>match find a.Cr f with|some _=>false|none=>true
     | .value _=>true
     | .builtin .append=>true
     | _=>false
   | .store ..=>true
   | _=>false)||wc a r
def St.fb(σ:St):St:={ σ with mem:=λi=>match σ.mem i with|some b=>some { b with lk:=true }|none=>none }
def St.undef(a:St):List (Nat×Oper)->St
 | []=>a
 | (_,o)::r=>(a.undef r).aA o.dst .undef
def iZ(d:Nat):List (Nat×Oper)->Bool
 | []=>false
 | (_,o)::r=>(match o.dst with|some k=>Nat.beq k d|none=>false)||iZ d r
def pc(e:St)(f:Oper)(g:Nat)(d:Bool):Option ax :=
 match f.op with
 | .pick (.tmp c) a b=>bif Nat.beq c g then some (bG e<|bif d then a else b) else none
 | _=>none
def ke(a:Array Oper):Nat->List (Nat×Oper)->St->Tree St
 | 0,_,_=>.fail
 | n+1,[],σ=>.ret σ
 | n+1,(i,o)::r,σ =>
   match o.guard with
   | none=>(kd cx nb bf inl o σ).bind λσ=>ke a n r σ
   | some (j,want) =>
     let g:=under j want [] ((i,o)::r)
     match(a[j]?).bind (·.dst) with
     | none=>.fail
     | some d=>match σ.slots d,g.2 with
       | .data .bool c,(_,b)::rest=>bif iZ d g.1 then .fail else match b.guard with
         | some _=>.fail
         | none =>
           let e:=bif want then c else nt c
           bif wc cx g.1 then
            (Tree.node e ((ke a n g.1 σ).bind λσ=>match pc σ b d want with
              | some v=>.ret (σ.aA b.dst v)
              | none=>.fail)
             (match pc (σ.undef g.1) b d (!want) with
              | some v=>.ret ((σ.undef g.1).aA b.dst v)
              | none=>.fail)).bind λσ=>ke a n rest σ
           else match find cx.T b.type,b.dst with
            | some t,some f=>(Tree.node e ((ke a n g.1 σ.fb).bind λτ=>match(pc τ b d want).bind (toD t) with
              | some x=>.ret x
              | none=>.fail)
             (match(pc (σ.undef g.1) b d<|!want).bind (toD t) with
              | some x=>.ret x
              | none=>.fail)).join λx=>ke a n rest ((σ.undef g.1).put f<|.data t x)
            | _,_=>.fail
       | _,_=>.fail
def number:Nat->List Oper->List (Nat×Oper)
 | _,[]=>[]
 | k,o::r=>(k,o)::number (k+1) r
def wR(a:Array Oper)(b:St):Tree St:=ke cx nb bf inl a (2*a.size+1) (number 0 a.toList) b
def dm:Op->List Operand
 | .move x|.assign x|.box _ x|.load _ x|.nilCheck x|.unOp _ _ x|.convert _ _ x|.fieldAddr _ x _|.field _ x _|.extract x _=>[x]
 | .pick c a b=>[c,a,b]
 | .build _ ps|.buildSlice _ _ ps=>ps.toList.map (·.2)
 | .store _ a x=>[a,x]
 | .binOp _ _ x y _=>[x,y]
 | .makeFunc _ f c=>f.toList++c.toList
 | .slice _ x lo d _=>x::(lo.toList++d.toList)
 | .indexAddr _ x i|.index _ x i=>[x,i]
 | .makeSlice _ l c=>[l,c]
 | .call c=>(match c.callee with|.value f=>[f]|.invoke r _=>[r]|_=>[])++c.args.toList
 | .makeInterface _ x=>[x]
 | _=>[]
def tmpsOf:List Operand->List Nat
 | []=>[]
 | .tmp t::r=>t::tmpsOf r
 | _::r=>tmpsOf r
def iC(o:Oper)(σ:St):Option Nat:=match o.op with
 | .call c=>match c.callee with
   | .value x=>match bG σ x with
     | .fn f _=>some (AU f)
     | _=>none
   | _=>none
 | _=>none
def OD:Option Nat->Option Nat->Bool
 | some a,some b=>Nat.beq a b
 | none,none=>true
 | _,_=>false
def NF(f:Nat):Bool:=match find cx.rX (2*f) with
 | some _=>true
 | none=>match find cx.rX (2*f+1) with
   | some _=>true
   | none=>false
def cls(g:Option Nat)(o:Oper):Nat:=match o.op with
 | .assign _|.move _|.makeSlice ..|.convert ..=>1
 | .box e _=>match find cx.nk e with
   | some _=>3
   | none=>1
 | .alloc e=>match find cx.T e with
   | some (.slice _)=>3
   | some _=>1
   | none=>match find cx.nk e with
     | some _=>3
     | none=>1
 | .build ..|.buildSlice ..=>2
 | .store _ _ x=>bif o7 x then 3 else 2
 | .call c=>match c.callee with
   | .builtin .len|.builtin .min|.builtin .max=>0
   | .builtin .append=>2
   | .builtin _=>3
   | .value _=>match g with
     | some f=>match find cx.yT f with
       | some (.clone _)=>2
       | some (.own _ _ _ _)=>2
       | some (.p7 _)=>2
       | some (.Ni _)=>3
       | s=>match find cx.Cr f with
         | some c=>bif c.R.flat then 0 else 2
         | none=>match s,NF cx f with
           | some (.look _ _ _ _),_=>0
           | none,true=>2
           | _,_=>3
     | none=>3
   | .invoke ..=>2
 | .makeInterface ..=>2
 | _=>0
structure Fp where
 rd:List Nat
 wr:List Nat
 we:Bool
 fn:Option Nat
def lC(d:St):ax->List Nat
 | .ptr b _ _=>[b]
 | .whole b _=>[b]
 | .kM b _=>[b]
 | .part b _ _ _=>[b]
 | .win b _ _ _ _ _ _=>[b]
 | .fn _ c=>c.map (·.1)
 | .mix a b=>lC d a++lC d b
 | _=>[]
def refsOf(a:St):List Operand->List Nat
 | []=>[]
 | x::r=>lC a (bG a x)++refsOf a r
def OE(o:Oper)(a:St):List Nat:=match o.op with
 | .move _|.assign _=>[]
 | _=>refsOf a (dm o.op)
def AW(a:St):List ax->List Nat
 | []=>[]
 | .ptr b _ []::r=>(match a.mem b with|some c=>lC a c.val|none=>[])++AW a r
 | _::r=>AW a r
def reach(o:Oper)(a:St)(g:Option Nat):List Nat:=match o.op,g with
 | .call c,some f=>match find cx.rX (Ho f<|c.args.toList.map<|bG a) with
   | some k=>match cV a k.ps k.A k.U (c.args.toList.map<|bG a) with
     | some (_,_,N,M)=>aF N M
     | none=>[]
   | none=>match find cx.yT f with
     | some (.look _ _ _ _)=>AW a (c.args.toList.map<|bG a)
     | _=>[]
 | _,_=>[]
def own(o:Oper):List Nat:=match o.dst with|some d=>[nb+d]|none=>[]
def ou(o:Oper)(a:St):Fp :=
 let g:=iC o a
 let rd:=own nb o++(OE o a++reach cx o a g)
 match cls cx g o with
 | 0=>⟨rd,[],false,g⟩
 | 1=>⟨rd,own nb o,false,g⟩
 | 2=>⟨rd,rd,false,g⟩
 | _=>⟨[],[],true,g⟩
def St.only(σ:St)(ts a:List Nat):St:={ slots:=λt=>bif bJ ts t then σ.slots t else .undef,mem:=λb=>bif bJ a b then σ.mem b else none }
def lay(a:St)(d:Option Nat)(e:List Nat)(c:St):St :=
 { slots:=match d with|some d=>λt=>bif Nat.beq t d then c.slots d else a.slots t|none=>a.slots
   mem:=λb=>bif bJ e b then c.mem b else a.mem b }
def qc(_:Nat)(_:List ax)(_:St):Tree (ax×St):=.fail
def JI(b:Fp)(o:Oper)(a:St):Tree St:=bif OD (iC o a) b.fn then kd cx nb bf qc o a else .fail
def fc(a:Fp)(o:Oper)(σ:St):Tree St :=
 bif a.we then kd cx nb bf inl o σ
 else(JI cx nb bf a o<|σ.only (tmpsOf<|dm o.op) a.rd).bind λτ=>.ret (lay σ o.dst a.wr τ)
abbrev qd:=Nat×Oper×Fp×Nat
def maskAt:List qd->Nat->Nat
 | [],_=>0
 | (i,_,_,m)::r,k=>bif Nat.beq i k then m else maskAt r k
def mD(a:List qd):List Edge->Nat
 | []=>0
 | e::r=>bif Region.binds .any e then(mD a r ||| 2 ^ e.on) ||| maskAt a e.on else mD a r
def mask(a:List qd)(o:Oper):Nat:=mD a o.after.toList
def Hp(a b:List Nat):Bool:=a.all λx=>!bJ b x
def apart(x y:Oper)(f g:Fp):Bool :=
 !f.we&&!g.we&&Hp f.wr g.rd&&Hp g.wr f.rd &&
 (match x.dst with|some d=>!bJ (tmpsOf<|dm y.op) d&&(match y.dst with|some e=>!Nat.beq d e|none=>true)|none=>true) &&
 (match y.dst with|some e=>!bJ (tmpsOf<|dm x.op) e|none=>true)
def loose(o:Oper)(f:Fp)(m:Nat):List qd->Bool
 | []=>true
 | (k,ok,a,_)::r=>(Nat.testBit m k||apart ok o a f)&&loose o f m r
def wS:List (Nat×Oper)->List qd->St->Tree St
 | [],_,σ=>.ret σ
 | (i,o)::r,done,σ=>match o.guard with
   | some _=>.fail
   | none =>
     let f:=ou cx nb o σ
     let m:=mask done o
     bif loose o f m done&&(o.after.all λe=>!Region.binds .any e||Nat.blt e.on i) then
      (fc cx nb bf inl f o σ).bind λσ=>wS r ((i,o,f,m)::done) σ
     else .fail
def zZ(a:Array Oper)(o:Oper):List Nat:=match o.guard with
 | some (g,_)=>match(a[g]?).bind (·.dst) with|some d=>[d]|none=>[]
 | none=>[]
def rZ(a:Array Oper)(o:Oper):List Nat:=zZ a o++tmpsOf (dm o.op)
def ow(o:Oper)(k:Nat):Bool:=match o.guard with|some (g,_)=>!Nat.beq g k|none=>true
def qe(a:Array Oper)(i j:Nat)(x y:Oper)(f g:Fp):Bool :=
 !f.we&&!g.we&&Hp f.wr g.rd&&Hp g.wr f.rd&&ow x j&&ow y i &&
 (match x.dst with|some d=>!bJ (rZ a y) d&&(match y.dst with|some e=>!Nat.beq d e|none=>true)|none=>true) &&
 (match y.dst with|some e=>!bJ (rZ a x) e|none=>true)
def r0(a:Array Oper)(i:Nat)(o:Oper)(f:Fp)(m:Nat):List qd->Bool
 | []=>true
 | (k,ok,b,_)::r=>(Nat.testBit m k||qe a k i ok o b f)&&r0 a i o f m r
def eD(i:Nat)(a:Nat->Bool):Nat->Bool:=λk=>Nat.beq k i||a k
def ma(a:Array Oper):List (Nat×Oper)->List qd->St->(Nat->Bool)->Tree St
 | [],_,σ,_=>.ret σ
 | (i,o)::r,done,σ,b =>
   let f:=ou cx nb o σ
   let m:=mask done o
   bif r0 a i o f m done&&(o.after.all λe=>!Region.binds .any e||Nat.blt e.on i) then
    match o.guard with
    | none=>(fc cx nb bf inl f o σ).bind λσ=>ma a r ((i,o,f,m)::done) σ b
    | some (g,want)=>match(a[g]?).bind (·.dst) with
      | none=>.fail
      | some dg=>bif b g then ma a r ((i,o,f,m)::done) (σ.aA o.dst .undef) (eD i b)
        else match σ.slots dg with
         | .data .bool c=>.node c
          (bif want then(fc cx nb bf inl f o<|σ.put dg<|.data .bool true).bind λσ=>ma a r ((i,o,f,m)::done) σ b
           else ma a r ((i,o,f,m)::done) ((σ.put dg<|.data .bool true).aA o.dst .undef) (eD i b))
          (bif want then ma a r ((i,o,f,m)::done) ((σ.put dg<|.data .bool false).aA o.dst .undef) (eD i b)
           else(fc cx nb bf inl f o<|σ.put dg<|.data .bool false).bind λσ=>ma a r ((i,o,f,m)::done) σ b)
         | _=>.fail
   else .fail
def gH:List Oper->Bool
 | []=>true
 | o::r=>(match o.dst with|some d=>!bJ (uk r) d|none=>true)&&gH r
where uk:List Oper->List Nat
 | []=>[]
 | o::r=>match o.dst with|some d=>d::uk r|none=>uk r
def ox(a:Array Oper)(b:St):Tree St :=
 bif a.any λo=>o.guard.isSome then(bif gH a.toList then ma cx nb bf inl a (number 0 a.toList) [] b (λ_=>false) else .fail)
 else wS cx nb bf inl (number 0 a.toList) [] b
end
def rounds{S R:Type}(f:S->Option (S⊕R)):Nat->S->Option R
 | 0,_=>none
 | n+1,s=>(f s).bind λx=>match x with|.inl s=>rounds f n s|.inr r=>some r
theorem uV{S R:Type}{f:S->Option (S⊕R)}:∀{n:Nat} {s:S} {r:R},rounds f n s=some r->∀m,n<=m->rounds f m s=some r:=by
 intro n;induction n with
 | zero=>intro s r h;cases h
 | succ n b =>
   intro s r h m c;obtain⟨k,rfl⟩:∃k,m=k+1:=⟨m-1,by omega⟩;simp only[rounds] at h⊢;cases a:f s with
   | none=>rw[a] at h;cases h
   | some x =>
     rw[a] at h;cases x with
     | inl d=>exact b h k (by omega)
     | inr e=>exact h
open Classical in
def CO{S R:Type}(f:S->Option (S⊕R))(s:S):Option R :=
 if h:∃n r,rounds f n s=some r then some (Classical.choose<|He h) else none
theorem pH{S R:Type}{f:S->Option (S⊕R)}{n:Nat}{s:S}{r:R}(h:rounds f n s=some r):CO f s=some r:=by
 have c:∃n r,rounds f n s=some r:=⟨n,r,h⟩;unfold CO;rw[dif_pos c];have d:=He (He c);have a:=uV h (max n<|Classical.choose c) (by omega);have b:=uV d (max n<|Classical.choose c) (by omega);rw[a] at b;exact b.symm
class Lp where
 loop:{S R:Type}->(S->Option (S⊕R))->S->Option R
 ok:∀{S R:Type} (f:S->Option (S⊕R)) (s:S),loop f s=CO f s
theorem Lp.one(i j:Lp):i=j:=by
 obtain⟨l,h⟩:=i;obtain⟨m,k⟩:=j;have:@l=@m:=by funext S R f s;rw[h,k]
 subst this;rfl
@[reducible] noncomputable def Lp.y3:Lp where
 loop:=λf s=>match rounds f 100000 s with|some r=>some r|none=>CO f s
 ok:=λf s=>by
  generalize 100000=k;cases a:rounds f k s with
  | some r=>exact(pH a).symm
  | none=>rfl
section
variable [Lp]
def Loop{S R:Type}(f:S->Option (S⊕R))(s:S):Option R:=Lp.loop f s
theorem kf{S R:Type}{f:S->Option (S⊕R)}{n:Nat}{s:S}{r:R}(h:rounds f n s=some r):Loop f s=some r:=(Lp.ok f s).trans (pH h)
theorem kg{S R:Type}{f:S->Option (S⊕R)}{s:S}{r:R}(h:Loop f s=some r):∃n,rounds f n s=some r:=by
 replace h:=(Lp.ok f s).symm.trans h;unfold CO at h;split at h
 .rename_i a;have b:=He (He a);exact⟨_,by rw[b];exact h⟩
 .cases h
theorem bm{S R:Type}(f:S->Option (S⊕R))(s:S):Loop f s=(f s).bind λx=>match x with|.inl s=>Loop f s|.inr r=>some r:=by
 cases c:f s with
 | none =>
   cases b:Loop f s with
   | none=>rfl
   | some r =>
     obtain⟨n,a⟩:=kg b;cases n with
     | zero=>cases a
     | succ n=>simp[rounds,c] at a
 | some x =>
   cases x with
   | inr r=>exact kf (n:=1) (by simp[rounds,c])
   | inl e =>
     show Loop f s=Loop f e
     cases b:Loop f e with
     | some r =>
       obtain⟨n,a⟩:=kg b;exact kf (n:=n+1) (by simp[rounds,c,a])
     | none =>
       cases d:Loop f s with
       | none=>rfl
       | some r =>
         obtain⟨n,a⟩:=kg d;cases n with
         | zero=>cases a
         | succ n =>
           simp[rounds,c] at a;rw[kf a] at b;cases b
end
inductive Sh where
 | d (t:Ty)
 | k (v:ax)
 | m (a b:Sh)
 | mp
def Sh.ty:Sh->Ty
 | .d t=>t
 | .k _=>.unit
 | .m a b=>.pair a.ty b.ty
 | .mp=>.slice (.pair (.int .i64)<|.pair (.int .i64) .unit)
def wg:List rW->List rW->Bool
 | [],[]=>true
 | .AR k o::p,.AR a b::q=>Nat.beq k a&&Nat.beq o b&&wg p q
 | _,_=>false
def wh:List (Nat×Nat)->List (Nat×Nat)->Bool
 | [],[]=>true
 | (a,b)::r,(c,d)::s=>Nat.beq a c&&Nat.beq b d&&wh r s
 | _,_=>false
theorem Ex:∀{p q:List rW},wg p q=true->p=q:=by
 intro p;induction p with
 | nil=>intro q h;cases q<;>first|rfl|cases h
 | cons s p a =>
   intro q h;cases s with
   | idx i n=>cases q<;>cases h
   | AR k o =>
     cases q with
     | nil=>cases h
     | cons b q =>
       cases b with
       | idx i n=>cases h
       | AR c d =>
         simp only[wg,cA] at h;rw[cG h.1.1,cG h.1.2,a h.2]
theorem Ey:∀{p q:List (Nat×Nat)},wh p q=true->p=q:=by
 intro p;induction p with
 | nil=>intro q h;cases q<;>first|rfl|cases h
 | cons s p e =>
   intro q h;obtain⟨a,b⟩:=s;cases q with
   | nil=>cases h
   | cons f q =>
     obtain⟨c,d⟩:=f;simp only[wh,cA] at h;rw[cG h.1.1,cG h.1.2,e h.2]
def nz(V:Nat->Bool->Bool)(d g:St):ax->ax->Bool
 | .ptr b v p,.ptr e a h=>Nat.beq b e&&wg p h&&(bif V b false then(match d.mem b,g.mem b with|some x,some y=>Nat.beq x.au v&&Nat.beq y.au a|_,_=>false) else Nat.beq v a)
 | .whole b v,.whole e a=>Nat.beq b e&&(match d.mem b,g.mem b with|some x,some y=>Nat.beq x.au v&&Nat.beq y.au a&&y.buf|_,_=>false)
 | .kM b v,.kM e a=>Nat.beq b e&&(match d.mem b,g.mem b with|some x,some y=>Nat.beq x.au v&&Nat.beq y.au a&&y.buf|_,_=>false)
 | .fn f c,.fn i j=>Nat.beq f i&&wh c j
 | .cB,.cB=>true
 | .lA,.lA=>true
 | .ny b v,.ny e a=>Nat.beq b e&&Nat.beq v a
 | _,_=>false
def LU:ax->Sh
 | .data t _=>.d t
 | .mix a b=>.m (LU a) (LU b)
 | .ju _=>.mp
 | v=>.k v
def Sh.out(V:Nat->Bool->Bool)(c e:St):(s:Sh)->ax->Option s.ty.den
 | .d t,v=>toD t v
 | .k u,v=>bif nz V c e u v then some () else none
 | .m a b,.mix v w=>match Sh.out V c e a v,Sh.out V c e b w with
   | some x,some y=>some (x,y)
   | _,_=>none
 | .m _ _,_=>none
 | .mp,.ju l=>some l
 | .mp,_=>none
def bump(M:Nat->Bool)(V:Nat->Bool->Bool):ax->ax
 | .whole b v=>bif M b&&V b true then .whole b (v+1) else .whole b v
 | .kM b v=>bif M b&&V b true then .kM b (v+1) else .kM b v
 | .ptr b v p=>bif M b&&V b false then .ptr b (v+1) p else .ptr b v p
 | v=>v
def Sh.kU(M:Nat->Bool)(V:Nat->Bool->Bool):(s:Sh)->s.ty.den->ax
 | .d t,x=>.data t x
 | .k v,_=>bump M V v
 | .m a b,x=>.mix (a.kU M V x.1) (b.kU M V x.2)
 | .mp,l=>.ju l
structure wU where
 S:List (Nat×Nat)
 M:List Nat
 fz:Bool
structure mc where
 marks:List (Option wU)
 AX:List Nat
structure Carry where
 S:List (Nat×Sh)
 M:List (Nat×Sh×aS)
 V:Nat->Bool->Bool
def Ox:List (Nat×Sh)->Ty
 | []=>.unit
 | (_,s)::r=>.pair s.ty (Ox r)
def NG:List (Nat×Sh×aS)->Ty
 | []=>.unit
 | (_,s,_)::r=>.pair s.ty (NG r)
def Carry.ty(c:Carry):Ty:=.pair (Ox c.S) (NG c.M)
def LV(V:Nat->Bool->Bool)(a b:St):(l:List (Nat×Sh))->Option (Ox l).den
 | []=>some ()
 | (i,s)::r=>match Sh.out V a b s (b.slots i),LV V a b r with
   | some x,some y=>some (x,y)
   | _,_=>none
def uW(c d:Bool)(a b:aS):Bool:=(c||(a.ro==b.ro))&&Nat.beq a.tid b.tid&&(a.buf==b.buf)&&(d||Nat.beq a.au b.au)
def LW(V:Nat->Bool->Bool)(d:Bool)(a c:St):(l:List (Nat×Sh×aS))->Option (NG l).den
 | []=>some ()
 | (i,s,b)::r=>match c.mem i with
   | some e=>bif uW d (V i b.buf) e b then(match Sh.out V a c s e.val,LW V d a c r with
     | some x,some y=>some (x,y)
     | _,_=>none) else none
   | none=>none
def Carry.out(c:Carry)(d:Bool)(a b:St):Option c.ty.den :=
 match LV c.V a b c.S,LW c.V d a b c.M with
 | some x,some y=>some (x,y)
 | _,_=>none
def AY(M:Nat->Bool)(V:Nat->Bool->Bool):(l:List (Nat×Sh))->(Ox l).den->Nat->Option ax
 | [],_,_=>none
 | (i,s)::r,x,t=>bif Nat.beq t i then some (s.kU M V x.1) else AY M V r x.2 t
def wV(a:Bool)(M:Nat->Bool)(V:Nat->Bool->Bool):(l:List (Nat×Sh×aS))->(NG l).den->Nat->Option aS
 | [],_,_=>none
 | (i,s,b)::r,x,t=>bif Nat.beq t i then some { b with val:=s.kU M V x.1,ro:=b.ro||a,au:=bif V t b.buf then b.au+1 else b.au } else wV a M V r x.2 t
def mE:List (Nat×Sh×aS)->Nat->Bool
 | [],_=>false
 | (i,_,_)::r,t=>Nat.beq t i||mE r t
def Carry.kU(c:Carry)(fz lock:Bool)(wr:List Nat)(a:St)(x:c.ty.den):St :=
 { slots:=λt=>match AY (mE c.M) c.V c.S x.1 t with
    | some v=>v
    | none=>bif bJ wr t then .undef else a.slots t
   mem:=λb=>match wV fz (mE c.M) c.V c.M x.2 b with
    | some d=>some d
    | none=>match a.mem b with
      | some d=>some { d with lk:=d.lk||lock }
      | none=>none }
def settle:List (Nat×Sh)->St->Option St
 | [],σ=>some σ
 | (i,.d t)::r,σ=>match om σ t (σ.slots i) with
   | some (x,σ)=>settle r (σ.put i<|.data t x)
   | none=>none
 | _::r,σ=>settle r σ
def Carry.wW(c:Carry)(fz:Bool)(a b:St):Option c.ty.den :=
 bif fz then(match settle c.S b with
  | some b=>c.out true a b
  | none=>none)
 else c.out false a b
def Carry.CP(c:Carry)(gv:Bool)(a b:St):Option c.ty.den :=
 bif gv then(match settle c.S b with
  | some b=>c.out false a b
  | none=>none)
 else c.out false a b
def Carry.lock(c:Carry)(a:St):St :=
 { a with mem:=λb=>match a.mem b with
  | some d=>some (bif mE c.M b then d else { d with lk:=true })
  | none=>none }
def kh:List Oper->List Nat
 | []=>[]
 | o::r=>match o.dst with|some d=>d::kh r|none=>kh r
def writes:Code->List Nat
 | .region _ ops _=>kh ops.toList
 | .seq a b=>writes a++writes b
 | .cond _ a b=>writes a++writes b
 | .block _ a=>writes a
 | .loop a=>writes a
 | .scope a=>writes a
 | _=>[]
def mf:Code->List Nat
 | .seq a b=>mf a++(mf b).filter λe=>!bJ (mf a) e
 | .cond _ a b=>mf a++(mf b).filter λe=>!bJ (mf a) e
 | .block i a=>(mf a).filter λe=>!Nat.beq e (i+2)
 | .loop a=>mf a
 | .scope a=>mf a
 | .ret=>[1]
 | .exit i=>[i+2]
 | _=>[]
def marks:Code->Nat
 | .seq a b=>marks a+marks b
 | .cond _ a b=>marks a+marks b+1
 | .block _ a=>marks a
 | .loop a=>marks a+1
 | .scope a=>marks a
 | _=>0
def vw:List Nat->Nat->Option Nat
 | [],_=>none
 | e::r,k=>bif Nat.beq e k then some 0 else(vw r k).map (·+1)
def Ez:List Nat->List Nat->List Nat
 | [],l=>l
 | b::r,l=>bif bJ l b then Ez r l else Ez r (l++[b])
section
variable (cx:Ctx)
def Pz(a:St):List (Nat×Nat)->Option (List<|Nat×Sh)
 | []=>some []
 | (i,ty)::r=>match Pz a r with
   | none=>none
   | some l=>bif Nat.beq ty 999999 then(match a.slots i with
     | .whole b v=>some ((i,.k (.whole b v))::l)
     | _=>some l) else match a.slots i with
     | .data t _=>some ((i,.d t)::l)
     | .undef|.jt=>match find cx.T ty with
       | some t=>some ((i,.d t)::l)
       | none=>none
     | v=>some ((i,.k v)::l)
def mF(a:St):List Nat->List Nat
 | []=>[]
 | b::r=>(match a.mem b with|some d=>(match d.val with|.mix u v=>lC a (.mix u v)|.whole c _=>[c]|.fn f c=>lC a (.fn f c)|_=>[])|none=>[])++mF a r
def AZ(a:St):List Nat->List Nat
 | []=>[]
 | i::r =>
   let b:=lC a (a.slots i)
   let c:=mF a b
   let r2:=mF a c
   let d:=mF a r2
   let e:=mF a d
   Ez (b++(c++(r2++(d++(e++mF a e))))) (AZ a r)
def OG(c:St):List Nat->Option (List<|Nat×Sh×aS)
 | []=>some []
 | b::r=>match c.mem b,OG c r with
   | some a,some l=>bif a.lk then none else some ((b,LU a.val,a)::l)
   | _,_=>none
def NH:ax->Option Nat
 | .whole b _=>some b
 | .part b _ _ _=>some b
 | _=>none
def sR:List Nat->St->Option St
 | [],σ=>some σ
 | m::r,σ=>bif Nat.ble 2000000 m then(match NH (σ.slots<|m-2000000) with
  | some b=>match σ.mem b with
    | some a=>match a.val with
      | .data (.slice e) _=>match om σ (.slice e) (σ.slots<|m-2000000) with
        | some (x,σ)=>sR r (σ.put (m-2000000)<|.data (.slice e) x)
        | none=>none
      | _=>none
    | none=>none
  | none=>sR r σ) else sR r σ
def OH(a:Bool)(c:Nat)(d:List Nat)(e:St)(b:Nat):Bool:=(a||bJ (d.map (c+·)) b)&&(match e.mem b with|some x=>!x.buf&&!v8 x.val|none=>false)
def Gy(a:St):List Nat->List Nat
 | []=>[]
 | i::r=>lC a (a.slots i)++Gy a r
def wj(d:Nat)(e:List Nat)(a:St)(p:wU):Option Carry :=
 match Pz cx a p.S,OG a (AZ a p.M) with
 | some s,some m=>some ⟨s,m,λb c=>bif c then !bJ p.M 3999999 else OH (bJ p.M 3888887&&!bJ (Gy a p.M) b) d e a b⟩
 | _,_=>none
variable (nb:Nat) (bf:List Nat) (inl:Nat->List ax->St->Tree (ax×St))
def sS{a:Type}:List Nat->Nat->(Nat->Tree a)->Tree a
 | [],_,_=>.fail
 | [e],_,f=>f e
 | e::r,i,f=>.node (n9 i 0) (f e) (sS r (i-1) f)
variable [Lp]
def again{S:Type}(f:S->Tree (Nat×S)):Nat->S->Tree (Nat×S)
 | 0,_=>.fail
 | n+1,s=>(f s).bind λr=>bif Nat.beq r.1 0 then again f n r.2 else .ret r
def EA(p:wU):Option Nat:=match p.M with
 | [m]=>bif Nat.ble 6000000 m then some (m-6000000) else none
 | _=>none
def uo(f:St->Tree (Nat×St))(c:Nat):Nat->Nat->St->Tree (Nat×St)
 | 0,_,_=>.fail
 | n+1,j,σ=>match σ.slots c with
   | .data (.int .i64) x=>.need (aQ x j) ((f<|σ.put c<|.data (.int .i64) (j:Int)).bind λr=>bif Nat.beq r.1 0 then uo f c n (j+1) r.2 else .ret r)
   | _=>.fail
def fi:Code->List (Option wU)->St->Tree (Nat×St)
 | .skip,_,σ=>.ret (0,σ)
 | .label _,_,σ=>.ret (0,σ)
 | .ret,_,σ=>.ret (1,σ)
 | .exit i,_,σ=>.ret (i+2,σ)
 | .region _ ops f,_,σ=>(bif f then ox cx nb bf inl ops σ else wR cx nb bf inl ops σ).bind λσ=>.ret (0,σ)
 | .seq a b,pl,σ=>(fi a pl σ).bind λr=>bif Nat.beq r.1 0 then fi b (pl.drop<|marks a) r.2 else .ret r
 | .block i a,pl,σ=>(fi a pl σ).bind λr=>.ret (bif Nat.beq r.1 (i+2) then 0 else r.1,r.2)
 | .scope a,pl,σ=>fi a pl σ
 | .cond c a b,pl,σ=>match bG σ c,pl with
   | .data .bool c,none::pl=>.node c (fi a pl σ) (fi b (pl.drop<|marks a) σ)
   | .data .bool c,some p::pl=>match sR p.M σ with
    | none=>.fail
    | some σ=>match wj cx nb bf σ p with
     | none=>.fail
     | some k =>
       let t:=Tree.node c (fi a pl<|k.lock σ) (fi b (pl.drop<|marks a)<|k.lock σ)
       let wr:=writes a++writes b
       match mf a++(mf b).filter (λe=>!bJ (mf a) e) with
       | []=>(t.bind λr=>bif Nat.beq r.1 0 then Tree.JA (k.wW p.fz σ r.2) else .fail).Gu (bJ p.M 3888888) λx=>.ret (0,k.kU p.fz false wr σ x)
       | es=>(t.bind λr=>match vw (0::es) r.1,k.wW p.fz σ r.2 with
        | some i,some x=>.ret (i,x)
        | _,_=>.fail).Gu (bJ p.M 3888888) λx=>sS (0::es) x.1 λe=>.ret (e,k.kU p.fz false wr σ x.2)
   | _,_=>.fail
 | .loop a,pl,σ=>match pl with
   | some p::pl=>match EA p with
    | some c=>uo (λσ=>fi a pl σ) c 100 0 σ
    | none=>match sR p.M σ with
    | none=>.fail
    | some σ=>match wj cx nb bf σ p with
     | none=>.fail
     | some k=>match k.out false σ σ with
       | none=>.fail
       | some d =>
         let wr:=writes a
         let es:=mf a
         let body (x:k.ty.den):Option (k.ty.den⊕(Nat×k.ty.den)):=((fi a pl<|k.kU false true wr σ x).bind λr=>bif Nat.beq r.1 0 then(match k.CP (bJ p.M 3777777) σ r.2 with
           | some y=>.ret (.inl y)
           | none=>.fail)
          else match vw es r.1,k.wW p.fz σ r.2 with
           | some i,some y=>.ret (.inr (i,y))
           | _,_=>.fail).run
         match es with
         | [e]=>.look (Loop (λx=>fh (body x)) d) λx=>.ret (e,k.kU p.fz false wr σ x)
         | es=>.look (Loop body d) λx=>sS es x.1 λe=>.ret (e,k.kU p.fz false wr σ x.2)
   | none::pl=>again (λσ=>fi a pl σ) 100000 σ
   | _=>.fail
 | _,_,_=>.fail
end
variable [Lp]
def uX(mem:Nat->Option aS)(a:List ax):St:={ slots:=λt=>(a[t]?).getD .undef,mem }
def uq(c:Ctx)(b:St):ResultVar->Tree ax
 | .tmp t=>.ret (b.slots t)
 | .cell a ty=>(gO c (some 0) ty (b.slots a) b).bind λτ=>.ret (τ.slots 0)
def sT(a:Ctx)(b:St):List ResultVar->Tree ax
 | []=>.ret .nl
 | r::rs=>(uq a b r).bind λv=>(sT a b rs).bind λl=>.ret (.mix v l)
def results1(a:Ctx)(b:St):List ResultVar->Tree ax
 | [r]=>uq a b r
 | rs=>(sT a b rs).bind λl=>.ret (.pG l)
def eJ(mem:Nat->Option aS):St:={ slots:=λ_=>.undef,mem }
def Nj(a:Ctx):List TypeId->Option (List Ty)
 | []=>some []
 | t::r=>match find a.T t,Nj a r with
   | some u,some l=>some (u::l)
   | _,_=>none
def JJ(b:Ctx)(a:List TypeId):List Nat->Option (Bool×List Ty)
 | []=>none
 | m::r=>bif Nat.ble 7000000 m&&Nat.ble m 7999999 then(bif Nat.beq m 7999999 then(Nj b a).map λl=>(true,l) else(find b.T<|m-7000000).map λR=>(false,[R])) else JJ b a r
def spread(a:Bool)(v:ax):Nat->ax :=
 match a,v with
 | false,v=>λt=>bif Nat.beq t 0 then v else .undef
 | true,.pG m=>λt=>match nth m t with|some u=>u|none=>.undef
 | true,_=>λ_=>.undef
def wX:ax->Nat
 | .mix _ b=>wX b+1
 | _=>0
def CQ(a:Bool)(v:ax)(n:Nat):Bool :=
 match a,v with
 | false,_=>Nat.beq n 1
 | true,.pG m=>Nat.beq (wX m) n
 | true,_=>false
def NI(a:Nat->ax):Nat->Nat->ax
 | _,0=>.nl
 | i,n+1=>.mix (a i) (NI a (i+1) n)
def A0(b:Bool)(n:Nat)(a:Nat->ax):ax :=
 match b with
 | false=>a 0
 | true=>.pG (NI a 0 n)
def JK(a:Bool)(v:ax)(mem:Nat->Option aS):St:={ slots:=spread a v,mem }
def Gz:List Ty->Nat->List (Nat×Sh)
 | [],_=>[]
 | t::r,i=>(i,.d t)::Gz r (i+1)
def GA(R:Bool×List Ty)(b:List ax)(a:Nat->Option aS)(F:(Nat->Option aS)->Tree (ax×(Nat->Option aS))):Tree (ax×(Nat->Option aS)) :=
 match OG (eJ a) (AZ (uX a b)<|List.range b.length) with
 | none=>.fail
 | some m =>
   let k:Carry:=⟨Gz R.2 0,m,λ_ c=>c⟩
   let wr:=List.range R.2.length
   ((F (k.lock<|eJ a).mem).bind λr=>bif CQ R.1 r.1 R.2.length then Tree.JA (k.out false (eJ a)<|JK R.1 r.1 r.2) else .fail).join λx =>
    .ret (A0 R.1 R.2.length (k.kU false false wr (eJ a) x).slots,(k.kU false false wr (eJ a) x).mem)
def wY(d:Ctx)(e:Nat)(p:mc)(inl:Nat->List ax->St->Tree (ax×St))(fn:Func)(c:Code)(a:List ax)(b:Nat->Option aS):Tree (ax×(Nat->Option aS)) :=
 (fi d e p.AX inl c p.marks<|uX b a).bind λr =>
  bif Nat.beq r.1 0||Nat.beq r.1 1 then(results1 d r.2 fn.results.toList).bind λv=>.ret (v,r.2.mem) else .fail
def JL(a:Nat->Option aS)(s:Nat):Nat->Nat->Nat
 | 0,b=>b
 | k+1,b=>match a (b+s) with
   | none=>b
   | some _=>JL a s k (b+200)
def r4(a:Nat->Option aS)(b:Nat):List Nat->Nat
 | []=>b
 | m::r=>bif Nat.ble 9000000 m then JL a (m-9000000) 4 b else r4 a b r
def oy(a:Ctx):Nat->(nb:Nat)->(kj:Nat->mc)->Nat->List ax->(Nat->Option aS)->Tree (ax×(Nat->Option aS))
 | 0,_,_,_,_,_=>.fail
 | n+1,nb,kj,f,args,mem=>match find a.fns f with
   | some fn=>match fn.body with
     | some c=>match JJ a fn.resultTypes.toList (kj f).AX with
       | none=>wY a nb (kj f) (λg b σ=>(oy a n (r4 σ.mem ((nb+g+1)*1000) (kj g).AX) kj g b σ.mem).bind λr=>.ret (r.1,{ σ with mem:=r.2 })) fn c args mem
       | some R=>GA R args mem (wY a nb (kj f) (λg b σ=>(oy a n (r4 σ.mem ((nb+g+1)*1000) (kj g).AX) kj g b σ.mem).bind λr=>.ret (r.1,{ σ with mem:=r.2 })) fn c args)
     | none=>.fail
   | none=>.fail
def ur:(A:Ty)->A.den->List ax
 | .pair t r,x=>.data t x.1::ur r x.2
 | _,_=>[]
def sU:ax->List ax
 | .mix a b=>a::sU b
 | _=>[]
def qf:(R:Ty)->ax->List ax
 | .pair _ .unit,v=>[v]
 | _,.pG v=>sU v
 | _,v=>[v]
def sV(k:Nat):Nat:=777000000+k
def LX(k:Nat):Nat:=778000000+k
def ig(k:Nat):Nat->List (Nat×Nat)
 | 0=>[]
 | n+1=>(sV k,0)::ig (k+1) n
def j8(k:Nat):Nat->List (Nat×Nat)
 | 0=>[]
 | n+1=>(LX k,0)::j8 (k+1) n
def pI:List Bool->OT->(A:Ty)->A.den->Nat->List ax
 | [],_,_,_,_=>[]
 | false::ps,U,A,x,k=>match A,x with
   | .pair t A,x=>.data t x.1::pI ps U A x.2 k
   | _,_=>[]
 | true::ps,U,A,x,k=>match U with
   | .pair .cB U=>.cB::pI ps U A x k
   | .pair o U=>.ptr (sV k) 0 []::pI ps U A x (k+o.nr)
   | _=>[]
def wZ(a:Nat->Option aS):(U:OT)->Nat->Option (U.den×List (Nat×Nat)×List (Nat×Nat))
 | .pair .cB U,k=>match wZ a U k with
   | some (u,N,M)=>some (((),u),N,M)
   | none=>none
 | .pair o U,k=>match bE a o (.ptr (sV k) 0 []),wZ a U (k+o.nr) with
   | some (x,N,M),some (u,b,c)=>some ((x,u),N++b,M++c)
   | _,_=>none
 | .unit,_=>some ((),[],[])
 | _,_=>none
def A1:List (Nat×Nat)->List (Nat×Nat)->Bool
 | [],[]=>true
 | (a,b)::r,(c,d)::s=>Nat.beq a c&&Nat.beq b d&&A1 r s
 | _,_=>false
def LY(b:Ctx)(n:Nat)(a:Nat->mc)(f:Nat)(c:List Bool)(A:Ty)(U:OT)(R:Ty)(x:A.den×U.den):Option (R.den×U.den) :=
 ((oy b n 0 a f (pI c U A x.1 0)<|dF U x.2 (ig 0 U.nr)<|j8 0 U.nb).bind λr=>match gE (eJ r.2) R (qf R r.1) with
  | some (y,σ)=>(match wZ σ.mem U 0 with
    | some (u,N,M)=>bif A1 N (ig 0 U.nr)&&wQ (aF N M)&&wQ (aF (ig 0 U.nr)<|j8 0 U.nb) then .ret (y,u) else .fail
    | none=>.fail)
  | none=>.fail).run
def z6:List Bool->(A:Ty)->A.den->List ax
 | p::ps,.pair t r,x=>(bif p then .cell t x.1 else .data t x.1)::z6 ps r x.2
 | _,_,_=>[]
def NJ(b:Ctx)(n:Nat)(a:Nat->mc)(f:Nat)(c:List Bool)(A R:Ty)(x:A.den):Option R.den :=
 ((oy b n 0 a f (z6 c A x) λ_=>none).bind λr=>match ef (eJ r.2) R (qf R r.1) with
  | some y=>.ret y
  | none=>.fail).run
def OI(b:Ctx)(n:Nat)(a:Nat->mc)(f:Nat)(A R:Ty)(x:A.den):Option R.den :=
 ((oy b n 0 a f (ur A x) λ_=>none).bind λr=>match ef (eJ r.2) R (qf R r.1) with
  | some y=>.ret y
  | none=>.fail).run
end Go.Ge
