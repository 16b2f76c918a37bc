/- A ghost interpreter of the model's code, and that it tells the truth: part 1. It says of a function of plain data what a call of it comes to. -/
import Derived.WalkKit
set_option linter.unusedVariables false
set_option linter.unusedSectionVars false
set_option linter.unusedSimpArgs false
abbrev aN:=@Option.some.inj
abbrev dW:=@Bool.and_eq_true
abbrev dJ:=@decide_eq_false
abbrev gz:=@Nat.eq_of_beq_eq_true
abbrev br:=@if_neg
abbrev bu:=@if_pos
abbrev kL:=@List.getElem?_eq_getElem
abbrev fo:=@decide_eq_true
abbrev iO:=@List.length_append
abbrev e9:=@Prod.mk.inj
abbrev cW:=@List.length_take
abbrev gm:=@List.mem_of_getElem?
abbrev ep:=@List.length_cons
abbrev gM:=@Nat.mul_le_mul_right
abbrev cU:=@Nat.le_refl
abbrev gN:=@List.getElem?_take
abbrev ic:=@of_decide_eq_true
abbrev ig:=@List.length_nil
abbrev nW:=@List.getElem?_drop
abbrev nX:=@List.mem_cons_self
abbrev nq:=@Bool.not_eq_true'
abbrev qU:=@List.mem_cons_of_mem
abbrev gY:=@Nat.le_trans
abbrev nY:=@decide_eq_true_eq
abbrev pZ:=@List.append_assoc
abbrev iw:=@Nat.add_mul
abbrev gp:=@cond_true
abbrev qV:=@List.length_drop
abbrev zq:=@List.head_eq_of_cons_eq
abbrev u6:=@Int.toNat_natCast
abbrev jM:=@cond_false
abbrev vJ:=@Option.some.injEq
abbrev CD:=@List.drop_eq_getElem_cons
abbrev Al:=@Bool.or_eq_false_iff
abbrev vK:=@Nat.min_eq_left
abbrev KT:=@List.takeWhile_append_dropWhile
abbrev CE:=@List.take_append_drop
abbrev Cw:=@List.mem_singleton
abbrev rT:=@Nat.zero_le
abbrev zu:=@List.nil_append
abbrev zv:=@Bool.or_eq_true
abbrev GG:=@List.take_of_length_le
abbrev Am:=@List.append_nil
abbrev KU:=@Classical.byContradiction
abbrev zw:=@List.drop_drop
abbrev Cx:=@List.all_eq_true
abbrev GH:=@List.mem_append_left
abbrev xe:=@Nat.lt_or_ge
abbrev ym:=@Nat.zero_add
abbrev KV:=@Nat.le_of_ble_eq_true
abbrev GI:=@Nat.lt_of_lt_of_le
abbrev KW:=@List.mem_append_right
abbrev A9:=@Nat.add_assoc
abbrev nZ:=@if_true
abbrev Mj:=@List.drop_of_length_le
abbrev An:=@Nat.add_zero
abbrev RT:=@List.getD_eq_getElem?_getD
abbrev OZ:=@decide_eq_false_iff_not
abbrev EG:=@List.drop_left
abbrev GJ:=@List.take_length
abbrev O0:=@Classical.choose_spec
abbrev FO:=@List.drop_zero
abbrev Mk:=@List.dropWhile_cons
abbrev CF:=@Nat.succ_mul
abbrev KX:=@List.size_toArray
abbrev KY:=@List.getElem?_map
abbrev TM:=@List.getElem?_append_left
abbrev O1:=@List.mem_of_mem_take
abbrev Ml:=@decide_eq_true_iff
abbrev EH:=@Int.le_refl
abbrev Mm:=@List.cons_append
abbrev Mn:=@List.mem_flatMap
abbrev WE:=@List.mem_of_find?_eq_some
abbrev aah:=@List.drop_append_of_le_length
abbrev aai:=@List.take_append_of_le_length
abbrev O2:=@List.ext_getElem?
abbrev O3:=@List.flatMap_cons
abbrev IQ:=@List.mem_cons
abbrev TN:=@List.getElem?_eq_none
abbrev Mo:=@Option.map_some
abbrev Mp:=@List.length_map
abbrev TO:=@List.getElem?_append
abbrev aaj:=@List.pairwise_iff_getElem
abbrev WG:=@List.length_singleton
abbrev aco:=@List.eq_nil_of_length_eq_zero
abbrev TP:=@of_decide_eq_false
abbrev TQ:=@List.take_add_one
abbrev acp:=@Array.getD_eq_getD_getElem?
abbrev RU:=@Bool.eq_iff_iff
abbrev WH:=@Array.length_toList
abbrev WI:=@List.takeWhile_cons
abbrev IU:=@Nat.mod_lt
abbrev acq:=@List.getElem?_append_right
abbrev EI:=@if_false
abbrev TR:=@Option.bind_some
abbrev WJ:=@Bool.false_eq_true
abbrev WK:=@Bool.not_eq_false'
abbrev aak:=@List.length_filter_le
abbrev O4:=@Nat.le_of_eq
abbrev aal:=@List.mem_of_mem_drop
abbrev GK:=@Prod.mk.injEq
abbrev QC:=@List.getElem?_range
abbrev JW:=@List.take_left
abbrev yB:=@Eq.trans
abbrev EV:=@Nat.mul_one
abbrev Y0:=@List.take_length_add_append
abbrev TS:=@List.length_replicate
abbrev TT:=@Array.getElem?_modify
abbrev TU:=@List.singleton_append
abbrev Mq:=@List.find?_some
abbrev JX:=@Bool.false_or
abbrev JY:=@List.map_cons
abbrev acr:=@List.findIdx?_eq_some_iff_getElem
abbrev Mr:=@List.take_take
abbrev TV:=@Array.toList_append
abbrev TW:=@List.map_congr_left
abbrev TX:=@Nat.eq_zero_or_pos
abbrev TY:=@List.pairwise_cons
abbrev QD:=@List.mem_append
abbrev JZ:=@decide_true
abbrev TZ:=@Nat.lt_trichotomy
abbrev T0:=@List.all_eq_false
abbrev T3:=@List.pairwise_map
abbrev Y1:=@Nat.div_lt_iff_lt_mul
abbrev acs:=@Array.getElem?_setIfInBounds
abbrev QE:=@List.take_zero
abbrev Y2:=@List.eq_nil_or_concat
abbrev Y3:=@List.dropLast_eq_take
abbrev T4:=@Nat.lt_of_not_le
abbrev T6:=@Array.toList_map
abbrev T7:=@Nat.lt_succ_self
abbrev T8:=@List.drop_length
abbrev QF:=@List.all_cons
abbrev Y4:=@List.take_succ_cons
abbrev T9:=@Nat.div_add_mod
abbrev Ua:=@List.foldl_cons
abbrev acu:=@List.getElem?_zip_eq_some
abbrev acv:=@List.findIdx?_eq_none_iff
abbrev QG:=@Nat.zero_mul
abbrev Y5:=@List.filter_append
abbrev acw:=@List.getLast_eq_getLastD
abbrev acy:=@List.getElem?_replicate
abbrev acz:=@List.getElem?_cons_zero
abbrev acA:=@List.getElem?_cons_succ
abbrev acB:=@Int.eq_ofNat_of_zero_le
abbrev Y6:=@List.getElem?_set
abbrev Y7:=@List.length_range
abbrev acC:=@Array.getElem?_eq_none
abbrev Y8:=@List.any_eq_true
abbrev acD:=@Array.mem_of_getElem?
abbrev acE:=@BitVec.eq_of_toNat_eq
abbrev acF:=@List.concat_eq_append
abbrev Ub:=@Nat.mul_comm
abbrev Y9:=@List.drop_left'
abbrev Uc:=@Nat.beq_refl
abbrev Za:=@List.take_left'
abbrev ahk:=@List.find?_eq_some_iff_getElem
abbrev Zb:=@List.mem_filter
abbrev acG:=@List.pairwise_append
abbrev acH:=@List.getElem_of_mem
abbrev acI:=@Int.toNat_of_nonneg
abbrev acJ:=@List.length_reverse
abbrev acK:=@List.filter_eq_self
abbrev Zc:=@List.drop_take
abbrev Ms:=@and_self
abbrev Zd:=@List.nodup_nil
abbrev Ze:=@List.mapM_cons
abbrev Ud:=@Nat.sub_mul
abbrev acL:=@BitVec.toNat_ofInt
abbrev acM:=@List.find?_eq_none
abbrev acN:=@List.getElem?_tail
abbrev acO:=@List.getLastD_cons
abbrev ahl:=@Array.toList_setIfInBounds
abbrev Zf:=@Bool.or_false
abbrev Zg:=@Bool.or_assoc
abbrev ahm:=@Array.getElem?_append_left
abbrev acP:=@List.flatten_cons
abbrev acQ:=@Array.size_append
abbrev acR:=@Decidable.not_not
abbrev acS:=@List.getElem_take
abbrev Ue:=@Array.ext'
abbrev Mt:=@Ne.symm
abbrev Zh:=@Nat.add_comm
abbrev acT:=@Nat.min_eq_right
abbrev Zi:=@decide_false
abbrev ahn:=@Array.setIfInBounds_comm
abbrev aho:=@Bool.eq_false_or_eq_true
abbrev acU:=@List.all_reverse
abbrev acV:=@List.getElem_mem
abbrev acW:=@List.length_tail
abbrev acX:=@List.filter_cons
abbrev acY:=@List.mem_reverse
abbrev ahp:=@List.getElem?_take_of_lt
abbrev ahq:=@List.filter_cons_of_pos
abbrev ahr:=@List.filter_cons_of_neg
abbrev Zj:=@Sum.inl.inj
abbrev ahs:=@List.getElem?_toArray
abbrev acZ:=@Bool.and_false
abbrev Mu:=@not_or
abbrev Zk:=@beq_iff_eq
abbrev ac0:=@Bool.not_true
abbrev ac1:=@Bool.true_and
abbrev ac2:=@List.cons.inj
abbrev ac3:=@Nat.le_of_lt
abbrev ac4:=@Nat.ne_of_gt
abbrev ac5:=@Bool.not_not
noncomputable section
namespace Go.Ge
inductive Ty where
 | int (k:IntKind)|bool|str|slice (e:Ty)|arr (n:Nat) (e:Ty)|pair (a b:Ty)|unit
 | alt (u:Nat) (a r:Ty)|CG
def Ty.den:Ty→Type
 | .int _=>Int
 | .bool=>Bool
 | .str=>List UInt8
 | .slice e=>List e.den
 | .arr _ e=>List e.den
 | .pair a b=>a.den×b.den
 | .unit=>Unit
 | .alt _ a r=>a.den⊕r.den
 | .CG=>Unit
def Ca:IntKind→Nat
 | .i8=>0|.i16=>1|.i32=>2|.i64=>3|.u8=>4|.u16=>5|.u32=>6|.u64=>7
theorem Ao{a b:IntKind}(h:Nat.beq (Ca a) (Ca b)=true):a=b:=by
 cases a<;>cases b<;>first|rfl|(exact absurd h (by decide))
def Ty.beq:Ty→Ty→Bool
 | .int k,.int k'=>Nat.beq (Ca k) (Ca k')
 | .bool,.bool=>true
 | .str,.str=>true
 | .slice e,.slice f=>Ty.beq e f
 | .arr n e,.arr m f=>Nat.beq n m&&Ty.beq e f
 | .pair a b,.pair c d=>Ty.beq a c&&Ty.beq b d
 | .unit,.unit=>true
 | .alt u a r,.alt v b s=>Nat.beq u v&&(Ty.beq a b&&Ty.beq r s)
 | .CG,.CG=>true
 | _,_=>false
theorem Ty.eq_of_beq:∀{a b:Ty},Ty.beq a b=true→a=b:=by
 intro a;induction a with
 | int k=>intro b h;cases b<;>first|(exact congrArg _ (Ao h))|(cases h)
 | bool=>intro b h;cases b<;>first|rfl|(cases h)
 | str=>intro b h;cases b<;>first|rfl|(cases h)
 | slice e ih=>intro b h;cases b<;>first|(exact congrArg _ (ih h))|(cases h)
 | arr n e ih =>
   intro b h;cases b<;>first|(cases h;done)|skip
   simp only[Ty.beq,dW] at h;rw[gz h.1,ih h.2]
 | pair a b kM nV =>
   intro c h;cases c<;>first|(cases h;done)|skip
   simp only[Ty.beq,dW] at h;rw[kM h.1,nV h.2]
 | unit=>intro b h;cases b<;>first|rfl|(cases h)
 | alt u a r kM ihr =>
   intro c h;cases c<;>first|(cases h;done)|skip
   simp only[Ty.beq,dW] at h;rw[gz h.1,kM h.2.1,ihr h.2.2]
 | CG=>intro b h;cases b<;>first|rfl|(cases h)
def Ty.to(t u:Ty)(x:t.den):Option u.den :=
 if h:Ty.beq t u=true then some ((Ty.eq_of_beq h)▸x) else none
theorem Ty.beq_refl(t:Ty):Ty.beq t t=true:=by
 induction t with
 | int k=>cases k<;>rfl
 | bool=>rfl
 | str=>rfl
 | slice e ih=>exact ih
 | arr n e ih=>simp[Ty.beq,ih]
 | pair a b kM nV=>simp[Ty.beq,kM,nV]
 | unit=>rfl
 | alt u a r kM ihr=>simp[Ty.beq,kM,ihr]
 | CG=>rfl
theorem Ty.lT{t u:Ty}{x:t.den}{y:u.den}(h:Ty.to t u x=some y):∃e:t=u,y=e▸x:=by
 unfold Ty.to at h;split at h
 ·rename_i hb;exact⟨Ty.eq_of_beq hb,by simpa using h.symm⟩
 ·cases h
def toL(t u:Ty)(l:List t.den):Option (List u.den) :=
 if h:Ty.beq t u=true then some ((Ty.eq_of_beq h)▸l) else none
theorem mC{t u:Ty}{l:List t.den}{m:List u.den}(h:toL t u l=some m):∃e:t=u,m=e▸l:=by
 unfold toL at h;split at h
 ·rename_i hb;exact⟨Ty.eq_of_beq hb,by simpa using h.symm⟩
 ·cases h
def Ty.size:Ty→Nat
 | .int _|.bool|.str|.slice _=>1
 | .arr n e=>n*e.size
 | .pair a b=>a.size+b.size
 | .unit=>0
 | .alt _ _ r=>r.size
 | .CG=>1
def Ty.isAgg:Ty→Bool
 | .arr ..|.pair ..|.unit=>true
 | .alt _ _ r=>r.isAgg
 | _=>false
def Ty.zero:(t:Ty)→t.den
 | .int _=>(0:Int)
 | .bool=>false
 | .str=>([]:List UInt8)
 | .slice _=>[]
 | .arr n e=>List.replicate n e.zero
 | .pair a b=>(a.zero,b.zero)
 | .unit=>()
 | .alt _ _ r=>.inr r.zero
 | .CG=>()
def aj{α:Type}(c:Bool)(x y:α):α:=bif c then x else y
def ah{α β:Type}(o:Option α)(f:α→Option β):Option β:=o.bind f
def nt(b:Bool):Bool:=!b
def an(a b:Bool):Bool:=a&&b
def oor(a b:Bool):Bool:=a||b
def bI(a b:Int):Bool:=decide (a=b)
def fT(a b:Nat):Bool:=Nat.beq a b
def bB(a b:Int):Bool:=decide (a<b)
def cX(a b:Int):Bool:=decide (a≤b)
def cc(a b:List UInt8):Bool:=decide (a=b)
def jy(a b:List UInt8):Bool:=Op.bytesLess a b
def eqL(a b:List Int):Bool:=decide (a=b)
def eqB(a b:Bool):Bool:=a==b
def eP{S:Type}(o:Option (S⊕(Nat×S))):Option (S⊕S):=o.map fun r=>match r with|.inl x=>.inl x|.inr y=>.inr y.2
def aL(k:IntKind)(a b:Int):Int:=k.wrap (a+b)
def ef(k:IntKind)(a b:Int):Int:=k.wrap (a-b)
def nr(k:IntKind)(a b:Int):Int:=k.wrap (a*b)
def KZ(k:IntKind)(a b:Int):Int:=k.wrap (a.tdiv b)
def jz(a b:Int):Int:=a.tmod b
def qW(k:IntKind)(a:Int):Int:=k.wrap a
def jA(k:IntKind)(x y:Int):Int:=k.wrap (BitVec.ofInt k.bits x &&& BitVec.ofInt k.bits y).toNat
def zx(k:IntKind)(x y:Int):Int:=k.wrap (BitVec.ofInt k.bits x ||| BitVec.ofInt k.bits y).toNat
def fc(k:IntKind)(x y:Int):Int:=k.wrap (BitVec.ofInt k.bits x ^^^ BitVec.ofInt k.bits y).toNat
def aht(k:IntKind)(x y:Int):Int:=k.wrap (BitVec.ofInt k.bits x &&& ~~~BitVec.ofInt k.bits y).toNat
def ahV(a b:Int):Int:=bif decide (b<a) then b else a
def imax(a b:Int):Int:=bif decide (a<b) then b else a
def nu(k:IntKind)(a b:Int):Int:=k.wrap (a*2 ^ (min b.toNat k.bits))
def rU(k:IntKind)(a b:Int):Int:=a.fdiv (2 ^ (min b.toNat k.bits))
def plus(a b:Int):Int:=a+b
def minus(a b:Int):Int:=a-b
def len{α:Type}(l:List α):Int:=l.length
def app{α:Type}(l m:List α):List α:=l++m
def one{α:Type}(x:α):List α:=[x]
def idx{α:Type}(l:List α)(i:Int):Option α:=if 0≤i then l[i.toNat]? else none
def vL{α:Type}(l:List α)(i:Int)(x:α):List α:=l.set i.toNat x
def CI{α:Type}(n:Int)(x:α):List α:=List.replicate n.toNat x
def sub{α:Type}(l:List α)(lo n:Int):List α:=(l.drop lo.toNat).take n.toNat
def iH{α:Type}(l:List α)(n:Int):List α:=l.take n.toNat
def over{α:Type}(l:List α)(lo:Int)(c:List α):List α:=l.take lo.toNat++c++l.drop (lo.toNat+c.length)
def pick{α β γ:Type}(f:α→γ)(g:β→γ)(x:α⊕β):γ:=match x with|.inl a=>f a|.inr b=>g b
def u8(b:UInt8):Int:=(b.toNat:Int)
def ay(s:List UInt8):List Int:=s.map fun b=>(b.toNat:Int)
def bt(l:List Int):List UInt8:=l.map fun n=>UInt8.ofNat n.toNat
def fits(n:Int):Bool:=decide (n≤4294967296)
def inside(a b n:Int):Bool:=decide (0≤a)&&decide (a≤b)&&decide (b≤n)
def within(i n:Int):Bool:=decide (0≤i)&&decide (i<n)
inductive Tree (α:Type):Type 1 where
 | ret (a:α)
 | fail
 | node (c:Bool) (t e:Tree α)
 | look {T:Type} (o:Option T) (k:T→Tree α)
namespace Tree
def bind{α β:Type}:Tree α→(α→Tree β)→Tree β
 | .ret a,f=>f a
 | .fail,_=>.fail
 | .node c t e,f=>.node c (t.bind f) (e.bind f)
 | .look o k,f=>.look o fun x=>(k x).bind f
def run{α:Type}:Tree α→Option α
 | .ret a=>some a
 | .fail=>none
 | .node c t e=>aj c t.run e.run
 | .look o k=>ah o fun x=>(k x).run
def join{T β:Type}(t:Tree T)(k:T→Tree β):Tree β :=
 match t with
 | .ret x=>k x
 | .node c (.ret x) (.ret y)=>k (aj c x y)
 | t=>.look t.run k
def need{α:Type}(c:Bool)(t:Tree α):Tree α:=.node c t .fail
def ac6{α:Type}:Option α→Tree α
 | some a=>.ret a
 | none=>.fail
end Tree
inductive FP where
 | gG (k off:Nat)
 | idx (i:Int) (size:Nat)
inductive aS where
 | undef
 | data (t:Ty) (x:t.den)
 | qd
 | tO
 | u7
 | yC (b aC:Nat)
 | cell (t:Ty) (x:t.den)
 | ptr (b aC:Nat) (p:List FP)
 | whole (b aC:Nat)
 | part (b aC:Nat) (lo n:Int)
 | win (b aC:Nat) (q:List FP) (e:Ty) (k:Nat) (lo n:Int)
 | fn (f:Nat) (caps:List (Nat×Nat))
 | mix (a b:aS)
 | FQ (vs:aS)
 | nl
structure Box where
 val:aS
 tid:TypeId
 buf:Bool
 ro:Bool
 lk:Bool
 aC:Nat
structure St where
 slots:Nat→aS
 mem:Nat→Option Box
structure dA where
 A:Ty
 R:Ty
 spec:A.den→Option R.den
structure EJ where
 ps:List Bool
 A:Ty
 U:Ty
 R:Ty
 spec:A.den×U.den→Option (R.den×U.den)
inductive p4 where
 | dat (t:Ty)
 | buf (e:Ty) (gd:Nat)
 | one
 | self
inductive Spc where
 | chk (T:Nat)
 | str (T E:Nat)
 | clone (e:Ty)
 | own (e A:Ty) (res:Bool) (spec:List e.den→A.den→Option (List e.den))
structure Ctx where
 T:List (Nat×Ty)
 u9:List Nat
 EK:List Nat
 fns:List (Nat×Func)
 cT:List (Nat×dA)
 bA:List (Nat×EJ)
 wu:List (Nat×List p4)
 WL:List (Nat×Spc)
 els:List (Nat×Nat)
 inv:List (String×dA)
def Uf{α:Type}:List (String×α)→String→Option α
 | [],_=>none
 | (i,a)::r,k=>bif decide (i=k) then some a else Uf r k
def find{α:Type}:List (Nat×α)→Nat→Option α
 | [],_=>none
 | (i,a)::r,k=>bif Nat.beq i k then some a else find r k
def St.put(σ:St)(d:Nat)(v:aS):St:={ σ with slots:=fun t=>bif Nat.beq t d then v else σ.slots t }
def St.aW(σ:St)(d:Option Nat)(v:aS):St:=match d with|some d=>σ.put d v|none=>σ
def St.cm(σ:St)(b:Nat)(x:Box):St:={ σ with mem:=fun i=>bif Nat.beq i b then some x else σ.mem i }
def St.aQ{β:Type}(σ:St)(b:Nat)(val:aS)(tid:TypeId)(buf:Bool)(k:Nat→St→Tree β):Tree β :=
 match σ.mem b with
 | some bx=>bif bx.lk then .fail else k (bx.aC+1) (σ.cm b { val,tid,buf,ro:=false,lk:=false,aC:=bx.aC+1 })
 | none=>k 0 (σ.cm b { val,tid,buf,ro:=false,lk:=false,aC:=0 })
def dD:List Nat→Nat→Bool
 | [],_=>false
 | i::r,t=>Nat.beq t i||dD r t
def Mv:Value→aS
 | .int k n=>bif decide (k.min≤n)&&decide (n≤k.max) then .data (.int k) n else .undef
 | .bool b=>.data .bool b
 | .string s=>bif Nat.ble s.data.toList.length 4294967296 then .data .str s.data.toList else .undef
 | .pointer none=>.tO
 | .nilIface=>.u7
 | .slice none 0 0=>.qd
 | _=>.undef
def cL(σ:St):Operand→aS
 | .tmp t=>σ.slots t
 | .const v=>Mv v
 | .func f=>.fn f []
 | .global _=>.undef
def kg:Ty→Nat→Option Nat
 | .pair _ _,0=>some 0
 | .pair a b,k+1=>(kg b k).map (a.size+·)
 | _,_=>none
def dn:aS→Nat
 | .data t _=>t.size
 | .mix a b=>dn a+dn b
 | .nl=>0
 | _=>1
def qX:(t:Ty)→t.den→Nat→Option (Nat×aS)
 | .pair a _,x,0=>some (0,.data a x.1)
 | .pair a b,x,k+1=>match qX b x.2 k with|some r=>some (a.size+r.1,r.2)|none=>none
 | _,_,_=>none
def n7:aS→Nat→Option (Nat×aS)
 | .data t x,k=>qX t x k
 | .mix a _,0=>some (0,a)
 | .mix a b,k+1=>match n7 b k with|some r=>some (dn a+r.1,r.2)|none=>none
 | _,_=>none
def toD(t:Ty):aS→Option t.den
 | .data u x=>Ty.to u t x
 | .qd=>match t with|.slice _=>some []|_=>none
 | _=>none
def toS(t:Ty):aS→Option t.den
 | .data u x=>Ty.to u t x
 | _=>none
def LQ:(t:Ty)→t.den→Nat→(aS→Tree aS)→Tree t.den
 | .pair a b,x,0,f=>(f (.data a x.1)).bind fun v=>match toS a v with
   | some y=>.ret (y,x.2)
   | none=>.fail
 | .pair a b,x,k+1,f=>(LQ b x.2 k f).bind fun y=>.ret (x.1,y)
 | _,_,_,_=>.fail
def IV:aS→Nat→(aS→Tree aS)→Tree aS
 | .data t x,k,f=>(LQ t x k f).bind fun y=>.ret (.data t y)
 | .mix a b,0,f=>(f a).bind fun v=>.ret (.mix v b)
 | .mix a b,k+1,f=>(IV b k f).bind fun v=>.ret (.mix a v)
 | _,_,_=>.fail
def nav:List FP→aS→Tree aS
 | [],v=>.ret v
 | .gG k off::p,v=>match n7 v k with
   | some (o,u)=>bif Nat.beq o off then nav p u else .fail
   | none=>.fail
 | .idx i size::p,v=>match v with
   | .data (.arr _ e) l=>bif Nat.beq size e.size then .look (idx (α:=e.den) l i) fun x=>nav p (.data e x) else .fail
   | _=>.fail
def aao(buf:Bool)(p:List FP)(v:aS):Tree aS :=
 match buf with
 | false=>nav p v
 | true=>match p,v with
   | .idx i size::p,.data (.slice e) l=>bif Nat.beq size e.size then .look (idx (α:=e.den) l i) fun x=>nav p (.data e x) else .fail
   | _,_=>.fail
def zy:List FP→aS→aS→Tree aS
 | [],_,u=>.ret u
 | .gG k off::p,v,u=>IV v k fun w=>zy p w u
 | .idx i size::p,v,u=>match v with
   | .data (.arr n e) l=>.look (idx (α:=e.den) l i) fun x=>(zy p (.data e x) u).bind fun w=>match toS e w with
     | some y=>.ret (.data (.arr n e) (vL (α:=e.den) l i y))
     | none=>.fail
   | _=>.fail
def LR(buf:Bool)(p:List FP)(v u:aS):Tree aS :=
 match buf with
 | false=>zy p v u
 | true=>match p,v with
   | .idx i size::p,.data (.slice e) l=>.look (idx (α:=e.den) l i) fun x=>(zy p (.data e x) u).bind fun w=>match toS e w with
     | some y=>.ret (.data (.slice e) (vL (α:=e.den) l i y))
     | none=>.fail
   | _,_=>.fail
namespace Tree
theorem run_bind{α β:Type}(t:Tree α)(f:α→Tree β):(t.bind f).run=t.run.bind fun a=>(f a).run:=by
 induction t with
 | ret a=>rfl
 | fail=>rfl
 | node c t e Mw ihe=>cases c<;>simp[bind,run,Mw,ihe,aj]
 | look o k ih=>cases o<;>simp[bind,run,ih,ah]
theorem CJ{T β:Type}(t:Tree T)(k:T→Tree β):(t.join k).run=t.run.bind fun a=>(k a).run:=by
 unfold join;split
 ·rfl
 ·rename_i c x y;cases c<;>rfl
 ·rfl
end Tree
end Go.Ge
namespace Go.Ge
def xg:Ty→Nat→Option Ty
 | .pair a _,0=>some a
 | .pair _ b,k+1=>xg b k
 | _,_=>none
def Ty.flat:Ty→Bool
 | .slice _=>false
 | .arr _ e=>e.flat
 | .pair a b=>a.flat&&b.flat
 | .alt _ a r=>a.flat&&r.flat
 | _=>true
def Box.row(bx:Box):Option (Ty×Nat) :=
 match bx.buf,bx.val with
 | true,.data (.slice e) l=>some (e,List.length (α:=e.den) l)
 | false,.data (.arr n e) _=>some (e,n)
 | _,_=>none
def gZ(e:Ty)(σ:St):aS→Option (List e.den)
 | .data (.slice u) l=>toL u e l
 | .qd=>some []
 | .whole b aC=>match σ.mem b with
   | some bx=>bif Nat.beq bx.aC aC&&bx.buf then(match bx.val with|.data (.slice u) l=>toL u e l|_=>none) else none
   | none=>none
 | .part b aC lo n=>match σ.mem b with
   | some bx=>bif Nat.beq bx.aC aC then(match bx.buf,bx.val with
     | true,.data (.slice u) l=>toL u e (sub (α:=u.den) l lo n)
     | false,.data (.arr _ u) l=>toL u e (sub (α:=u.den) l lo n)
     | _,_=>none) else none
   | none=>none
 | _=>none
def live(σ:St)(b aC:Nat):Bool:=match σ.mem b with|some bx=>Nat.beq bx.aC aC|none=>false
def tF(σ:St):(t:Ty)→aS→Option t.den
 | .slice e,v=>(gZ e σ v:Option (List e.den))
 | .pair a b,v=>match v with
   | .data u x=>Ty.to u (.pair a b) x
   | .mix p q=>(match tF σ a p,tF σ b q with
     | some x,some y=>some (x,y)
     | _,_=>none)
   | _=>none
 | .alt n a r,v=>match v with
   | .data u x=>Ty.to u (.alt n a r) x
   | .u7=>match tF σ r .u7 with
     | some x=>some (.inr x)
     | none=>none
   | _=>none
 | .CG,v=>match v with
   | .data u x=>Ty.to u .CG x
   | .u7=>some ()
   | _=>none
 | t,v=>match v with
   | .data u x=>Ty.to u t x
   | _=>none
def freeze(σ:St)(b:Nat):Option St :=
 match σ.mem b with
 | some bx=>bif bx.ro then some σ else bif bx.lk then none else some (σ.cm b { bx with ro:=true })
 | none=>none
def iy(σ:St):aS→Option St
 | .whole b _=>freeze σ b
 | .part b _ _ _=>freeze σ b
 | .mix v w=>match iy σ v with
   | some σ=>iy σ w
   | none=>none
 | _=>some σ
def Ap(σ:St)(t:Ty)(v:aS):Option (t.den×St) :=
 match v with
 | .data u x=>match Ty.to u t x with|some y=>some (y,σ)|none=>none
 | v=>match tF σ t v,iy σ v with
   | some x,some σ=>some (x,σ)
   | _,_=>none
def jo(σ:St):(A:Ty)→List aS→Option A.den
 | .unit,[]=>some ()
 | .pair t r,v::vs=>match tF σ t v,jo σ r vs with
   | some x,some y=>some (x,y)
   | _,_=>none
 | _,_=>none
def lU(σ:St):(A:Ty)→List aS→Option (A.den×St)
 | .unit,[]=>some ((),σ)
 | .pair t r,v::vs=>match Ap σ t v with
   | some (x,σ)=>match lU σ r vs with
     | some (y,σ)=>some ((x,y),σ)
     | none=>none
   | none=>none
 | _,_=>none
def CK:(R:Ty)→R.den→aS
 | .pair t r,x=>.mix (.data t x.1) (CK r x.2)
 | _,_=>.nl
def xh(R:Ty)(x:R.den):aS :=
 match R,x with
 | .pair t .unit,x=>.data t x.1
 | R,x=>.FQ (CK R x)
def nth:aS→Nat→Option aS
 | .mix a _,0=>some a
 | .mix _ b,k+1=>nth b k
 | _,_=>none
def bitsOf(op:BinOp)(k:IntKind)(x y:Int):Option Int :=
 match op with
 | .and=>some (jA k x y)
 | .or=>some (zx k x y)
 | .xor=>some (fc k x y)
 | .andNot=>some (aht k x y)
 | _=>none
def Ty.eqv:(t:Ty)→t.den→t.den→Option Bool
 | .int _,x,y=>some (bI x y)
 | .bool,x,y=>some (eqB x y)
 | .str,x,y=>some (cc x y)
 | .pair a b,x,y=>match Ty.eqv a x.1 y.1,Ty.eqv b x.2 y.2 with
   | some p,some q=>some (an p q)
   | _,_=>none
 | .unit,_,_=>some true
 | .arr _ e,x,y=>match e,x,y with
   | .int _,x,y=>some (eqL x y)
   | _,_,_=>none
 | _,_,_=>none
def Ty.GL:Ty→Nat
 | .pair a b=>a.GL+b.GL+1
 | .arr _ e=>e.GL+1
 | _=>1
def WM(op:BinOp)(k:IntKind)(a b:Int):Tree aS :=
 match op with
 | .add=>.ret (.data (.int k) (aL k a b))
 | .sub=>.ret (.data (.int k) (ef k a b))
 | .mul=>.ret (.data (.int k) (nr k a b))
 | .quo=>.node (bI b 0) .fail (.ret (.data (.int k) (KZ k a b)))
 | .rem=>.node (bI b 0) .fail (.ret (.data (.int k) (jz a b)))
 | .eql=>.ret (.data .bool (bI a b))
 | .neq=>.ret (.data .bool (nt (bI a b)))
 | .lss=>.ret (.data .bool (bB a b))
 | .leq=>.ret (.data .bool (cX a b))
 | .gtr=>.ret (.data .bool (bB b a))
 | .geq=>.ret (.data .bool (cX b a))
 | op=>match bitsOf op k a b with
   | some c=>.ret (.data (.int k) c)
   | none=>.fail
def WN(op:BinOp)(x y:List UInt8):Tree aS :=
 match op with
 | .add=>.need (fits (plus (len x) (len y))) (.ret (.data .str (app x y)))
 | .eql=>.ret (.data .bool (cc x y))
 | .neq=>.ret (.data .bool (nt (cc x y)))
 | .lss=>.ret (.data .bool (jy x y))
 | .leq=>.ret (.data .bool (oor (jy x y) (cc x y)))
 | .gtr=>.ret (.data .bool (nt (oor (jy x y) (cc x y))))
 | .geq=>.ret (.data .bool (nt (jy x y)))
 | _=>.fail
def isEq:BinOp→Option Bool
 | .eql=>some true
 | .neq=>some false
 | _=>none
def GM:BinOp→Option Bool
 | .shl=>some true
 | .shr=>some false
 | _=>none
def IW(o:Option Ty)(t:Ty):Bool:=match o with|some u=>Ty.beq u t|none=>false
def bin(tt:Option Ty)(pt:Bool)(op:BinOp)(x y:aS):Tree aS :=
 match x,y with
 | .data (.int k) a,.data (.int k') b =>
   match GM op with
   | some left=>.node (bB b 0) .fail (.ret (.data (.int k) (bif left then nu k a b else rU k a b)))
   | none=>bif Nat.beq (Ca k) (Ca k') then WM op k a b else .fail
 | .data .str a,.data .str b=>WN op a b
 | .data .bool a,.data .bool b=>bif IW tt .bool then(match isEq op with
   | some true=>.ret (.data .bool (eqB a b))
   | some false=>.ret (.data .bool (nt (eqB a b)))
   | none=>.fail) else .fail
 | .data (.pair a b) x,.data t y=>bif IW tt (.pair a b)&&Nat.ble (Ty.pair a b).GL 9000 then(match Ty.to t (.pair a b) y,isEq op with
   | some y,some e=>match Ty.eqv (.pair a b) x y with
     | some c=>.ret (.data .bool (bif e then c else nt c))
     | none=>.fail
   | _,_=>.fail) else .fail
 | .data (.arr n e) x,.data t y=>bif IW tt (.arr n e)&&Nat.ble (Ty.arr n e).GL 9000 then(match Ty.to t (.arr n e) y,isEq op with
   | some y,some q=>match Ty.eqv (.arr n e) x y with
     | some c=>.ret (.data .bool (bif q then c else nt c))
     | none=>.fail
   | _,_=>.fail) else .fail
 | .tO,.tO=>match pt,isEq op with|true,some e=>.ret (.data .bool e)|_,_=>.fail
 | _,_=>.fail
def ac8(σ:St)(tt:Option Ty)(pt:Bool)(op:BinOp)(x y:aS):Tree aS :=
 match x,y with
 | .ptr b aC _,.tO=>bif live σ b aC&&pt then(match isEq op with|some e=>.ret (.data .bool (!e))|none=>.fail) else .fail
 | .tO,.ptr b aC _=>bif live σ b aC&&pt then(match isEq op with|some e=>.ret (.data .bool (!e))|none=>.fail) else .fail
 | x,y=>bin tt pt op x y
def RV(least:Bool)(x y:aS):Tree aS :=
 match x,y with
 | .data (.int k) a,.data (.int k') b=>bif Nat.beq (Ca k) (Ca k') then .ret (.data (.int k) (bif least then ahV a b else imax a b)) else .fail
 | _,_=>.fail
def un(op:UnOp)(x:aS):Tree aS :=
 match op,x with
 | .not,.data .bool b=>.ret (.data .bool (nt b))
 | .neg,.data (.int k) n=>.ret (.data (.int k) (ef k 0 n))
 | .xor,.data (.int k) n=>.ret (.data (.int k) (fc k (bif k.signed then -1 else k.max) n))
 | _,_=>.fail
def Mx:(t:Ty)→t.den→Nat→(u:Ty)→u.den→Option t.den
 | .pair a b,x,0,u,y=>match Ty.to u a y with|some y=>some (y,x.2)|none=>none
 | .pair a b,x,k+1,u,y=>match Mx b x.2 k u y with|some z=>some (x.1,z)|none=>none
 | _,_,_,_,_=>none
def hU(σ:St)(t:Ty)(x:t.den):List (Nat×Operand)→Option (t.den×St)
 | []=>some (x,σ)
 | (k,o)::r=>match xg t k with
   | some u=>match Ap σ u (cL σ o) with
     | some (y,σ)=>match Mx t x k u y with
       | some x=>hU σ t x r
       | none=>none
     | none=>none
   | none=>none
def gO(σ:St)(e:Ty)(l:List e.den):List (Nat×Operand)→Option (List e.den×St)
 | []=>some (l,σ)
 | (k,o)::r=>match Ap σ e (cL σ o) with
   | some (y,σ)=>bif Nat.blt k l.length then gO σ e (l.set k y) r else none
   | none=>none
def lenOf(σ:St):aS→Option Int
 | .data .str s=>some (len (α:=UInt8) s)
 | .data (.slice e) l=>some (len (α:=e.den) l)
 | .data (.arr n _) _=>bif Nat.ble n 4294967296 then some n else none
 | .qd=>some 0
 | .whole b aC=>match σ.mem b with
   | some bx=>bif Nat.beq bx.aC aC&&bx.buf then(match bx.val with|.data (.slice u) l=>some (len (α:=u.den) l)|_=>none) else none
   | none=>none
 | .part b aC _ n=>bif live σ b aC then some n else none
 | _=>none
def Zl(o:Option Ty):aS→Bool
 | .data .str _=>IW o .str
 | .data (.slice e) _=>IW o (.slice e)
 | .data (.arr n e) _=>IW o (.arr n e)
 | .qd|.whole ..|.part ..=>match o with|some (.slice _)=>true|_=>false
 | _=>false
def bounds(σ:St)(n:Int)(lo hi:Option Operand):Option (Int×Int) :=
 match lo,hi with
 | none,none=>some (0,n)
 | some a,none=>match cL σ a with|.data (.int _) x=>some (x,n)|_=>none
 | none,some b=>match cL σ b with|.data (.int _) y=>some (0,y)|_=>none
 | some a,some b=>match cL σ a,cL σ b with|.data (.int _) x,.data (.int _) y=>some (x,y)|_,_=>none
def isRef:aS→Bool
 | .ptr ..|.whole ..|.part ..|.fn ..|.tO|.u7|.yC ..|.mix ..|.cell ..|.qd=>true
 | _=>false
section
variable (cx:Ctx) (nb:Nat) (bf:List Nat) (inl:Nat→List aS→St→Tree (aS×St))
def kj(d:Option Nat)(ty:TypeId)(v:aS)(σ:St):Tree St :=
 match v with
 | .undef=>bif dD cx.u9 ty then .ret (σ.aW d .undef) else .fail
 | .qd=>match d,find cx.T ty with
   | some d,some (.slice e)=>bif dD bf d then σ.aQ (nb+d) (.data (.slice e) []) 0 true fun aC σ=>.ret (σ.put d (.whole (nb+d) aC))
     else .ret (σ.put d (.data (.slice e) []))
   | _,_=>.ret (σ.aW d .qd)
 | v=>.ret (σ.aW d v)
def qe(d:Option Nat)(c a b:aS)(σ:St):Tree St :=
 match c with
 | .data .bool c=>match a,b with
   | .data t x,.data u y=>match Ty.to u t y with
     | some y=>.ret (σ.aW d (.data t (aj c x y)))
     | none=>.fail
   | a,b=>.node c (.ret (σ.aW d a)) (.ret (σ.aW d b))
 | _=>.fail
def ac9:(t:Ty)→t.den→aS
 | .pair a b,x=>.mix (.data a x.1) (ac9 b x.2)
 | t,x=>.data t x
def ada:aS→aS
 | .data t x=>ac9 t x
 | v=>v
def aap:Ty→aS→Bool
 | .slice _,.whole ..=>true
 | t,.data u _=>Ty.beq u t
 | _,_=>false
def Ug:Ty→aS→Bool
 | .pair a b,.mix p q=>aap a p&&Ug b q
 | t,.data u _=>Ty.beq u t
 | _,_=>false
def adb(u:Ty):aS→Bool
 | .whole b aC=>aap u (.whole b aC)
 | .mix p q=>Ug u (.mix p q)
 | _=>false
def ade:aS→Bool
 | .data (.pair _ _) _=>true
 | .mix ..=>true
 | _=>false
def Ba(ty:TypeId):aS→Bool
 | .mix p q=>match find cx.T ty with|some u=>Ug u (.mix p q)|none=>false
 | _=>false
def zz(ty:TypeId):aS→Bool
 | .data u _=>IW (find cx.T ty) u
 | .whole ..=>match find cx.T ty with|some (.slice _)=>true|_=>false
 | .ptr ..|.tO|.fn ..=>dD cx.u9 ty
 | _=>false
def mD(d:Option Nat)(ty:TypeId)(a:aS)(σ:St):Tree St :=
 match a with
 | .cell u x=>bif IW (find cx.T ty) u then .ret (σ.aW d (.data u x)) else .fail
 | .ptr b aC p=>match σ.mem b with
   | some bx=>bif Nat.beq bx.aC aC then(aao bx.buf p bx.val).bind fun v=>bif zz cx ty v||Ba cx ty v then .ret (σ.aW d v) else .fail else .fail
   | none=>.fail
 | _=>.fail
def storeAt(b aC:Nat)(p:List FP)(fit:aS→Bool)(v:aS)(σ:St):Tree St :=
 match σ.mem b with
 | some bx=>bif Nat.beq bx.aC aC&&!bx.lk&&!bx.ro then
    (aao bx.buf p bx.val).bind fun old=>bif fit old then(LR bx.buf p bx.val v).bind fun c=>.ret (σ.cm b { bx with val:=c }) else .fail
   else .fail
 | none=>.fail
def uq(b aC:Nat)(p:List FP)(n:Nat)(v:aS)(σ:St):Tree St :=
 match σ.mem b with
 | some bx=>bif Nat.beq bx.aC aC&&!bx.lk&&!bx.ro&&!bx.buf&&ade bx.val then
    (nav p (ada bx.val)).bind fun old=>bif Nat.beq (dn old) n then(zy p (ada bx.val) v).bind fun c=>bif ade c then .ret (σ.cm b { bx with val:=c }) else .fail else .fail
   else .fail
 | none=>.fail
def aaq(u:Ty):aS→Bool
 | .data t _=>Ty.beq t u
 | _=>false
def Zm:aS→Bool
 | .undef=>true
 | _=>false
def mP(ty:TypeId)(a v:aS)(σ:St):Tree St :=
 match a with
 | .ptr b aC p=>match σ.mem b with
   | some bx=>bif Nat.beq bx.aC aC then(aao bx.buf p bx.val).bind fun old=>match old with
      | .data u _=>bif IW (find cx.T ty) u then(bif dD bf 8000000&&adb u v then uq b aC p u.size v σ else match Ap σ u v with
       | some (y,σ)=>storeAt b aC p (aaq u) (.data u y) σ
       | none=>.fail) else .fail
      | _=>bif zz cx ty v&&isRef v then storeAt b aC p (fun old=>(zz cx ty old&&isRef old)||Zm old) v σ else .fail
     else .fail
   | none=>.fail
 | _=>.fail
def mQ(d:Option Nat)(ty:TypeId)(x:aS)(lo hi:Option Operand)(σ:St):Tree St :=
 match find cx.T ty,x with
 | some .str,.data .str s=>match bounds σ (len (α:=UInt8) s) lo hi with
   | some (a,b)=>.need (inside a b (len (α:=UInt8) s)) (.ret (σ.aW d (.data .str (sub (α:=UInt8) s a (minus b a)))))
   | none=>.fail
 | some (.slice u),.data (.slice e) l=>bif Ty.beq u e then(match bounds σ (len (α:=e.den) l) lo hi with
   | some (a,b)=>.need (inside a b (len (α:=e.den) l)) (.ret (σ.aW d (.data (.slice e) (sub (α:=e.den) l a (minus b a)))))
   | none=>.fail) else .fail
 | some (.slice u),.part c aC l n=>match σ.mem c with
   | some bx=>bif Nat.beq bx.aC aC&&(match bx.row with|some (e,_)=>Ty.beq u e|none=>false) then(match bounds σ n lo hi with
     | some (a,b)=>.need (inside a b n) (.ret (σ.aW d (.part c aC (plus l a) (minus b a))))
     | none=>.fail) else .fail
   | none=>.fail
 | some (.slice u),.whole c aC=>match σ.mem c with
   | some bx=>bif Nat.beq bx.aC aC&&bx.buf then(match bx.val with
     | .data (.slice e) l=>bif Ty.beq u e then(match lo,hi with
       | none,none=>.ret (σ.aW d (.whole c aC))
       | lo,hi=>match bounds σ (len (α:=e.den) l) lo hi with
         | some (a,b)=>.need (inside a b (len (α:=e.den) l)) (.ret (σ.aW d (.part c aC a (minus b a))))
         | none=>.fail) else .fail
     | _=>.fail) else .fail
   | none=>.fail
 | some (.arr m u),.ptr c aC (s::q)=>bif live σ c aC&&Nat.ble m 4294967296 then(match bounds σ m lo hi with
   | some (a,b)=>.need (inside a b m) (.ret (σ.aW d (.win c aC (s::q) u m a (minus b a))))
   | none=>.fail) else .fail
 | some (.arr m u),.ptr c aC []=>match σ.mem c with
   | some bx=>bif Nat.beq bx.aC aC&&!bx.buf then(match bx.val with
     | .data (.arr n e) _=>bif Nat.beq m n&&Ty.beq u e&&Nat.ble n 4294967296 then(match bounds σ n lo hi with
       | some (a,b)=>.need (inside a b n) (.ret (σ.aW d (.part c aC a (minus b a))))
       | none=>.fail) else .fail
     | _=>.fail) else .fail
   | none=>.fail
 | _,_=>.fail
def Bb(σ:St)(b aC:Nat):Option (Ty×Int):=match σ.mem b with
 | some bx=>bif Nat.beq bx.aC aC then(match bx.buf,bx.val with
   | true,.data (.slice e) l=>some (e,len (α:=e.den) l)
   | false,.data (.arr n e) _=>some (e,n)
   | _,_=>none) else none
 | none=>none
def QH(ty:TypeId):Option Nat :=
 match find cx.T ty with
 | some _=>none
 | none=>match find cx.els ty with
   | some e=>bif dD cx.u9 e then some e else none
   | none=>none
def My(d:Option Nat)(b aC:Nat)(σ:St)(i:Int):Nat→Nat→Tree St
 | 0,_=>.fail
 | m+1,k=>.node (bI i k) (.ret (σ.aW d (.ptr b aC [.gG k k]))) (My d b aC σ i m (k+1))
def LS:List FP→Bool
 | [.gG _ off]=>Nat.beq off 0
 | _=>false
def eR(d:Option Nat)(ty:TypeId)(x:aS)(i:Int)(σ:St):Tree St :=
 match find cx.T ty,x with
 | some (.slice u),.data (.slice e) l=>bif Ty.beq u e then .look (idx (l:List e.den) i) fun y=>.ret (σ.aW d (.cell e y)) else .fail
 | some (.arr m u),.cell (.arr n e) l=>bif Ty.beq u e&&Nat.beq m n then .look (idx (l:List e.den) i) fun y=>.ret (σ.aW d (.cell e y)) else .fail
 | some (.slice u),.whole b aC=>match Bb σ b aC with
   | some (e,n)=>bif Ty.beq u e then .need (within i n) (.ret (σ.aW d (.ptr b aC [.idx i e.size]))) else .fail
   | none=>.fail
 | some (.slice u),.part b aC lo n=>match Bb σ b aC with
   | some (e,_)=>bif Ty.beq u e then .need (within i n) (.ret (σ.aW d (.ptr b aC [.idx (plus lo i) e.size]))) else .fail
   | none=>.fail
 | some (.arr m u),.ptr b aC p=>bif live σ b aC then .need (within i m) (.ret (σ.aW d (.ptr b aC (p++[.idx i u.size])))) else .fail
 | none,.win b aC q _ _ lo n=>match QH cx ty with
   | some _=>bif LS q&&decide (lo=0)&&live σ b aC then My d b aC σ i n.toNat 0 else .fail
   | none=>.fail
 | _,_=>.fail
def mR(d:Option Nat)(ty:TypeId)(x:aS)(i:Int)(σ:St):Tree St :=
 match x,QH cx ty with
 | .win b aC q _ _ lo n,some _=>bif LS q&&decide (lo=0)&&live σ b aC then(match i with
  | .ofNat k=>bif decide ((k:Int)<n) then .ret (σ.aW d (.ptr b aC [.gG k k])) else .fail
  | .negSucc _=>.fail) else .fail
 | x,_=>eR cx d ty x i σ
def mS(d:Option Nat)(ty:TypeId)(x:aS)(i:Int)(σ:St):Tree St :=
 match find cx.T ty,x with
 | some .str,.data .str s=>.look (idx (s:List UInt8) i) fun b=>.ret (σ.aW d (.data (.int .u8) (u8 b)))
 | some (.arr m u),.data (.arr n e) l=>bif Ty.beq u e&&Nat.beq m n then .look (idx (l:List e.den) i) fun y=>.ret (σ.aW d (.data e y)) else .fail
 | _,_=>.fail
def p4.size:p4→Nat
 | .dat t=>t.size
 | _=>1
def Bc:List p4→Nat→Option Nat
 | [],_=>none
 | _::_,0=>some 0
 | f::r,k+1=>match Bc r k with|some o=>some (f.size+o)|none=>none
def fF(d:Option Nat)(s:TypeId)(x:aS)(k:Nat)(σ:St):Tree St :=
 match x with
 | .cell u y=>bif IW (find cx.T s) u then(match n7 (.data u y) k with
   | some (_,.data t z)=>.ret (σ.aW d (.cell t z))
   | _=>.fail) else .fail
 | .ptr b aC p=>bif live σ b aC then(match find cx.T s with
   | some t=>match kg t k,xg t k with
     | some off,some _=>.ret (σ.aW d (.ptr b aC (p++[.gG k off])))
     | _,_=>.fail
   | none=>match find cx.wu s with
     | some fs=>match Bc fs k with
       | some off=>.ret (σ.aW d (.ptr b aC (p++[.gG k off])))
       | none=>.fail
     | none=>.fail) else .fail
 | _=>.fail
def iI(d:Option Nat)(src dst:TypeId)(x:aS)(σ:St):Tree St :=
 match find cx.T src,find cx.T dst,x with
 | some (.int _),some (.int k),.data (.int _) n=>.ret (σ.aW d (.data (.int k) (qW k n)))
 | some .str,some .str,.data .str s=>.ret (σ.aW d (.data .str s))
 | some .str,some (.slice (.int .u8)),.data .str s=>match d with
   | some d=>.need (fits (len (α:=UInt8) s)) (σ.aQ (nb+d) (.data (.slice (.int .u8)) (ay s)) 0 true fun aC σ=>.ret (σ.put d (.whole (nb+d) aC)))
   | none=>.fail
 | some (.slice (.int .u8)),some .str,x=>match gZ (.int .u8) σ x with
   | some l=>.ret (σ.aW d (.data .str (bt l)))
   | none=>.fail
 | _,_,_=>.fail
def xk(e:Ty)(σ:St)(x:aS):Option (List e.den):=match x with
 | .data .str t=>toL (.int .u8) e (ay t)
 | x=>gZ e σ x
def ahW(ty t:Nat):Bool:=Nat.beq t 0||(match find cx.els ty with|some e=>Nat.beq e t|none=>false)
def iZ(d:Option Nat)(ty:TypeId)(s x:aS)(σ:St):Tree St :=
 match d,find cx.T ty with
 | some d,some (.slice e) =>
   match xk e σ x with
   | some m=>match s with
     | .qd=>.need (fits (len (α:=e.den) m)) (σ.aQ (nb+d) (.data (.slice e) m) 0 true fun aC σ=>.ret (σ.put d (.whole (nb+d) aC)))
     | .whole b aC=>match σ.mem b,gZ e σ (.whole b aC) with
       | some bx,some l=>bif bx.lk||!ahW cx ty bx.tid then .fail else
         .need (fits (plus (len (α:=e.den) l) (len (α:=e.den) m))) (.ret ((σ.cm b { bx with val:=.data (.slice e) (app (α:=e.den) l m),aC:=aC+1 }).put d (.whole b (aC+1))))
       | _,_=>.fail
     | _=>.fail
   | none=>.fail
 | _,_=>.fail
def kT(e:Ty)(m:List e.den)(b aC:Nat)(q:List FP)(chk:Nat→Ty→Bool)(lo:Int)(σ:St):Tree St :=
 match σ.mem b with
 | some bx=>bif Nat.beq bx.aC aC&&!bx.lk&&!bx.ro then
    (match bx.buf with
    | true=>match q,bx.val with
      | [],.data (.slice u) l=>match toL e u m with
        | some m=>.ret (σ.cm b { bx with val:=.data (.slice u) (over (α:=u.den) l lo m) })
        | none=>.fail
      | _,_=>.fail
    | false=>(nav q bx.val).bind fun old=>match old with
      | .data (.arr k u) l=>bif chk k u then(match toL e u m with
        | some m=>(zy q bx.val (.data (.arr k u) (over (α:=u.den) l lo m))).bind fun c=>.ret (σ.cm b { bx with val:=c })
        | none=>.fail) else .fail
      | _=>.fail)
   else .fail
 | none=>.fail
def IX(e:Ty)(m:Int→List e.den)(t:aS)(σ:St):Tree (Int×St) :=
 match t with
 | .part b aC lo n=>(kT e (m n) b aC [] (fun _ _=>true) lo σ).bind fun σ=>.ret (n,σ)
 | .whole b aC=>match lenOf σ t with|some n=>(kT e (m n) b aC [] (fun _ _=>true) 0 σ).bind fun σ=>.ret (n,σ)|none=>.fail
 | .win b aC q u k lo n=>(kT e (m n) b aC q (fun k' u'=>Nat.beq k k'&&Ty.beq u u') lo σ).bind fun σ=>.ret (n,σ)
 | _=>.fail
def Aq(d:Option Nat)(ty:TypeId)(t x:aS)(σ:St):Tree St :=
 match find cx.T ty with
 | some (.slice e)=>match xk e σ x with
   | none=>.fail
   | some m=>(IX e (fun n=>iH (α:=e.den) m n) t σ).bind fun r=>.ret (r.2.aW d (.data (.int .i64) (len (iH (α:=e.den) m r.1))))
 | _=>.fail
def Ar(ty:TypeId)(t:aS)(σ:St):Tree St :=
 match find cx.T ty with
 | some (.slice e)=>(IX e (fun n=>CI n e.zero) t σ).bind fun r=>.ret r.2
 | _=>.fail
def rV:(U:Ty)→U.den→List Nat→Nat→Option aS
 | .pair t U,u,ns,c=>match ns with
   | b::ns=>bif Nat.beq c b then some (.data t u.1) else rV U u.2 ns c
   | []=>none
 | _,_,_,_=>none
def wz(U:Ty)(u:U.den)(ns:List Nat)(σ:St):St :=
 { σ with mem:=fun c=>match rV U u ns c with
  | some v=>(match σ.mem c with|some bx=>some { bx with val:=v }|none=>none)
  | none=>σ.mem c }
def ur(σ:St):List Bool→(A U:Ty)→List aS→Option (A.den×U.den×List Nat)
 | [],A,U,vs=>match A,U,vs with
   | .unit,.unit,[]=>some ((),(),[])
   | _,_,_=>none
 | false::ps,A,U,vs=>match A,vs with
   | .pair t A,v::vs=>match toD t v,ur σ ps A U vs with
     | some x,some (y,u,ns)=>some ((x,y),u,ns)
     | _,_=>none
   | _,_=>none
 | true::ps,A,U,vs=>match U,vs with
   | .pair t U,.ptr b aC []::vs=>match σ.mem b with
     | some bx=>bif Nat.beq bx.aC aC&&!bx.buf&&!bx.lk&&!bx.ro&&Nat.beq bx.tid 0 then(match toS t bx.val,ur σ ps A U vs with
       | some x,some (y,u,ns)=>bif dD ns b then none else some (y,(x,u),b::ns)
       | _,_=>none) else none
     | none=>none
   | _,_=>none
def LU:aS→Bool
 | .whole ..=>true
 | _=>false
def D7(s:Spc)(d:Option Nat)(args:List aS)(σ:St):Tree St :=
 match s,args with
 | .chk T,[.ptr b aC []]=>match σ.mem b with
   | some bx=>match bx.val with
     | .mix (.yC b' v') (.mix u (.data .unit _))=>bif Nat.beq bx.aC aC&&!bx.buf&&!bx.lk&&!bx.ro&&Nat.beq bx.tid T&&Nat.blt 0 T&&Nat.beq b' b&&Nat.beq v' aC&&LU u then .ret (σ.aW d (.FQ .nl)) else .fail
     | _=>.fail
   | none=>.fail
 | .str T E,[.ptr b aC []]=>match σ.mem b with
   | some bx=>match bx.val with
     | .mix (.yC _ _) (.mix (.whole h hv) (.data .unit _))=>bif Nat.beq bx.aC aC&&!bx.buf&&Nat.beq bx.tid T&&Nat.blt 0 T&&!Nat.beq h b then(match σ.mem h with
       | some hx=>bif Nat.beq hx.aC hv&&hx.buf&&!hx.lk&&Nat.beq hx.tid E&&Nat.blt 0 E then(match hx.val with
         | .data (.slice (.int .u8)) l=>.ret ((σ.cm h { hx with val:=.data (.slice (.int .u8)) [],aC:=hx.aC+1 }).aW d (.data .str (bt l)))
         | _=>.fail) else .fail
       | none=>.fail) else .fail
     | _=>.fail
   | none=>.fail
 | _,_=>.fail
def Uh(d:Option Nat):Option Nat:=match d with|some d=>bif dD bf d then some d else none|none=>none
def mT(e:Ty)(d:Option Nat)(args:List aS)(σ:St):Tree St :=
 match d,args with
 | some d,[x]=>match Ap σ (.slice e) x with
   | some (l,σ)=>bif Nat.blt 0 e.size then .need (fits (len (α:=e.den) l)) (σ.aQ (nb+d) (.data (.slice e) l) 0 true fun aC σ=>.ret (σ.put d (.whole (nb+d) aC))) else .fail
   | none=>.fail
 | _,_=>.fail
def Bd(e:Ty)(σ:St):aS→Option (Nat×Nat×Box×List e.den)
 | .whole b aC=>match σ.mem b with
   | some bx=>bif Nat.beq bx.aC aC&&bx.buf&&!bx.lk&&!bx.ro&&Nat.beq bx.tid 0 then(match bx.val with
     | .data (.slice u) l=>(match toL u e l with|some l=>some (b,aC,bx,l)|none=>none)
     | _=>none) else none
   | none=>none
 | .part b aC lo n=>match σ.mem b with
   | some bx=>bif Nat.beq bx.aC aC&&bx.buf&&!bx.lk&&!bx.ro&&Nat.beq bx.tid 0&&decide (lo=0) then(match bx.val with
     | .data (.slice u) l=>(match toL u e l with|some l=>some (b,aC,bx,sub (α:=e.den) l lo n)|none=>none)
     | _=>none) else none
   | none=>none
 | _=>none
def uu(e A:Ty)(res:Bool)(spec:List e.den→A.den→Option (List e.den))(d:Option Nat)(args:List aS)(σ:St):Tree St :=
 match args with
 | v::vs=>match lU σ A vs with
   | some (x,σ)=>match Bd e σ v with
     | some (b,aC,bx,l)=>.look (spec l x) fun l'=>match res,d with
       | true,some d=>.ret ((σ.cm b { bx with val:=.data (.slice e) l',aC:=aC+1 }).put d (.whole b (aC+1)))
       | false,d=>bif LU v then .ret ((σ.cm b { bx with val:=.data (.slice e) l' }).aW d (.FQ .nl)) else .fail
       | _,_=>.fail
     | none=>.fail
   | none=>.fail
 | []=>.fail
def zA(d:Option Nat)(f:Nat):Option Spc :=
 match find cx.WL f with
 | some (.clone e)=>match Uh bf d with|some _=>some (.clone e)|none=>none
 | some (.own e A r s)=>some (.own e A r s)
 | _=>none
def zB(d:Option Nat)(f:Nat)(args:List aS)(σ:St):Tree St :=
 match find cx.cT f with
 | some c=>match c.R.flat with
   | true=>match jo σ c.A args with
     | some x=>.look (c.spec x) fun y=>.ret (σ.aW d (xh c.R y))
     | none=>.fail
   | false=>match lU σ c.A args with
     | some (x,σ)=>.look (c.spec x) fun y=>.ret (σ.aW d (xh c.R y))
     | none=>.fail
 | none=>match find cx.WL f with
  | some s=>D7 s d args σ
  | none=>match find cx.bA f with
   | some c=>(match ur σ c.ps c.A c.U args with
     | some (x,u,ns)=>.look (c.spec (x,u)) fun y=>.ret ((wz c.U y.2 ns σ).aW d (xh c.R y.1))
     | none=>(inl f args σ).bind fun r=>.ret (r.2.aW d r.1))
   | none=>(inl f args σ).bind fun r=>.ret (r.2.aW d r.1)
def wA(d:Option Nat)(f:Nat)(args:List aS)(σ:St):Tree St :=
 match zA cx bf d f with
 | some (.clone e)=>mT nb e d args σ
 | some (.own e A r s)=>uu e A r s d args σ
 | _=>zB cx inl d f args σ
def Ui:(t:Ty)→(u:Nat)→Option ((a:Ty)×(a.den→t.den))
 | .alt n a r,u=>bif Nat.beq n u then some ⟨a,.inl⟩ else match Ui r u with
   | some ⟨b,f⟩=>some ⟨b,fun x=>.inr (f x)⟩
   | none=>none
 | _,_=>none
def tP(d:Option Nat)(ty u:TypeId)(x:aS)(σ:St):Tree St :=
 match find cx.T ty with
 | some t=>match Ui t u with
   | some ⟨a,f⟩=>match Ap σ a x with
     | some (y,σ)=>.ret (σ.aW d (.data t (f y)))
     | none=>.fail
   | none=>.fail
 | none=>.fail
def tQ(d:Option Nat)(name:String)(args:List aS)(σ:St):Tree St :=
 match Uf cx.inv name with
 | some c=>match lU σ c.A args with
   | some (x,σ)=>.look (c.spec x) fun y=>.ret (σ.aW d (xh c.R y))
   | none=>.fail
 | none=>.fail
def xo(d:Option Nat)(ty:TypeId)(c:Call)(σ:St):Tree St :=
 match c.callee with
 | .builtin b=>match b,c.args.toList.map (cL σ),c.argTypes.toList with
   | .len,[x],[t]=>bif Zl (find cx.T t) x then(match lenOf σ x with
     | some n=>.ret (σ.aW d (.data (.int .i64) n))
     | none=>.fail) else(match QH cx t,x with
     | some _,.win b aC _ _ _ _ n=>bif live σ b aC&&decide (n≤64) then .ret (σ.aW d (.data (.int .i64) n)) else .fail
     | _,_=>.fail)
   | .append,[s,x],[t,u]=>match find cx.T u with
     | some .str|some (.slice _)=>iZ cx nb d t s x σ
     | _=>.fail
   | .copy,[t,x],[tt,tx]=>match find cx.T tx with
     | some .str|some (.slice _)=>Aq cx d tt t x σ
     | _=>.fail
   | .clear,[t],[tt]=>match d with|none=>Ar cx tt t σ|some _=>.fail
   | .min,[x,y],_=>RV true x y |>.bind fun v=>.ret (σ.aW d v)
   | .max,[x,y],_=>RV false x y |>.bind fun v=>.ret (σ.aW d v)
   | _,_,_=>.fail
 | .value f=>match cL σ f with
   | .fn f caps=>bif caps.all (fun b=>live σ b.1 b.2) then wA cx nb bf inl d f (c.args.toList.map (cL σ)++caps.map fun b=>.ptr b.1 b.2 []) σ else .fail
   | _=>.fail
 | .invoke r name=>tQ cx d name (cL σ r::c.args.toList.map (cL σ)) σ
def IY:List aS→Option (List (Nat×Nat))
 | []=>some []
 | .ptr b aC []::r=>(IY r).map ((b,aC)::·)
 | _=>none
def LV(σ:St)(b:Nat):Nat:=match σ.mem b with|some bx=>bx.aC+1|none=>0
def mkObj(b aC:Nat):List p4→Nat→St→Tree (aS×St)
 | [],_,σ=>.ret (.data .unit (),σ)
 | .dat t::r,j,σ=>(mkObj b aC r (j+1) σ).bind fun x=>.ret (.mix (.data t t.zero) x.1,x.2)
 | .one::r,j,σ=>(mkObj b aC r (j+1) σ).bind fun x=>.ret (.mix .tO x.1,x.2)
 | .self::r,j,σ=>(mkObj b aC r (j+1) σ).bind fun x=>.ret (.mix (.yC b aC) x.1,x.2)
 | .buf e gd::r,j,σ=>bif Nat.blt 0 e.size then σ.aQ (b*1000+999-j) (.data (.slice e) []) gd true fun v σ=>(mkObj b aC r (j+1) σ).bind fun x=>.ret (.mix (.whole (b*1000+999-j) v) x.1,x.2) else .fail
def uv:List p4→Option aS
 | []=>some (.data .unit ())
 | .dat t::r=>match uv r with|some v=>some (.mix (.data t t.zero) v)|none=>none
 | .buf _ _::r=>match uv r with|some v=>some (.mix .qd v)|none=>none
 | .one::r=>match uv r with|some v=>some (.mix .tO v)|none=>none
 | .self::_=>none
def n8(σ:St)(fs:List p4):aS→List (Nat×Operand)→Option aS
 | v,[]=>some v
 | v,(k,x)::r=>match n7 v k,Bc fs k,fs[k]? with
   | some (o,.data t _),some o',some f=>bif Nat.beq o o'&&Nat.beq t.size f.size then(match toS t (cL σ x) with
     | some y=>match(IV v k fun _=>.ret (.data t y)).run with
       | some v=>n8 σ fs v r
       | none=>none
     | none=>none) else none
   | _,_,_=>none
def oX(b:Nat):List p4→Nat→aS→St→Tree (aS×St)
 | [],_,.data .unit x,σ=>.ret (.data .unit x,σ)
 | .dat _::r,j,.mix (.data u y) v,σ=>(oX b r (j+1) v σ).bind fun x=>.ret (.mix (.data u y) x.1,x.2)
 | .one::r,j,.mix .tO v,σ=>(oX b r (j+1) v σ).bind fun x=>.ret (.mix .tO x.1,x.2)
 | .buf e gd::r,j,.mix .qd v,σ=>bif Nat.blt 0 e.size then σ.aQ (b*1000+999-j) (.data (.slice e) []) gd true fun aC σ=>(oX b r (j+1) v σ).bind fun x=>.ret (.mix (.whole (b*1000+999-j) aC) x.1,x.2) else .fail
 | _,_,_,_=>.fail
def CL(σ:St):Nat→List (Nat×Operand)→Option aS
 | _,[]=>some (.data .unit ())
 | k,(j,x)::r=>bif Nat.beq j k then(match cL σ x,CL σ (k+1) r with
   | .tO,some v=>some (.mix .tO v)
   | .ptr b aC p,some v=>some (.mix (.ptr b aC p) v)
   | .fn f c,some v=>some (.mix (.fn f c) v)
   | _,_=>none) else none
def D8(d:Option Nat)(t:TypeId)(len:Nat)(parts:List (Nat×Operand))(σ:St):Tree St :=
 match d,QH cx t,CL σ 0 parts with
 | some d,some _,some v=>bif Nat.beq len parts.length&&Nat.blt 0 len&&Nat.ble len 64 then
  σ.aQ (nb+d) v 0 false fun aC σ=>.ret (σ.put d (.win (nb+d) aC [.gG 0 0] .bool len 0 len)) else .fail
 | _,_,_=>.fail
def GN(d:Option Nat)(elem:TypeId)(x:aS)(σ:St):Tree St :=
 match d,x with
 | some _,.undef=>.fail
 | some _,.FQ _=>.fail
 | some d,v=>match find cx.wu elem with
   | some fs=>(oX (nb+d) fs 0 v σ).bind fun r=>r.2.aQ (nb+d) r.1 elem false fun aC σ=>.ret (σ.put d (.ptr (nb+d) aC []))
   | none=>σ.aQ (nb+d) v 0 false fun aC σ=>.ret (σ.put d (.ptr (nb+d) aC []))
 | none,_=>.fail
def wX(d:Nat)(t:Ty)(σ:St):Tree St :=
 match Uh bf (some d),t with
 | some _,.slice e=>bif Nat.blt 0 e.size then σ.aQ ((nb+d)*1000+999) (.data (.slice e) []) 0 true fun v σ =>
  σ.aQ (nb+d) (.whole ((nb+d)*1000+999) v) 0 false fun aC σ=>.ret (σ.put d (.ptr (nb+d) aC [])) else .fail
 | _,t=>σ.aQ (nb+d) (.data t t.zero) 0 false fun aC σ=>.ret (σ.put d (.ptr (nb+d) aC []))
def rW(o:Oper)(σ:St):Tree St :=
 match o.op with
 | .move x|.assign x=>kj cx nb bf o.dst o.type (cL σ x) σ
 | .pick c a b=>qe o.dst (cL σ c) (cL σ a) (cL σ b) σ
 | .alloc elem=>match o.dst,find cx.T elem with
   | some d,some t=>wX nb bf d t σ
   | some d,none=>match find cx.wu elem with
     | some fs=>(mkObj (nb+d) (LV σ (nb+d)) fs 0 σ).bind fun r=>r.2.aQ (nb+d) r.1 elem false fun aC σ=>.ret (σ.put d (.ptr (nb+d) aC []))
     | none=>bif dD cx.u9 elem then σ.aQ (nb+d) .undef 0 false fun aC σ=>.ret (σ.put d (.ptr (nb+d) aC [])) else .fail
   | _,_=>.fail
 | .box elem x=>GN cx nb o.dst elem (cL σ x) σ
 | .build t parts=>match find cx.T t with
   | some (.pair a b)=>match hU σ (.pair a b) (Ty.pair a b).zero parts.toList with
     | some (x,σ)=>.ret (σ.aW o.dst (.data (.pair a b) x))
     | none=>.fail
   | some (.arr n e)=>match gO σ e (List.replicate n e.zero) parts.toList with
     | some (l,σ)=>.ret (σ.aW o.dst (.data (.arr n e) l))
     | none=>.fail
   | none=>match find cx.wu t with
     | some fs=>match uv fs with
       | some z=>match n8 σ fs z parts.toList with
         | some (.mix p q)=>.ret (σ.aW o.dst (.mix p q))
         | some (.data .unit _)=>.ret (σ.aW o.dst (.data .unit ()))
         | _=>.fail
       | none=>.fail
     | none=>.fail
   | _=>.fail
 | .buildSlice t len parts=>match find cx.T t with
   | some (.slice e)=>match Uh bf o.dst,len,parts.toList with
     | some d,0,[]=>σ.aQ (nb+d) (.data (.slice e) []) 0 true fun aC σ=>.ret (σ.put d (.whole (nb+d) aC))
     | _,_,_=>bif Nat.ble (len*e.size) 65536 then(match gO σ e (List.replicate len e.zero) parts.toList with
     | some (l,σ)=>.ret (σ.aW o.dst (.data (.slice e) l))
     | none=>.fail) else .fail
   | none=>D8 cx nb o.dst t len parts.toList σ
   | _=>.fail
 | .load t a=>mD cx o.dst t (cL σ a) σ
 | .store t a x=>match o.dst with|none=>mP cx bf t (cL σ a) (cL σ x) σ|some _=>.fail
 | .nilCheck x=>match cL σ x with
   | .ptr b aC p=>bif live σ b aC then .ret (σ.aW o.dst (.ptr b aC p)) else .fail
   | .cell t x=>.ret (σ.aW o.dst (.cell t x))
   | .fn f c=>.ret (σ.aW o.dst (.fn f c))
   | _=>.fail
 | .binOp op xt x y _=>(ac8 σ (find cx.T xt) (dD cx.EK xt) op (cL σ x) (cL σ y)).bind fun v=>.ret (σ.aW o.dst v)
 | .unOp op _ x=>(un op (cL σ x)).bind fun v=>.ret (σ.aW o.dst v)
 | .convert src dst x=>iI cx nb o.dst src dst (cL σ x) σ
 | .makeFunc (.func f) first caps=>match first.toList,IY (caps.toList.map (cL σ)) with
   | [],some cs=>.ret (σ.aW o.dst (.fn f cs))
   | _,_=>.fail
 | .slice t x lo hi none=>mQ cx o.dst t (cL σ x) lo hi σ
 | .fieldAddr s x k=>fF cx o.dst s (cL σ x) k σ
 | .field xt x k=>match cL σ x with
   | .data u y=>bif IW (find cx.T xt) u then(match n7 (.data u y) k with
     | some (_,v)=>.ret (σ.aW o.dst v)
     | none=>.fail) else .fail
   | _=>.fail
 | .indexAddr t x i=>match cL σ i with
   | .data (.int _) i=>bif dD bf 5000000 then mR cx o.dst t (cL σ x) i σ else eR cx o.dst t (cL σ x) i σ
   | _=>.fail
 | .index t x i=>match cL σ i with
   | .data (.int _) i=>mS cx o.dst t (cL σ x) i σ
   | _=>.fail
 | .makeSlice t l c=>match o.dst,find cx.T t,cL σ l,cL σ c with
   | some d,some (.slice e),.data (.int _) l,.data (.int _) c =>
     .need (inside 0 l c) (.need (fits c)
      (σ.aQ (nb+d) (.data (.slice e) (CI l e.zero)) 0 true fun aC σ=>.ret (σ.put d (.whole (nb+d) aC))))
   | _,_,_,_=>.fail
 | .extract t k=>match cL σ t with
   | .FQ vs=>match nth vs k with
     | some v=>.ret (σ.aW o.dst v)
     | none=>.fail
   | _=>.fail
 | .call c=>xo cx nb bf inl o.dst o.type c σ
 | .makeInterface u x=>tP cx o.dst o.type u (cL σ x) σ
 | _=>.fail
def Be(g:Option (Nat×Bool))(j:Nat)(want:Bool):Bool :=
 match g with|some (i,b)=>Nat.beq i j&&(b==want)|none=>false
def under(j:Nat)(want:Bool):(inner:List Nat)→List (Nat×Oper)→List (Nat×Oper)×List (Nat×Oper)
 | _,[]=>([],[])
 | inner,(i,o)::r =>
   bif Be o.guard j want then let x:=under j want (i::inner) r;((i,{ o with guard:=none })::x.1,x.2)
   else bif (match o.guard with|some (k,_)=>inner.any (Nat.beq k)|none=>false) then let x:=under j want (i::inner) r;((i,o)::x.1,x.2)
   else([],(i,o)::r)
def LW(cx:Ctx):List (Nat×Oper)→Bool
 | []=>false
 | (_,o)::r=>(match o.op with
   | .call c=>match c.callee with
     | .value (.func f)=>match find cx.cT f with|some _=>false|none=>true
     | .value _=>true
     | .builtin .append=>true
     | _=>false
   | .store ..=>true
   | _=>false)||LW cx r
def St.jq(σ:St):St:={ σ with mem:=fun i=>match σ.mem i with|some b=>some { b with lk:=true }|none=>none }
def St.undef(σ:St):List (Nat×Oper)→St
 | []=>σ
 | (_,o)::r=>(σ.undef r).aW o.dst .undef
def oY(d:Nat):List (Nat×Oper)→Bool
 | []=>false
 | (_,o)::r=>(match o.dst with|some k=>Nat.beq k d|none=>false)||oY d r
def Bf(σ:St)(pk:Oper)(dj:Nat)(want:Bool):Option aS :=
 match pk.op with
 | .pick (.tmp c) a b=>bif Nat.beq c dj then some (cL σ (bif want then a else b)) else none
 | _=>none
def rX(all:Array Oper):Nat→List (Nat×Oper)→St→Tree St
 | 0,_,_=>.fail
 | n+1,[],σ=>.ret σ
 | n+1,(i,o)::r,σ =>
   match o.guard with
   | none=>(rW cx nb bf inl o σ).bind fun σ=>rX all n r σ
   | some (j,want) =>
     let g:=under j want [] ((i,o)::r)
     match(all[j]?).bind (·.dst) with
     | none=>.fail
     | some dj=>match σ.slots dj,g.2 with
       | .data .bool c,(_,pk)::rest=>bif oY dj g.1 then .fail else match pk.guard with
         | some _=>.fail
         | none =>
           let c':=bif want then c else nt c
           bif LW cx g.1 then
            (Tree.node c' ((rX all n g.1 σ).bind fun σ=>match Bf σ pk dj want with
              | some v=>.ret (σ.aW pk.dst v)
              | none=>.fail)
             (match Bf (σ.undef g.1) pk dj (!want) with
              | some v=>.ret ((σ.undef g.1).aW pk.dst v)
              | none=>.fail)).bind fun σ=>rX all n rest σ
           else match find cx.T pk.type,pk.dst with
            | some t,some dp=>(Tree.node c' ((rX all n g.1 σ.jq).bind fun τ=>match(Bf τ pk dj want).bind (toD t) with
              | some x=>.ret x
              | none=>.fail)
             (match(Bf (σ.undef g.1) pk dj (!want)).bind (toD t) with
              | some x=>.ret x
              | none=>.fail)).join fun x=>rX all n rest ((σ.undef g.1).put dp (.data t x))
            | _,_=>.fail
       | _,_=>.fail
def number:Nat→List Oper→List (Nat×Oper)
 | _,[]=>[]
 | k,o::r=>(k,o)::number (k+1) r
def Mz(ops:Array Oper)(σ:St):Tree St:=rX cx nb bf inl ops (2*ops.size+1) (number 0 ops.toList) σ
def fG:Op→List Operand
 | .move x|.assign x|.box _ x|.load _ x|.nilCheck x|.unOp _ _ x|.convert _ _ x|.fieldAddr _ x _|.field _ x _|.extract x _=>[x]
 | .pick c a b=>[c,a,b]
 | .build _ ps|.buildSlice _ _ ps=>ps.toList.map (·.2)
 | .store _ a x=>[a,x]
 | .binOp _ _ x y _=>[x,y]
 | .makeFunc _ f c=>f.toList++c.toList
 | .slice _ x lo hi _=>x::(lo.toList++hi.toList)
 | .indexAddr _ x i|.index _ x i=>[x,i]
 | .makeSlice _ l c=>[l,c]
 | .call c=>(match c.callee with|.value f=>[f]|.invoke r _=>[r]|_=>[])++c.args.toList
 | .makeInterface _ x=>[x]
 | _=>[]
def tmpsOf:List Operand→List Nat
 | []=>[]
 | .tmp t::r=>t::tmpsOf r
 | _::r=>tmpsOf r
def qf(o:Oper)(σ:St):Option Nat:=match o.op with
 | .call c=>match c.callee with
   | .value x=>match cL σ x with
     | .fn f _=>some f
     | _=>none
   | _=>none
 | _=>none
def ajw:Option Nat→Option Nat→Bool
 | some a,some b=>Nat.beq a b
 | none,none=>true
 | _,_=>false
def cls(g:Option Nat)(o:Oper):Nat:=match o.op with
 | .assign _|.move _|.makeSlice ..|.convert ..=>1
 | .box e _=>match find cx.wu e with
   | some _=>3
   | none=>1
 | .alloc e=>match find cx.T e with
   | some (.slice _)=>3
   | some _=>1
   | none=>match find cx.wu e with
     | some _=>3
     | none=>1
 | .build ..|.buildSlice ..|.store ..=>2
 | .call c=>match c.callee with
   | .builtin .len|.builtin .min|.builtin .max=>0
   | .builtin .append=>2
   | .builtin _=>3
   | .value _=>match g with
     | some f=>match find cx.WL f with
       | some (.clone _)=>2
       | some (.own _ _ _ _)=>2
       | _=>match find cx.cT f with
         | some c=>bif c.R.flat then 0 else 2
         | none=>3
     | none=>3
   | .invoke ..=>2
 | .makeInterface ..=>2
 | _=>0
structure Fp where
 rd:List Nat
 wr:List Nat
 LX:Bool
 fn:Option Nat
def xp(σ:St):aS→List Nat
 | .ptr b _ _=>[b]
 | .whole b _=>[b]
 | .part b _ _ _=>[b]
 | .win b _ _ _ _ _ _=>[b]
 | .fn _ caps=>caps.map (·.1)
 | .mix a b=>xp σ a++xp σ b
 | _=>[]
def refsOf(σ:St):List Operand→List Nat
 | []=>[]
 | x::r=>xp σ (cL σ x)++refsOf σ r
def ajx(o:Oper)(σ:St):List Nat:=match o.op with
 | .move x|.assign x=>match cL σ x with
   | .ptr _ _ _=>[]
   | v=>xp σ v
 | _=>refsOf σ (fG o.op)
def own(o:Oper):List Nat:=match o.dst with|some d=>[nb+d]|none=>[]
def As(o:Oper)(σ:St):Fp :=
 let rd:=own nb o++ajx o σ
 let g:=qf o σ
 match cls cx g o with
 | 0=>⟨rd,[],false,g⟩
 | 1=>⟨rd,own nb o,false,g⟩
 | 2=>⟨rd,rd,false,g⟩
 | _=>⟨[],[],true,g⟩
def St.only(σ:St)(ts rd:List Nat):St:={ slots:=fun t=>bif dD ts t then σ.slots t else .undef,mem:=fun b=>bif dD rd b then σ.mem b else none }
def lay(σ:St)(d:Option Nat)(wr:List Nat)(τ:St):St :=
 { slots:=match d with|some d=>fun t=>bif Nat.beq t d then τ.slots d else σ.slots t|none=>σ.slots
   mem:=fun b=>bif dD wr b then τ.mem b else σ.mem b }
def CN(_:Nat)(_:List aS)(_:St):Tree (aS×St):=.fail
def adf(fp:Fp)(o:Oper)(σ:St):Tree St:=bif ajw (qf o σ) fp.fn then rW cx nb bf CN o σ else .fail
def jr(fp:Fp)(o:Oper)(σ:St):Tree St :=
 bif fp.LX then rW cx nb bf inl o σ
 else(adf cx nb bf fp o (σ.only (tmpsOf (fG o.op)) fp.rd)).bind fun τ=>.ret (lay σ o.dst fp.wr τ)
abbrev CO:=Nat×Oper×Fp×Nat
def maskAt:List CO→Nat→Nat
 | [],_=>0
 | (i,_,_,m)::r,k=>bif Nat.beq i k then m else maskAt r k
def wY(done:List CO):List Edge→Nat
 | []=>0
 | e::r=>bif Region.binds .any e then(wY done r ||| 2 ^ e.on) ||| maskAt done e.on else wY done r
def mask(done:List CO)(o:Oper):Nat:=wY done o.after.toList
def aar(a b:List Nat):Bool:=a.all fun x=>!dD b x
def apart(x y:Oper)(f g:Fp):Bool :=
 !f.LX&&!g.LX&&aar f.wr g.rd&&aar g.wr f.rd &&
 (match x.dst with|some d=>!dD (tmpsOf (fG y.op)) d&&(match y.dst with|some e=>!Nat.beq d e|none=>true)|none=>true) &&
 (match y.dst with|some e=>!dD (tmpsOf (fG x.op)) e|none=>true)
def loose(o:Oper)(f:Fp)(m:Nat):List CO→Bool
 | []=>true
 | (k,ok,fk,_)::r=>(Nat.testBit m k||apart ok o fk f)&&loose o f m r
def MA:List (Nat×Oper)→List CO→St→Tree St
 | [],_,σ=>.ret σ
 | (i,o)::r,done,σ=>match o.guard with
   | some _=>.fail
   | none =>
     let f:=As cx nb o σ
     let m:=mask done o
     bif loose o f m done&&(o.after.all fun e=>!Region.binds .any e||Nat.blt e.on i) then
      (jr cx nb bf inl f o σ).bind fun σ=>MA r ((i,o,f,m)::done) σ
     else .fail
def QI(all:Array Oper)(o:Oper):List Nat:=match o.guard with
 | some (g,_)=>match(all[g]?).bind (·.dst) with|some d=>[d]|none=>[]
 | none=>[]
def FR(all:Array Oper)(o:Oper):List Nat:=QI all o++tmpsOf (fG o.op)
def Au(o:Oper)(k:Nat):Bool:=match o.guard with|some (g,_)=>!Nat.beq g k|none=>true
def CP(all:Array Oper)(i j:Nat)(x y:Oper)(f g:Fp):Bool :=
 !f.LX&&!g.LX&&aar f.wr g.rd&&aar g.wr f.rd&&Au x j&&Au y i &&
 (match x.dst with|some d=>!dD (FR all y) d&&(match y.dst with|some e=>!Nat.beq d e|none=>true)|none=>true) &&
 (match y.dst with|some e=>!dD (FR all x) e|none=>true)
def FT(all:Array Oper)(i:Nat)(o:Oper)(f:Fp)(m:Nat):List CO→Bool
 | []=>true
 | (k,ok,fk,_)::r=>(Nat.testBit m k||CP all k i ok o fk f)&&FT all i o f m r
def iz(i:Nat)(sk:Nat→Bool):Nat→Bool:=fun k=>Nat.beq k i||sk k
def vZ(all:Array Oper):List (Nat×Oper)→List CO→St→(Nat→Bool)→Tree St
 | [],_,σ,_=>.ret σ
 | (i,o)::r,done,σ,sk =>
   let f:=As cx nb o σ
   let m:=mask done o
   bif FT all i o f m done&&(o.after.all fun e=>!Region.binds .any e||Nat.blt e.on i) then
    match o.guard with
    | none=>(jr cx nb bf inl f o σ).bind fun σ=>vZ all r ((i,o,f,m)::done) σ sk
    | some (g,want)=>match(all[g]?).bind (·.dst) with
      | none=>.fail
      | some dg=>bif sk g then vZ all r ((i,o,f,m)::done) (σ.aW o.dst .undef) (iz i sk)
        else match σ.slots dg with
         | .data .bool c=>.node c
          (bif want then(jr cx nb bf inl f o (σ.put dg (.data .bool true))).bind fun σ=>vZ all r ((i,o,f,m)::done) σ sk
           else vZ all r ((i,o,f,m)::done) ((σ.put dg (.data .bool true)).aW o.dst .undef) (iz i sk))
          (bif want then vZ all r ((i,o,f,m)::done) ((σ.put dg (.data .bool false)).aW o.dst .undef) (iz i sk)
           else(jr cx nb bf inl f o (σ.put dg (.data .bool false))).bind fun σ=>vZ all r ((i,o,f,m)::done) σ sk)
         | _=>.fail
   else .fail
def lV:List Oper→Bool
 | []=>true
 | o::r=>(match o.dst with|some d=>!dD (IZ r) d|none=>true)&&lV r
where IZ:List Oper→List Nat
 | []=>[]
 | o::r=>match o.dst with|some d=>d::IZ r|none=>IZ r
def Av(ops:Array Oper)(σ:St):Tree St :=
 bif ops.any fun o=>o.guard.isSome then(bif lV ops.toList then vZ cx nb bf inl ops (number 0 ops.toList) [] σ (fun _=>false) else .fail)
 else MA cx nb bf inl (number 0 ops.toList) [] σ
end
end Go.Ge
namespace Go.Ge
def rounds{S R:Type}(f:S→Option (S⊕R)):Nat→S→Option R
 | 0,_=>none
 | n+1,s=>(f s).bind fun x=>match x with|.inl s=>rounds f n s|.inr r=>some r
theorem J0{S R:Type}{f:S→Option (S⊕R)}:∀{n:Nat} {s:S} {r:R},rounds f n s=some r→∀m,n≤m→rounds f m s=some r:=by
 intro n;induction n with
 | zero=>intro s r h;cases h
 | succ n ih =>
   intro s r h m hm;obtain⟨k,rfl⟩:∃k,m=k+1:=⟨m-1,by omega⟩;simp only[rounds] at h⊢;cases hf:f s with
   | none=>rw[hf] at h;cases h
   | some x =>
     rw[hf] at h;cases x with
     | inl s'=>exact ih h k (by omega)
     | inr r'=>exact h
open Classical in
def Uj{S R:Type}(f:S→Option (S⊕R))(s:S):Option R :=
 if h:∃n r,rounds f n s=some r then some (Classical.choose (O0 h)) else none
theorem Cb{S R:Type}{f:S→Option (S⊕R)}{n:Nat}{s:S}{r:R}(h:rounds f n s=some r):Uj f s=some r:=by
 have hex:∃n r,rounds f n s=some r:=⟨n,r,h⟩;unfold Uj;rw[dif_pos hex];have h2:=O0 (O0 hex);have a:=J0 h (max n (Classical.choose hex)) (by omega);have b:=J0 h2 (max n (Classical.choose hex)) (by omega);rw[a] at b;exact b.symm
class Lp where
 loop:{S R:Type}→(S→Option (S⊕R))→S→Option R
 ok:∀{S R:Type} (f:S→Option (S⊕R)) (s:S),loop f s=Uj f s
theorem Lp.one(i j:Lp):i=j:=by
 obtain⟨l,h⟩:=i;obtain⟨m,k⟩:=j;have:@l=@m:=by funext S R f s;rw[h,k]
 subst this;rfl
@[reducible] noncomputable def Lp.ajy:Lp where
 loop:=fun f s=>match rounds f 100000 s with|some r=>some r|none=>Uj f s
 ok:=fun f s=>by
  generalize 100000=k;cases hk:rounds f k s with
  | some r=>exact(Cb hk).symm
  | none=>rfl
section
variable [Lp]
def Loop{S R:Type}(f:S→Option (S⊕R))(s:S):Option R:=Lp.loop f s
theorem rY{S R:Type}{f:S→Option (S⊕R)}{n:Nat}{s:S}{r:R}(h:rounds f n s=some r):Loop f s=some r:=(Lp.ok f s).trans (Cb h)
theorem rZ{S R:Type}{f:S→Option (S⊕R)}{s:S}{r:R}(h:Loop f s=some r):∃n,rounds f n s=some r:=by
 replace h:=(Lp.ok f s).symm.trans h;unfold Uj at h;split at h
 ·rename_i hex;have h2:=O0 (O0 hex);exact⟨_,by rw[h2];exact h⟩
 ·cases h
theorem aX{S R:Type}(f:S→Option (S⊕R))(s:S):Loop f s=(f s).bind fun x=>match x with|.inl s=>Loop f s|.inr r=>some r:=by
 cases hf:f s with
 | none =>
   cases hl:Loop f s with
   | none=>rfl
   | some r =>
     obtain⟨n,hn⟩:=rZ hl;cases n with
     | zero=>cases hn
     | succ n=>simp[rounds,hf] at hn
 | some x =>
   cases x with
   | inr r=>exact rY (n:=1) (by simp[rounds,hf])
   | inl s' =>
     show Loop f s=Loop f s'
     cases hl:Loop f s' with
     | some r =>
       obtain⟨n,hn⟩:=rZ hl;exact rY (n:=n+1) (by simp[rounds,hf,hn])
     | none =>
       cases LY:Loop f s with
       | none=>rfl
       | some r =>
         obtain⟨n,hn⟩:=rZ LY;cases n with
         | zero=>cases hn
         | succ n =>
           simp[rounds,hf] at hn;rw[rY hn] at hl;cases hl
end
inductive Sh where
 | d (t:Ty)
 | k (v:aS)
 | m (a b:Sh)
def Sh.ty:Sh→Ty
 | .d t=>t
 | .k _=>.unit
 | .m a b=>.pair a.ty b.ty
def LZ:List FP→List FP→Bool
 | [],[]=>true
 | .gG k o::p,.gG k' o'::q=>Nat.beq k k'&&Nat.beq o o'&&LZ p q
 | _,_=>false
def L1:List (Nat×Nat)→List (Nat×Nat)→Bool
 | [],[]=>true
 | (a,b)::r,(c,d)::s=>Nat.beq a c&&Nat.beq b d&&L1 r s
 | _,_=>false
theorem WO:∀{p q:List FP},LZ p q=true→p=q:=by
 intro p;induction p with
 | nil=>intro q h;cases q<;>first|rfl|cases h
 | cons s p ih =>
   intro q h;cases s with
   | idx i n=>cases q<;>cases h
   | gG k o =>
     cases q with
     | nil=>cases h
     | cons s' q =>
       cases s' with
       | idx i n=>cases h
       | gG k' o' =>
         simp only[LZ,dW] at h;rw[gz h.1.1,gz h.1.2,ih h.2]
theorem WQ:∀{p q:List (Nat×Nat)},L1 p q=true→p=q:=by
 intro p;induction p with
 | nil=>intro q h;cases q<;>first|rfl|cases h
 | cons s p ih =>
   intro q h;obtain⟨a,b⟩:=s;cases q with
   | nil=>cases h
   | cons s' q =>
     obtain⟨c,d⟩:=s';simp only[L1,dW] at h;rw[gz h.1.1,gz h.1.2,ih h.2]
def Bg(V:Nat→Bool)(kU σ:St):aS→aS→Bool
 | .ptr b v p,.ptr b' v' p'=>Nat.beq b b'&&LZ p p'&&(bif V b then(match kU.mem b,σ.mem b with|some x,some y=>Nat.beq x.aC v&&Nat.beq y.aC v'|_,_=>false) else Nat.beq v v')
 | .whole b v,.whole b' v'=>Nat.beq b b'&&(match kU.mem b,σ.mem b with|some x,some y=>Nat.beq x.aC v&&Nat.beq y.aC v'&&y.buf|_,_=>false)
 | .fn f c,.fn f' c'=>Nat.beq f f'&&L1 c c'
 | .tO,.tO=>true
 | .u7,.u7=>true
 | .yC b v,.yC b' v'=>Nat.beq b b'&&Nat.beq v v'
 | _,_=>false
def afT:aS→Sh
 | .data t _=>.d t
 | .mix a b=>.m (afT a) (afT b)
 | v=>.k v
def Sh.out(V:Nat→Bool)(kU σ:St):(s:Sh)→aS→Option s.ty.den
 | .d t,v=>toD t v
 | .k u,v=>bif Bg V kU σ u v then some () else none
 | .m a b,.mix v w=>match Sh.out V kU σ a v,Sh.out V kU σ b w with
   | some x,some y=>some (x,y)
   | _,_=>none
 | .m _ _,_=>none
def bump(M V:Nat→Bool):aS→aS
 | .whole b v=>bif M b then .whole b (v+1) else .whole b v
 | .ptr b v p=>bif M b&&V b then .ptr b (v+1) p else .ptr b v p
 | v=>v
def Sh.tI(M V:Nat→Bool):(s:Sh)→s.ty.den→aS
 | .d t,x=>.data t x
 | .k v,_=>bump M V v
 | .m a b,x=>.mix (a.tI M V x.1) (b.tI M V x.2)
structure Uk where
 S:List (Nat×Nat)
 M:List Nat
 fz:Bool
structure Aw where
 marks:List (Option Uk)
 ahX:List Nat
structure Carry where
 S:List (Nat×Sh)
 M:List (Nat×Sh×Box)
 V:Nat→Bool
def tyS:List (Nat×Sh)→Ty
 | []=>.unit
 | (_,s)::r=>.pair s.ty (tyS r)
def tyM:List (Nat×Sh×Box)→Ty
 | []=>.unit
 | (_,s,_)::r=>.pair s.ty (tyM r)
def Carry.ty(c:Carry):Ty:=.pair (tyS c.S) (tyM c.M)
def afU(V:Nat→Bool)(kU σ:St):(l:List (Nat×Sh))→Option (tyS l).den
 | []=>some ()
 | (i,s)::r=>match Sh.out V kU σ s (σ.slots i),afU V kU σ r with
   | some x,some y=>some (x,y)
   | _,_=>none
def J1(fz mv:Bool)(bx b:Box):Bool:=(fz||(bx.ro==b.ro))&&Nat.beq bx.tid b.tid&&(bx.buf==b.buf)&&(bx.buf||mv||Nat.beq bx.aC b.aC)
def afV(V:Nat→Bool)(fz:Bool)(kU σ:St):(l:List (Nat×Sh×Box))→Option (tyM l).den
 | []=>some ()
 | (i,s,b)::r=>match σ.mem i with
   | some bx=>bif J1 fz (V i) bx b then(match Sh.out V kU σ s bx.val,afV V fz kU σ r with
     | some x,some y=>some (x,y)
     | _,_=>none) else none
   | none=>none
def Carry.out(c:Carry)(fz:Bool)(kU σ:St):Option c.ty.den :=
 match afU c.V kU σ c.S,afV c.V fz kU σ c.M with
 | some x,some y=>some (x,y)
 | _,_=>none
def RW(M V:Nat→Bool):(l:List (Nat×Sh))→(tyS l).den→Nat→Option aS
 | [],_,_=>none
 | (i,s)::r,x,t=>bif Nat.beq t i then some (s.tI M V x.1) else RW M V r x.2 t
def MB(fz:Bool)(M V:Nat→Bool):(l:List (Nat×Sh×Box))→(tyM l).den→Nat→Option Box
 | [],_,_=>none
 | (i,s,b)::r,x,t=>bif Nat.beq t i then some { b with val:=s.tI M V x.1,ro:=b.ro||fz,aC:=bif b.buf||V t then b.aC+1 else b.aC } else MB fz M V r x.2 t
def Ah:List (Nat×Sh×Box)→Nat→Bool
 | [],_=>false
 | (i,_,_)::r,t=>Nat.beq t i||Ah r t
def Carry.tI(c:Carry)(fz lock:Bool)(wr:List Nat)(kU:St)(x:c.ty.den):St :=
 { slots:=fun t=>match RW (Ah c.M) c.V c.S x.1 t with
    | some v=>v
    | none=>bif dD wr t then .undef else kU.slots t
   mem:=fun b=>match MB fz (Ah c.M) c.V c.M x.2 b with
    | some bx=>some bx
    | none=>match kU.mem b with
      | some bx=>some { bx with lk:=bx.lk||lock }
      | none=>none }
def settle:List (Nat×Sh)→St→Option St
 | [],σ=>some σ
 | (i,.d t)::r,σ=>match Ap σ t (σ.slots i) with
   | some (x,σ)=>settle r (σ.put i (.data t x))
   | none=>none
 | _::r,σ=>settle r σ
def Carry.MC(c:Carry)(fz:Bool)(kU σ:St):Option c.ty.den :=
 bif fz then(match settle c.S σ with
  | some σ=>c.out true kU σ
  | none=>none)
 else c.out false kU σ
def Carry.lock(c:Carry)(σ:St):St :=
 { σ with mem:=fun b=>match σ.mem b with
  | some bx=>some (bif Ah c.M b then bx else { bx with lk:=true })
  | none=>none }
def r8:List Oper→List Nat
 | []=>[]
 | o::r=>match o.dst with|some d=>d::r8 r|none=>r8 r
def writes:Code→List Nat
 | .region _ ops _=>r8 ops.toList
 | .seq a b=>writes a++writes b
 | .cond _ a b=>writes a++writes b
 | .block _ a=>writes a
 | .loop a=>writes a
 | .scope a=>writes a
 | _=>[]
def v7:Code→List Nat
 | .seq a b=>v7 a++(v7 b).filter fun e=>!dD (v7 a) e
 | .cond _ a b=>v7 a++(v7 b).filter fun e=>!dD (v7 a) e
 | .block i a=>(v7 a).filter fun e=>!Nat.beq e (i+2)
 | .loop a=>v7 a
 | .scope a=>v7 a
 | .ret=>[1]
 | .exit i=>[i+2]
 | _=>[]
def marks:Code→Nat
 | .seq a b=>marks a+marks b
 | .cond _ a b=>marks a+marks b+1
 | .block _ a=>marks a
 | .loop a=>marks a+1
 | .scope a=>marks a
 | _=>0
def K1:List Nat→Nat→Option Nat
 | [],_=>none
 | e::r,k=>bif Nat.beq e k then some 0 else(K1 r k).map (·+1)
def WR:List Nat→List Nat→List Nat
 | [],l=>l
 | b::r,l=>bif dD l b then WR r l else WR r (l++[b])
section
variable (cx:Ctx)
def mkS(σ:St):List (Nat×Nat)→Option (List (Nat×Sh))
 | []=>some []
 | (i,ty)::r=>match mkS σ r with
   | none=>none
   | some l=>bif Nat.beq ty 999999 then(match σ.slots i with
     | .whole b v=>some ((i,.k (.whole b v))::l)
     | _=>some l) else match σ.slots i with
     | .data t _=>some ((i,.d t)::l)
     | .undef|.qd=>match find cx.T ty with
       | some t=>some ((i,.d t)::l)
       | none=>none
     | v=>some ((i,.k v)::l)
def D9(σ:St):List Nat→List Nat
 | []=>[]
 | b::r=>(match σ.mem b with|some bx=>(match bx.val with|.mix u v=>xp σ (.mix u v)|.whole c _=>[c]|.fn f c=>xp σ (.fn f c)|_=>[])|none=>[])++D9 σ r
def RX(σ:St):List Nat→List Nat
 | []=>[]
 | i::r =>
   let r0:=xp σ (σ.slots i)
   let r1:=D9 σ r0
   let r2:=D9 σ r1
   WR (r0++(r1++(r2++D9 σ r2))) (RX σ r)
def mkM(σ:St):List Nat→Option (List (Nat×Sh×Box))
 | []=>some []
 | b::r=>match σ.mem b,mkM σ r with
   | some bx,some l=>bif bx.lk then none else some ((b,afT bx.val,bx)::l)
   | _,_=>none
def J2:List Nat→St→Option St
 | [],σ=>some σ
 | m::r,σ=>bif Nat.ble 2000000 m then(match σ.slots (m-2000000) with
  | .whole b v=>match σ.mem b with
    | some bx=>match bx.val with
      | .data (.slice e) _=>match Ap σ (.slice e) (.whole b v) with
        | some (x,σ)=>J2 r (σ.put (m-2000000) (.data (.slice e) x))
        | none=>none
      | _=>none
    | none=>none
  | _=>J2 r σ) else J2 r σ
def ajA(nb:Nat)(bf:List Nat)(σ:St)(b:Nat):Bool:=dD (bf.map (nb+·)) b&&(match σ.mem b with|some x=>!x.buf&&!LU x.val|none=>false)
def L2(nb:Nat)(bf:List Nat)(σ:St)(p:Uk):Option Carry :=
 match mkS cx σ p.S,mkM σ (RX σ p.M) with
 | some s,some m=>some ⟨s,m,ajA nb bf σ⟩
 | _,_=>none
variable (nb:Nat) (bf:List Nat) (inl:Nat→List aS→St→Tree (aS×St))
def GO{α:Type}:List Nat→Nat→(Nat→Tree α)→Tree α
 | [],_,_=>.fail
 | [e],_,f=>f e
 | e::r,i,f=>.node (fT i 0) (f e) (GO r (i-1) f)
variable [Lp]
def again{S:Type}(f:S→Tree (Nat×S)):Nat→S→Tree (Nat×S)
 | 0,_=>.fail
 | n+1,s=>(f s).bind fun r=>bif Nat.beq r.1 0 then again f n r.2 else .ret r
def WS(p:Uk):Option Nat:=match p.M with
 | [m]=>bif Nat.ble 6000000 m then some (m-6000000) else none
 | _=>none
def I0(f:St→Tree (Nat×St))(c:Nat):Nat→Nat→St→Tree (Nat×St)
 | 0,_,_=>.fail
 | n+1,j,σ=>match σ.slots c with
   | .data (.int .i64) x=>.need (bI x j) ((f (σ.put c (.data (.int .i64) (j:Int)))).bind fun r=>bif Nat.beq r.1 0 then I0 f c n (j+1) r.2 else .ret r)
   | _=>.fail
def jB:Code→List (Option Uk)→St→Tree (Nat×St)
 | .skip,_,σ=>.ret (0,σ)
 | .label _,_,σ=>.ret (0,σ)
 | .ret,_,σ=>.ret (1,σ)
 | .exit i,_,σ=>.ret (i+2,σ)
 | .region _ ops dr,_,σ=>(bif dr then Av cx nb bf inl ops σ else Mz cx nb bf inl ops σ).bind fun σ=>.ret (0,σ)
 | .seq a b,pl,σ=>(jB a pl σ).bind fun r=>bif Nat.beq r.1 0 then jB b (pl.drop (marks a)) r.2 else .ret r
 | .block i a,pl,σ=>(jB a pl σ).bind fun r=>.ret (bif Nat.beq r.1 (i+2) then 0 else r.1,r.2)
 | .scope a,pl,σ=>jB a pl σ
 | .cond c a b,pl,σ=>match cL σ c,pl with
   | .data .bool c,none::pl=>.node c (jB a pl σ) (jB b (pl.drop (marks a)) σ)
   | .data .bool c,some p::pl=>match L2 cx nb bf σ p with
     | none=>.fail
     | some k =>
       let t:=Tree.node c (jB a pl (k.lock σ)) (jB b (pl.drop (marks a)) (k.lock σ))
       let wr:=writes a++writes b
       match v7 a++(v7 b).filter (fun e=>!dD (v7 a) e) with
       | []=>(t.bind fun r=>bif Nat.beq r.1 0 then Tree.ac6 (k.MC p.fz σ r.2) else .fail).join fun x=>.ret (0,k.tI p.fz false wr σ x)
       | es=>(t.bind fun r=>match K1 (0::es) r.1,k.MC p.fz σ r.2 with
        | some i,some x=>.ret (i,x)
        | _,_=>.fail).join fun x=>GO (0::es) x.1 fun e=>.ret (e,k.tI p.fz false wr σ x.2)
   | _,_=>.fail
 | .loop a,pl,σ=>match pl with
   | some p::pl=>match WS p with
    | some c=>I0 (fun σ=>jB a pl σ) c 100 0 σ
    | none=>match J2 p.M σ with
    | none=>.fail
    | some σ=>match L2 cx nb bf σ p with
     | none=>.fail
     | some k=>match k.out false σ σ with
       | none=>.fail
       | some x0 =>
         let wr:=writes a
         let es:=v7 a
         let body (x:k.ty.den):Option (k.ty.den⊕(Nat×k.ty.den)):=((jB a pl (k.tI false true wr σ x)).bind fun r=>bif Nat.beq r.1 0 then(match k.out false σ r.2 with
           | some y=>.ret (.inl y)
           | none=>.fail)
          else match K1 es r.1,k.MC p.fz σ r.2 with
           | some i,some y=>.ret (.inr (i,y))
           | _,_=>.fail).run
         match es with
         | [e]=>.look (Loop (fun x=>eP (body x)) x0) fun x=>.ret (e,k.tI p.fz false wr σ x)
         | es=>.look (Loop body x0) fun x=>GO es x.1 fun e=>.ret (e,k.tI p.fz false wr σ x.2)
   | none::pl=>again (fun σ=>jB a pl σ) 100000 σ
   | _=>.fail
 | _,_,_=>.fail
end
variable [Lp]
def v8(mem:Nat→Option Box)(args:List aS):St:={ slots:=fun t=>(args[t]?).getD .undef,mem }
def I3(cx:Ctx)(σ:St):ResultVar→Tree aS
 | .tmp t=>.ret (σ.slots t)
 | .cell a ty=>(mD cx (some 0) ty (σ.slots a) σ).bind fun τ=>.ret (τ.slots 0)
def GP(cx:Ctx)(σ:St):List ResultVar→Tree aS
 | []=>.ret .nl
 | r::rs=>(I3 cx σ r).bind fun v=>(GP cx σ rs).bind fun l=>.ret (.mix v l)
def results1(cx:Ctx)(σ:St):List ResultVar→Tree aS
 | [r]=>I3 cx σ r
 | rs=>(GP cx σ rs).bind fun l=>.ret (.FQ l)
def mE(mem:Nat→Option Box):St:={ slots:=fun _=>.undef,mem }
def joinTy(cx:Ctx):List Nat→Option Ty
 | []=>none
 | m::r=>bif Nat.ble 7000000 m then find cx.T (m-7000000) else joinTy cx r
def adg(v:aS)(mem:Nat→Option Box):St:={ slots:=fun t=>bif Nat.beq t 0 then v else .undef,mem }
def Zn(R:Ty)(args:List aS)(mem:Nat→Option Box)(F:(Nat→Option Box)→Tree (aS×(Nat→Option Box))):Tree (aS×(Nat→Option Box)) :=
 match mkM (mE mem) (RX (v8 mem args) (List.range args.length)) with
 | none=>.fail
 | some m =>
   let k:Carry:=⟨[(0,.d R)],m,fun _=>false⟩
   ((F (k.lock (mE mem)).mem).bind fun r=>Tree.ac6 (k.out false (mE mem) (adg r.1 r.2))).join fun x=>.ret ((k.tI false false [0] (mE mem) x).slots 0,(k.tI false false [0] (mE mem) x).mem)
def MD(cx:Ctx)(nb:Nat)(p:Aw)(inl:Nat→List aS→St→Tree (aS×St))(fn:Func)(c:Code)(args:List aS)(mem:Nat→Option Box):Tree (aS×(Nat→Option Box)) :=
 (jB cx nb p.ahX inl c p.marks (v8 mem args)).bind fun r =>
  bif Nat.beq r.1 0||Nat.beq r.1 1 then(results1 cx r.2 fn.results.toList).bind fun v=>.ret (v,r.2.mem) else .fail
def Cc(cx:Ctx):Nat→(nb:Nat)→(fH:Nat→Aw)→Nat→List aS→(Nat→Option Box)→Tree (aS×(Nat→Option Box))
 | 0,_,_,_,_,_=>.fail
 | n+1,nb,fH,f,args,mem=>match find cx.fns f with
   | some fn=>match fn.body with
     | some c=>match joinTy cx (fH f).ahX with
       | none=>MD cx nb (fH f) (fun g xs σ=>(Cc cx n ((nb+g+1)*1000) fH g xs σ.mem).bind fun r=>.ret (r.1,{ σ with mem:=r.2 })) fn c args mem
       | some R=>Zn R args mem (MD cx nb (fH f) (fun g xs σ=>(Cc cx n ((nb+g+1)*1000) fH g xs σ.mem).bind fun r=>.ret (r.1,{ σ with mem:=r.2 })) fn c args)
     | none=>.fail
   | none=>.fail
def I4:(A:Ty)→A.den→List aS
 | .pair t r,x=>.data t x.1::I4 r x.2
 | _,_=>[]
def GQ:aS→List aS
 | .mix a b=>a::GQ b
 | _=>[]
def GR:(R:Ty)→aS→List aS
 | .pair _ .unit,v=>[v]
 | _,.FQ v=>GQ v
 | _,v=>[v]
def js(k:Nat):Nat:=777000000+k
def EW:List Bool→(A U:Ty)→A.den→Nat→List aS
 | [],_,_,_,_=>[]
 | false::ps,A,U,x,k=>match A,x with
   | .pair t A,x=>.data t x.1::EW ps A U x.2 k
   | _,_=>[]
 | true::ps,A,U,x,k=>match U with
   | .pair _ U=>.ptr (js k) 0 []::EW ps A U x (k+1)
   | _=>[]
def K2:(U:Ty)→U.den→Nat→Nat→Option Box
 | .pair t U,u,k,b=>bif Nat.beq b (js k) then some { val:=.data t u.1,tid:=0,buf:=false,ro:=false,lk:=false,aC:=0 } else K2 U u.2 (k+1) b
 | _,_,_,_=>none
def Ul(mem:Nat→Option Box):(U:Ty)→Nat→Option U.den
 | .pair t U,k=>match mem (js k) with
   | some bx=>bif Nat.beq bx.aC 0&&!bx.buf&&!bx.ro then(match toS t bx.val,Ul mem U (k+1) with
     | some x,some u=>some (x,u)
     | _,_=>none) else none
   | none=>none
 | .unit,_=>some ()
 | _,_=>none
def ahZ(cx:Ctx)(n:Nat)(fH:Nat→Aw)(f:Nat)(ps:List Bool)(A U R:Ty)(x:A.den×U.den):Option (R.den×U.den) :=
 ((Cc cx n 0 fH f (EW ps A U x.1 0) (K2 U x.2 0)).bind fun r=>match lU (mE r.2) R (GR R r.1) with
  | some (y,σ)=>(match Ul σ.mem U 0 with
    | some u=>.ret (y,u)
    | none=>.fail)
  | none=>.fail).run
def sem(cx:Ctx)(n:Nat)(fH:Nat→Aw)(f:Nat)(A R:Ty)(x:A.den):Option R.den :=
 ((Cc cx n 0 fH f (I4 A x) (fun _=>none)).bind fun r=>match jo (mE r.2) R (GR R r.1) with
  | some y=>.ret y
  | none=>.fail).run
end Go.Ge
namespace Go.Ge
structure Gh where
 I:Nat→Nat→Prop
 loc:Nat→Option (Nat×Nat)
def cM(t:Ty)(cs:List Value):Value:=bif t.isAgg then .agg cs.toArray else cs.headD undef
def bN(w:World)(I:Nat→Nat→Prop):(t:Ty)→t.den→List Value→Prop
 | .int k,n,cs=>cs=[.int k n]∧k.min≤(show Int from n)∧(show Int from n)≤k.max
 | .bool,b,cs=>cs=[.bool b]
 | .str,s,cs=>cs=[.string ⟨List.toArray (α:=UInt8) s⟩]∧List.length (α:=UInt8) s≤maxLen
 | .slice e,l,cs=>((∃base,cs=[.slice base 0 0])∧l=([]:List e.den)) ∨
  ∃blk off cap,cs=[.slice (some ⟨blk,off,none⟩) (List.length (α:=e.den) l) cap]∧List.length (α:=e.den) l≤cap∧cap≤maxLen ∧
   ∀(i:Nat) (x:e.den),(show List e.den from l)[i]?=some x→∃es:List Value,es.length=e.size ∧
    (∀(j:Nat) v,es[j]?=some v→w.cell? ⟨blk,off+i*e.size+j,none⟩=some v∧I blk (off+i*e.size+j))∧bN w I e x es
 | .arr n e,l,cs=>List.length (α:=e.den) l=n∧cs.length=n*e.size ∧
  ∀(i:Nat) (x:e.den),(show List e.den from l)[i]?=some x→bN w I e x ((cs.drop (i*e.size)).take e.size)
 | .pair a b,x,cs=>∃c1 c2,cs=c1++c2∧bN w I a x.1 c1∧bN w I b x.2 c2
 | .unit,_,cs=>cs=[]
 | .alt u a r,x,cs=>match(show a.den⊕r.den from x) with
   | .inl y=>r.size=1∧∃c,cs=[.iface u (cM a c)]∧bN w I a y c
   | .inr z=>bN w I r z cs
 | .CG,_,cs=>cs=[.nilIface]
theorem bN.length{w:World}{I:Nat→Nat→Prop}:∀{t:Ty} {x:t.den} {cs:List Value},bN w I t x cs→cs.length=t.size:=by
 intro t;induction t with
 | int k=>intro x cs h;rw[h.1];rfl
 | bool=>intro x cs h;rw[h];rfl
 | str=>intro x cs h;rw[h.1];rfl
 | slice e ih=>intro x cs h;rcases h with ⟨⟨_,h⟩,_⟩|⟨_,_,_,h,_⟩<;>rw[h]<;>rfl
 | arr n e ih=>intro x cs h;exact h.2.1
 | pair a b kM nV=>intro x cs h;obtain⟨c1,c2,rfl,h1,h2⟩:=h;rw[iO,kM h1,nV h2];rfl
 | unit=>intro x cs h;rw[h];rfl
 | alt u a r kM ihr =>
   intro x cs h;rcases x with y|z
   ·obtain⟨h1,c,rfl,_⟩:=h;exact h1.symm
   ·exact ihr (show bN w I r z cs from h)
 | CG=>intro x cs h;rw[show cs=_ from h];rfl
theorem bN.mono{w w':World}{I I':Nat→Nat→Prop}(hI:∀b o,I b o→I' b o)(hw:∀b o,I b o→w'.cell? ⟨b,o,none⟩=w.cell? ⟨b,o,none⟩) :
  ∀{t:Ty} {x:t.den} {cs:List Value},bN w I t x cs→bN w' I' t x cs:=by
 intro t;induction t with
 | int k=>intro x cs h;exact h
 | bool=>intro x cs h;exact h
 | str=>intro x cs h;exact h
 | slice e ih =>
   intro x cs h;rcases h with h|⟨blk,off,cap,h1,h2,h3,h4⟩
   ·exact .inl h
   ·refine .inr ⟨blk,off,cap,h1,h2,h3,fun i y hy=>?_⟩;obtain⟨es,he,hc,hr⟩:=h4 i y hy;exact⟨es,he,fun j v hv=>by obtain⟨a,b⟩:=hc j v hv;exact⟨by rw[hw _ _ b];exact a,hI _ _ b⟩,ih hr⟩
 | arr n e ih=>intro x cs h;exact⟨h.1,h.2.1,fun i y hy=>ih (h.2.2 i y hy)⟩
 | pair a b kM nV=>intro x cs h;obtain⟨c1,c2,h0,h1,h2⟩:=h;exact⟨c1,c2,h0,kM h1,nV h2⟩
 | unit=>intro x cs h;exact h
 | alt u a r kM ihr =>
   intro x cs h;rcases x with y|z
   ·obtain⟨h1,c,h2,h3⟩:=h;exact⟨h1,c,h2,kM h3⟩
   ·exact ihr (show bN w I r z cs from h)
 | CG=>intro x cs h;exact h
theorem bN.one{w:World}{I:Nat→Nat→Prop}:∀{t:Ty} {x:t.den} {cs:List Value},bN w I t x cs→∀v∈cs,v.oneCell'=true:=by
 intro t;induction t with
 | int k=>intro x cs h v hv;rw[h.1] at hv;simp at hv;subst hv;rfl
 | bool=>intro x cs h v hv;rw[h] at hv;simp at hv;subst hv;rfl
 | str=>intro x cs h v hv;rw[h.1] at hv;simp at hv;subst hv;rfl
 | slice e ih=>intro x cs h v hv;rcases h with ⟨⟨_,h⟩,_⟩|⟨_,_,_,h,_⟩<;>rw[h] at hv<;>simp at hv<;>subst hv<;>rfl
 | arr n e ih =>
   intro x cs h v hv;obtain⟨h1,h2,h3⟩:=h;obtain⟨k,hk,hkv⟩:=acH hv;have he:0<e.size:=by
    rcases TX e.size with h0|h0
    ·rw[h0,Nat.mul_zero] at h2;omega
    ·exact h0
   have hdiv:k / e.size<n:=by rw[Y1 he];omega
   have hx:∃y,(show List e.den from x)[k / e.size]?=some y:=⟨_,kL (by rw[h1];exact hdiv)⟩;obtain⟨y,hy⟩:=hx;refine ih (h3 _ y hy) v ?_;have hm:=IU k he;have hkk:k / e.size*e.size+k % e.size=k:=by rw[Ub];exact T9 k e.size
   have:((cs.drop (k / e.size*e.size)).take e.size)[k % e.size]?=some v:=by
    rw[gN,bu hm,nW,hkk,kL hk,hkv]
   exact gm this
 | pair a b kM nV =>
   intro x cs h v hv;obtain⟨c1,c2,rfl,h1,h2⟩:=h;rcases List.mem_append.1 hv with hv|hv
   ·exact kM h1 v hv
   ·exact nV h2 v hv
 | unit=>intro x cs h v hv;rw[h] at hv;cases hv
 | alt u a r kM ihr =>
   intro x cs h v hv;rcases x with y|z
   ·obtain⟨h1,c,rfl,h3⟩:=h;simp at hv;subst hv;rfl
   ·exact ihr (show bN w I r z cs from h) v hv
 | CG=>intro x cs h v hv;rw[show cs=_ from h] at hv;simp at hv;subst hv;rfl
theorem uw{w:World}{I:Nat→Nat→Prop}:∀{t:Ty} {x:t.den} {cs:List Value},bN w I t x cs→(cM t cs).cells.toList=cs:=by
 intro t;induction t with
 | int k=>intro x cs h;unfold cM;rw[h.1];rfl
 | bool=>intro x cs h;unfold cM;rw[h];rfl
 | str=>intro x cs h;unfold cM;rw[h.1];rfl
 | slice e=>intro x cs h;unfold cM;rcases h with ⟨⟨_,h⟩,_⟩|⟨_,_,_,h,_⟩<;>rw[h]<;>rfl
 | arr n e=>intro x cs h;rfl
 | pair a b=>intro x cs h;rfl
 | unit=>intro x cs h;rfl
 | alt u a r kM ihr =>
   intro x cs h;rcases x with y|z
   ·obtain⟨h1,c,rfl,h3⟩:=h;unfold cM Ty.isAgg;cases r.isAgg<;>rfl
   ·exact ihr (show bN w I r z cs from h)
 | CG=>intro x cs h;unfold cM;rw[show cs=_ from h];rfl
inductive Mode where
 | cells|val|many
def xq(base:Option Addr)(cap:Nat):Prop:=cap=0∨∃blk off,base=some ⟨blk,off,none⟩
def cP:List FP→Nat
 | []=>0
 | .gG _ off::p=>off+cP p
 | .idx i size::p=>i.toNat*size+cP p
theorem CQ(p q:List FP):cP (p++q)=cP p+cP q:=by
 induction p with
 | nil=>simp[cP]
 | cons s p ih=>cases s<;>simp[cP,ih]<;>omega
section
variable (γ:Gh) (mem:Nat→Option Box) (w:World)
def GS(bx:Box)(b:Nat)(lo:Int)(base:Option Addr)(cap:Nat):Prop:=lo=0→bx.buf=true→(γ.loc b=none∧base=none∧cap=0)∨∃blk,γ.loc b=some (blk,cap)∧base=some ⟨blk,0,none⟩
def GU(I:Nat→Nat→Prop)(blk off:Nat)(cs:List Value):Prop:=∀(j:Nat) v,cs[j]?=some v→w.cell? ⟨blk,off+j,none⟩=some v∧I blk (off+j)
def n9(b aC:Nat)(K:Box→Prop):Prop:=∃bx,mem b=some bx∧aC≤bx.aC∧(bx.aC=aC→K bx)
def cI:aS→Mode→List Value→Prop
 | .undef,.val,vs=>∃v,vs=[v]
 | .undef,.cells,vs=>∃v,vs=[v]∧v.oneCell'=true
 | .undef,.many,_=>False
 | .data t x,.cells,vs=>bN w γ.I t x vs
 | .data t x,.val,vs=>∃cs,bN w γ.I t x cs∧vs=[cM t cs]
 | .data _ _,.many,_=>False
 | .mix a b,.cells,vs=>∃c1 c2,vs=c1++c2∧cI a .cells c1∧cI b .cells c2
 | .mix a b,.val,vs=>∃c1 c2,vs=[.agg (c1++c2).toArray]∧cI a .cells c1∧cI b .cells c2
 | .mix a b,.many,vs=>∃v r,vs=v::r∧cI a .val [v]∧cI b .many r
 | .nl,.many,vs=>vs=[]
 | .nl,_,_=>False
 | .FQ u,.val,vs=>∃arr:Array Value,vs=[.tuple arr]∧cI u .many arr.toList
 | .FQ _,_,_=>False
 | .tO,.many,_=>False
 | .tO,_,vs=>vs=[.pointer none]
 | .u7,.many,_=>False
 | .u7,_,vs=>vs=[.nilIface]
 | .yC _ _,.many,_=>False
 | .yC b aC,_,vs=>(∃v,vs=[v]∧v.oneCell'=true)∧n9 mem b aC fun _=>∃blk cap,γ.loc b=some (blk,cap)∧(vs=[.pointer none]∨vs=[.pointer (some ⟨blk,0,none⟩)])
 | .qd,.many,_=>False
 | .qd,_,vs=>vs=[.slice none 0 0]
 | .cell _ _,.many,_=>False
 | .cell t x,_,vs=>∃blk off cs,vs=[.pointer (some ⟨blk,off,none⟩)]∧bN w γ.I t x cs∧GU w γ.I blk off cs
 | .ptr _ _ _,.many,_=>False
 | .ptr b aC p,_,vs=>(∃v,vs=[v]∧v.oneCell'=true)∧n9 mem b aC fun _=>∃blk cap,γ.loc b=some (blk,cap)∧vs=[.pointer (some ⟨blk,cP p,none⟩)]
 | .whole _ _,.many,_=>False
 | .whole b aC,_,vs=>(∃v,vs=[v]∧v.oneCell'=true)∧n9 mem b aC fun bx=>∃e n,bx.buf=true∧bx.row=some (e,n) ∧
  ((γ.loc b=none∧vs=[.slice none 0 0])∨∃blk cap,γ.loc b=some (blk,cap)∧vs=[.slice (some ⟨blk,0,none⟩) n cap])
 | .part _ _ _ _,.many,_=>False
 | .part b aC lo n,_,vs=>(∃v,vs=[v]∧v.oneCell'=true)∧n9 mem b aC fun bx=>∃e k,bx.row=some (e,k)∧0≤lo∧0≤n∧lo+n≤k ∧
  ∃base cap,vs=[.slice base n.toNat cap]∧n.toNat≤cap∧cap≤maxLen∧(xq base cap∧GS γ bx b lo base cap)∧(n=0∨∃blk c,γ.loc b=some (blk,c)∧base=some ⟨blk,lo.toNat*e.size,none⟩)
 | .win _ _ _ _ _ _ _,.many,_=>False
 | .win b aC q e k lo n,_,vs=>(∃v,vs=[v]∧v.oneCell'=true)∧n9 mem b aC fun _=>q≠[]∧∃blk c,γ.loc b=some (blk,c)∧0≤lo∧0≤n∧lo+n≤k ∧
  ∃base cap,vs=[.slice base n.toNat cap]∧n.toNat≤cap∧(n=0∨base=some ⟨blk,cP q+lo.toNat*e.size,none⟩)
 | .fn _ _,.many,_=>False
 | .fn f caps,_,vs=>∃arr:Array Value,vs=[.func (.func f) #[] arr]∧arr.size=caps.length ∧
  ∀(i:Nat) b aC,caps[i]?=some (b,aC)→n9 mem b aC fun _=>∃blk cap,γ.loc b=some (blk,cap)∧arr[i]?=some (.pointer (some ⟨blk,0,none⟩))
def nw(cur:Array Value)(fr:Nat×Nat):Prop:=∀off,off<cur.size→¬(fr.1≤off∧off<fr.2)
def Ty.isInt:Ty→Bool
 | .int _=>true
 | _=>false
structure ThB (e:Ty) (cur:Array Value) (fr:Nat×Nat):Prop where
 th:nw cur fr
 um:e.isInt=false→¬(fr.1≤cur.size∧cur.size<fr.2)
def cR(b:Nat)(bx:Box):Prop :=
 match bx.buf with
 | true=>∃(e:Ty) (l:List e.den),bx.val=.data (.slice e) l∧0<e.size ∧
  ((γ.loc b=none∧l=[])∨∃blk cap cur tid fr,γ.loc b=some (blk,cap)∧w.heap[blk]?=some (.cells cur tid fr)∧ThB e cur fr∧(bx.tid=0∨tid=bx.tid)∧l.length≤cap∧cap≤maxLen ∧
   cur.size=cap*e.size∧∀(i:Nat) (x:e.den),l[i]?=some x→bN w γ.I e x ((cur.toList.drop (i*e.size)).take e.size))
 | false=>∃blk cap cur tid fr,γ.loc b=some (blk,cap)∧w.heap[blk]?=some (.cells cur tid fr)∧nw cur fr∧(bx.tid=0∨tid=bx.tid)∧cI γ mem w bx.val .cells cur.toList
end
def WT(bx:Box):Nat→Prop:=fun off=>bx.ro=true∧(bx.buf=true→∀e n,bx.row=some (e,n)→off<n*e.size)
abbrev jN:=Nat→(Obj→Prop)→Prop
def Bh:jN:=fun _ _=>False
def I5(G:jN)(w:World):Prop:=∀b Q,G b Q→∃o,w.heap[b]?=some o∧Q o
structure tJ where
 lo:Nat
 X:Nat→Prop
 G:jN
def tJ.has(B:tJ)(k:Nat):Prop:=B.lo≤k∨B.X k
def nG(G:jN)(n:Nat):tJ:=⟨n,fun _=>False,G⟩
theorem r9{G:jN}{n k:Nat}:(nG G n).has k↔n≤k:=⟨fun h=>h.elim id False.elim,.inl⟩
structure xw (B:tJ) (w w':World):Prop where
 os:w'.os=w.os
 tape:w'.tape=w.tape
 output:w'.output=w.output
 size:w.heap.size≤w'.heap.size
 block:∀k,¬B.has k→w'.heap[k]?=w.heap[k]?
theorem xw.refl(B:tJ)(w:World):xw B w w:=⟨rfl,rfl,rfl,cU _,fun _ _=>rfl⟩
theorem xw.trans{B:tJ}{a b c:World}(h:xw B a b)(k:xw B b c):xw B a c :=
 ⟨k.os.trans h.os,k.tape.trans h.tape,k.output.trans h.output,gY h.size k.size,fun i hi=>(k.block i hi).trans (h.block i hi)⟩
theorem xw.of{B:tJ}{w w':World}(h:RowKit.Below B.lo w w'):xw B w w':=⟨h.os,h.tape,h.output,h.size,fun k hk=>h.block k (T4 fun q=>hk (.inl q))⟩
theorem xw.below{G:jN}{n:Nat}{w w':World}(h:xw (nG G n) w w'):RowKit.Below n w w':=⟨h.os,h.tape,h.output,h.size,fun k hk=>h.block k fun q=>by have:=r9.1 q;omega⟩
theorem xw.drew{B:tJ}{a w:World}(h:xw B a w):xw B a w.drew:=⟨h.os,h.tape,h.output,h.size,h.block⟩
theorem xw.alloc{B:tJ}{a w:World}(h:xw B a w)(hB:B.lo≤w.heap.size)(o:Obj):xw B a (w.alloc o):=h.trans (.of ((RowKit.Below.refl _ _).alloc hB o))
structure bK (B:tJ) (γ:Gh) (mem:Nat→Option Box) (w:World):Prop where
 base:B.lo≤w.heap.size
 boxes:∀b bx,mem b=some bx→cR γ mem w b bx
 inj:∀b c blk k k',mem b≠none→mem c≠none→γ.loc b=some (blk,k)→γ.loc c=some (blk,k')→b=c
 fresh:∀b blk k,mem b≠none→γ.loc b=some (blk,k)→B.has blk∧blk<w.heap.size
 we:∀blk off,γ.I blk off→blk<w.heap.size
 sep:∀b bx blk k off,mem b=some bx→γ.loc b=some (blk,k)→γ.I blk off→WT bx off
 bp:∀b Q,B.G b Q→¬B.has b∧∃o,w.heap[b]?=some o∧Q o
structure dB (B:tJ) (N:Nat) (γ:Gh) (σ:St) (a:Act) (w:World):Prop where
 slots:∀t,cI γ σ.mem w (σ.slots t) .val [a.tmps.getD t undef]
 size:a.tmps.size=N
 defers:a.defers=[]
 ok:bK B γ σ.mem w
structure Ext (B:tJ) (γ:Gh) (mem:Nat→Option Box) (w:World) (γ':Gh) (mem':Nat→Option Box) (w':World):Prop where
 below:xw B w w'
 I:∀b o,γ.I b o→γ'.I b o
 sg:∀b o,γ'.I b o→γ.I b o∨B.has b
 cells:∀b o,γ.I b o→w'.cell? ⟨b,o,none⟩=w.cell? ⟨b,o,none⟩
 boxes:∀b bx,mem b=some bx→∃iJ,mem' b=some iJ∧bx.aC≤iJ.aC∧(iJ.aC=bx.aC→γ'.loc b=γ.loc b∧iJ.buf=bx.buf∧iJ.row=bx.row)
theorem bK.GV{B:tJ}{γ γ':Gh}{mem mem':Nat→Option Box}{w w':World}(h:bK B γ mem w)(x:Ext B γ mem w γ' mem' w'):∀b Q,B.G b Q→¬B.has b∧∃o,w'.heap[b]?=some o∧Q o:=fun b Q g=>by
 obtain⟨i,o,c,q⟩:=h.bp b Q g;exact⟨i,o,(x.below.block b i).trans c,q⟩
theorem bK.RY{B:tJ}{γ:Gh}{mem:Nat→Option Box}{w:World}(h:bK B γ mem w):I5 B.G w:=fun b Q g=>(h.bp b Q g).2
theorem Ext.refl(B:tJ)(γ:Gh)(mem:Nat→Option Box)(w:World):Ext B γ mem w γ mem w :=
 ⟨xw.refl _ _,fun _ _ h=>h,fun _ _ h=>.inl h,fun _ _ _=>rfl,fun b bx h=>⟨bx,h,cU _,fun _=>⟨rfl,rfl,rfl⟩⟩⟩
theorem Ext.trans{B:tJ}{γ γ' afW:Gh}{mem mem' ahu:Nat→Option Box}{w w' w'':World}(h:Ext B γ mem w γ' mem' w')(k:Ext B γ' mem' w' afW ahu w'') :
  Ext B γ mem w afW ahu w'' where
 below:=h.below.trans k.below
 I:=fun b o x=>k.I _ _ (h.I _ _ x)
 sg:=fun b o x=>by
  rcases k.sg b o x with y|y
  ·exact h.sg b o y
  ·exact .inr y
 cells:=fun b o x=>(k.cells _ _ (h.I _ _ x)).trans (h.cells _ _ x)
 boxes:=fun b bx x=>by
  obtain⟨iJ,h1,h2,h3⟩:=h.boxes b bx x;obtain⟨ajB,k1,k2,k3⟩:=k.boxes b iJ h1;refine⟨ajB,k1,gY h2 k2,fun e=>?_⟩;have e1:iJ.aC=bx.aC:=by omega
  have e2:ajB.aC=iJ.aC:=by omega
  obtain⟨a1,a2,a3⟩:=h3 e1;obtain⟨b1,b2,b3⟩:=k3 e2;exact⟨b1.trans a1,b2.trans a2,b3.trans a3⟩
theorem n9.ext{B:tJ}{γ γ':Gh}{mem mem':Nat→Option Box}{w w':World}(h:Ext B γ mem w γ' mem' w'){b aC:Nat}{K K':Box→Prop}(ho:n9 mem b aC K)
  (hk:∀bx iJ,mem b=some bx→mem' b=some iJ→γ'.loc b=γ.loc b→iJ.buf=bx.buf→iJ.row=bx.row→K bx→K' iJ):n9 mem' b aC K':=by
 obtain⟨bx,h1,h2,h3⟩:=ho;obtain⟨iJ,k1,k2,k3⟩:=h.boxes b bx h1;refine⟨iJ,k1,gY h2 k2,fun e=>?_⟩;have e1:bx.aC=aC:=by omega
 obtain⟨a1,a2,a3⟩:=k3 (by omega);exact hk bx iJ h1 k1 a1 a2 a3 (h3 e1)
theorem GU.ext{w w':World}{I I':Nat→Nat→Prop}(hI:∀b o,I b o→I' b o)(hw:∀b o,I b o→w'.cell? ⟨b,o,none⟩=w.cell? ⟨b,o,none⟩){blk off:Nat}{cs:List Value}
  (h:GU w I blk off cs):GU w' I' blk off cs :=
 fun j v hv=>by obtain⟨a,b⟩:=h j v hv;exact⟨by rw[hw _ _ b];exact a,hI _ _ b⟩
theorem cI.ext{B:tJ}{γ γ':Gh}{mem mem':Nat→Option Box}{w w':World}(h:Ext B γ mem w γ' mem' w'):∀{v:aS} {m:Mode} {vs:List Value},cI γ mem w v m vs→cI γ' mem' w' v m vs:=by
 intro v;induction v with
 | undef=>intro m vs r;cases m<;>exact r
 | data t x =>
   intro m vs r;cases m with
   | cells=>exact bN.mono h.I h.cells r
   | val=>obtain⟨cs,r1,r2⟩:=r;exact⟨cs,bN.mono h.I h.cells r1,r2⟩
   | many=>exact r
 | qd=>intro m vs r;cases m<;>exact r
 | tO=>intro m vs r;cases m<;>exact r
 | u7=>intro m vs r;cases m<;>exact r
 | yC b aC =>
   intro m vs r;cases m with
   | many=>exact r
   | cells=>exact⟨r.1,r.2.ext h fun bx iJ _ _ hl _ _ k=>by rw[hl];exact k⟩
   | val=>exact⟨r.1,r.2.ext h fun bx iJ _ _ hl _ _ k=>by rw[hl];exact k⟩
 | cell t x =>
   intro m vs r;cases m with
   | many=>exact r
   | cells=>obtain⟨blk,off,cs,r1,r2,r3⟩:=r;exact⟨blk,off,cs,r1,bN.mono h.I h.cells r2,r3.ext h.I h.cells⟩
   | val=>obtain⟨blk,off,cs,r1,r2,r3⟩:=r;exact⟨blk,off,cs,r1,bN.mono h.I h.cells r2,r3.ext h.I h.cells⟩
 | ptr b aC p =>
   intro m vs r;cases m with
   | many=>exact r
   | cells=>exact⟨r.1,r.2.ext h fun bx iJ _ _ hl _ _ k=>by rw[hl];exact k⟩
   | val=>exact⟨r.1,r.2.ext h fun bx iJ _ _ hl _ _ k=>by rw[hl];exact k⟩
 | whole b aC =>
   intro m vs r;cases m with
   | many=>exact r
   | cells=>exact⟨r.1,r.2.ext h fun bx iJ _ _ hl hb hr k=>by rw[hl,hb,hr];exact k⟩
   | val=>exact⟨r.1,r.2.ext h fun bx iJ _ _ hl hb hr k=>by rw[hl,hb,hr];exact k⟩
 | part b aC lo n =>
   intro m vs r;cases m with
   | many=>exact r
   | cells=>exact⟨r.1,r.2.ext h fun bx iJ _ _ hl hb hr k=>by unfold GS at k⊢;rw[hl,hb,hr];exact k⟩
   | val=>exact⟨r.1,r.2.ext h fun bx iJ _ _ hl hb hr k=>by unfold GS at k⊢;rw[hl,hb,hr];exact k⟩
 | win b aC q e k lo n =>
   intro m vs r;cases m with
   | many=>exact r
   | cells=>exact⟨r.1,r.2.ext h fun bx iJ _ _ hl _ _ k=>by rw[hl];exact k⟩
   | val=>exact⟨r.1,r.2.ext h fun bx iJ _ _ hl _ _ k=>by rw[hl];exact k⟩
 | fn f caps =>
   intro m vs r;cases m with
   | many=>exact r
   | cells=>obtain⟨arr,r1,r2,r3⟩:=r;exact⟨arr,r1,r2,fun i b aC hc=>(r3 i b aC hc).ext h fun bx iJ _ _ hl _ _ k=>by rw[hl];exact k⟩
   | val=>obtain⟨arr,r1,r2,r3⟩:=r;exact⟨arr,r1,r2,fun i b aC hc=>(r3 i b aC hc).ext h fun bx iJ _ _ hl _ _ k=>by rw[hl];exact k⟩
 | mix a b kM nV =>
   intro m vs r;cases m with
   | cells=>obtain⟨c1,c2,r0,r1,r2⟩:=r;exact⟨c1,c2,r0,kM r1,nV r2⟩
   | val=>obtain⟨c1,c2,r0,r1,r2⟩:=r;exact⟨c1,c2,r0,kM r1,nV r2⟩
   | many=>obtain⟨c1,c2,r0,r1,r2⟩:=r;exact⟨c1,c2,r0,kM r1,nV r2⟩
 | FQ u ih =>
   intro m vs r;cases m with
   | val=>obtain⟨arr,r1,r2⟩:=r;exact⟨arr,r1,ih r2⟩
   | cells=>exact r
   | many=>exact r
 | nl=>intro m vs r;cases m<;>exact r
end Go.Ge
