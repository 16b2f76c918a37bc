import Derived.WalkKit
set_option linter.unusedVariables false
set_option linter.unusedSectionVars false
set_option linter.unusedSimpArgs false
set_option linter.defProp false
open Option renaming some->aa,none->af
def ah{p:Prop}(h:p:=by omega):p:=h
def aD{p:Prop}(h:p:=by decide):p:=h
def aT{p:Prop}(h:p:=by simp):p:=h
def cT{p:Prop}(h:p:=by simp;omega):p:=h
def ym{p:Prop}(h:p:=by dsimp only;omega):p:=h
def cj{p:Prop}(h:p:=by intro k;cases k):p:=h
def BS{p:Prop}(h:p:=by intro x k;cases k):p:=h
abbrev bb:=List UInt8
abbrev aj:=Unit
abbrev aI:=@Option.some.inj
abbrev cd:=@decide_eq_false
abbrev aK:=@if_neg
abbrev aQ:=@if_pos
abbrev fH:=@List.getElem?_eq_getElem
abbrev cU:=@decide_eq_true
abbrev gx:=@Nat.eq_of_beq_eq_true
abbrev iC:=@List.length_append
abbrev gw:=@Bool.and_eq_true
abbrev eN:=@Prod.mk.inj
abbrev dk:=@List.length_take
abbrev eG:=@List.mem_of_getElem?
abbrev bV:=@Nat.le_refl
abbrev iy:=@List.getElem?_eq_some_iff
abbrev fb:=@of_decide_eq_true
abbrev gW:=@Nat.mul_le_mul_right
abbrev gm:=@decide_eq_decide
abbrev jM:=@List.getElem?_take
abbrev fh:=@List.mem_cons
abbrev iD:=@List.length_cons
abbrev fi:=@Nat.le_trans
abbrev xe:=@Array.getElem?_eq_some_iff
abbrev vH:=@List.head_eq_of_cons_eq
abbrev ri:=@List.mem_cons_self
abbrev BJ:=@List.takeWhile_append_dropWhile
abbrev iE:=@Nat.add_mul
abbrev rj:=@List.length_drop
abbrev yZ:=@List.length_eq_zero_iff
abbrev p6:=@List.length_nil
abbrev v8:=@List.mem_cons_of_mem
abbrev va:=@List.getElem?_drop
abbrev BK:=@Classical.byContradiction
abbrev vb:=@Int.toNat_natCast
abbrev BT:=@List.drop_eq_getElem_cons
abbrev BL:=@Option.bind_eq_some_iff
abbrev xf:=@of_decide_eq_false
abbrev tK:=@List.append_nil
abbrev xg:=@List.append_assoc
abbrev wa:=@List.all_eq_true
abbrev yn:=@List.take_add_one
abbrev pW:=@Nat.zero_le
abbrev zv:=@Nat.lt_of_lt_of_le
abbrev xh:=@Nat.min_eq_left
abbrev EA:=@Option.map_eq_some_iff
abbrev tL:=@Nat.lt_or_ge
abbrev Ap:=@decide_eq_true_eq
abbrev zw:=@List.take_length
abbrev DP:=@List.mem_append_left
abbrev DQ:=@List.mem_of_mem_take
abbrev y4:=@List.length_map
abbrev tr:=@Int.le_refl
abbrev Fy:=@List.drop_of_length_le
abbrev zx:=@List.mem_filter
abbrev Fz:=@List.take_append_drop
abbrev FA:=@List.getElem?_eq_none
abbrev DR:=@List.mem_singleton
abbrev DT:=@Bool.not_eq_true'
abbrev BU:=@Array.toList_inj
abbrev Aq:=@List.drop_drop
abbrev JK:=@List.take_of_length_le
abbrev Ld:=@Option.isSome_iff_exists
abbrev JL:=@Nat.le_of_ble_eq_true
abbrev JM:=@List.mem_append_right
abbrev FB:=@List.pairwise_cons
abbrev Ow:=@Bool.eq_false_or_eq_true
abbrev WW:=@List.findIdx?_eq_some_iff_getElem
abbrev Rl:=@List.pairwise_iff_getElem
abbrev DU:=@List.drop_zero
abbrev Lf:=@List.filter_eq_self
abbrev xj:=@cond_true
abbrev BV:=@Nat.zero_add
abbrev JN:=@List.getElem?_map
abbrev EB:=@Nat.add_assoc
abbrev Ox:=@List.getElem?_range
abbrev Rm:=@Classical.choose_spec
abbrev WX:=@Array.getD_eq_getD_getElem?
abbrev Rn:=@List.length_singleton
abbrev Lg:=@List.ext_getElem?
abbrev Lh:=@Option.some.injEq
abbrev Li:=@List.size_toArray
abbrev BM:=@cond_false
abbrev Ro:=@List.getElem?_append
abbrev Rp:=@Bool.or_eq_false_iff
abbrev aaA:=@List.find?_eq_some_iff_getElem
abbrev Lj:=@List.cons_append
abbrev aaB:=@List.drop_append_of_le_length
abbrev BW:=@Nat.mod_lt
abbrev Lk:=@List.nil_append
abbrev Ll:=@Bool.or_eq_true
abbrev Lm:=@List.drop_left
abbrev Ln:=@List.mem_range
abbrev Rq:=@List.length_range
abbrev Oy:=@List.mem_append
abbrev acV:=@List.take_append_of_le_length
abbrev JO:=@Nat.succ_mul
abbrev Rr:=@List.mem_flatMap
abbrev TI:=@List.find?_eq_none
abbrev Oz:=@List.take_take
abbrev Rs:=@Bool.eq_iff_iff
abbrev TJ:=@List.any_eq_true
abbrev IW:=@List.drop_length
abbrev PQ:=@List.mem_iff_getElem?
abbrev TK:=@List.getElem?_append_left
abbrev TL:=@List.mem_of_find?_eq_some
abbrev D5:=@Nat.le_of_eq
abbrev PR:=@List.mem_of_mem_drop
abbrev Lo:=@Nat.lt_trichotomy
abbrev TM:=@Int.eq_ofNat_of_zero_le
abbrev PT:=@List.length_reverse
abbrev TN:=@Array.getElem?_eq_none
abbrev FC:=@Nat.add_zero
abbrev TO:=@Array.getElem?_modify
abbrev TP:=@List.length_filter_le
abbrev TQ:=@List.dropLast_eq_take
abbrev Y2:=@List.findIdx?_eq_none_iff
abbrev FD:=@Nat.mul_one
abbrev yq:=@if_true
abbrev TR:=@Array.length_toList
abbrev TS:=@List.dropWhile_cons
abbrev TT:=@List.length_pos_iff
abbrev PU:=@Option.map_some
abbrev TU:=@decide_eq_true_iff
abbrev Y3:=@List.length_eq_one_iff
abbrev TV:=@Nat.le_succ_of_le
abbrev Y4:=@Nat.div_lt_iff_lt_mul
abbrev Lq:=@List.mem_map
abbrev Y5:=@List.eq_nil_or_concat
abbrev acW:=@List.take_length_add_append
abbrev TW:=@Nat.lt_succ_self
abbrev acX:=@List.getElem?_append_right
abbrev Y6:=@Array.toList_append
abbrev Y7:=@List.map_congr_left
abbrev Y8:=@List.takeWhile_cons
abbrev Y9:=@List.take_succ_cons
abbrev TX:=@Nat.div_add_mod
abbrev TY:=@UInt8.toNat_inj
abbrev Za:=@Nat.eq_zero_or_pos
abbrev TZ:=@List.take_left
abbrev acY:=@List.getElem?_set_self
abbrev T0:=@Bool.or_assoc
abbrev T1:=@List.map_cons
abbrev Zb:=@Nat.lt_of_not_le
abbrev Zc:=@Option.bind_some
abbrev Zd:=@List.not_mem_nil
abbrev ahN:=@List.length_filter_eq_length_iff
abbrev acZ:=@List.length_replicate
abbrev ac0:=@Array.getElem?_toList
abbrev ac1:=@Array.mem_of_getElem?
abbrev ac2:=@BitVec.eq_of_toNat_eq
abbrev ac3:=@List.concat_eq_append
abbrev ahO:=@List.mk_mem_zipIdx_iff_getElem?
abbrev T2:=@Nat.mul_comm
abbrev T3:=@Nat.add_comm
abbrev ac4:=@Bool.and_eq_true_iff
abbrev Ze:=@List.find?_some
abbrev ac5:=@List.getElem_of_mem
abbrev ac6:=@Int.toNat_of_nonneg
abbrev Zf:=@List.drop_take
abbrev ahP:=@Array.getElem?_setIfInBounds
abbrev IX:=@Ne.symm
abbrev Zg:=@List.mapM_cons
abbrev ahQ:=@List.dropLast_concat_getLast
abbrev T4:=@Sum.inl.inj
abbrev T5:=@Nat.sub_mul
abbrev ac7:=@BitVec.toNat_ofInt
abbrev ac8:=@List.filter_append
abbrev ahR:=@Int.fdiv_eq_ediv_of_nonneg
abbrev ahS:=@Array.getElem?_append_left
abbrev ahT:=@List.getD_eq_getElem?_getD
abbrev ac9:=@List.flatMap_cons
abbrev ada:=@List.getElem_take
abbrev ahU:=@List.getElem?_zip_eq_some
abbrev ahV:=@List.getElem?_eq_none_iff
abbrev adb:=@Array.toList_map
abbrev ahW:=@Array.setIfInBounds_comm
abbrev ade:=@List.filter_cons
abbrev ahX:=@List.getElem?_replicate
abbrev ahY:=@List.getElem?_cons_zero
abbrev ahZ:=@List.getElem?_cons_succ
abbrev ah0:=@List.filter_cons_of_pos
abbrev adf:=@List.cons.injEq
abbrev adg:=@List.length_set
abbrev adh:=@List.foldl_cons
abbrev adi:=@List.nodup_cons
abbrev Zh:=@decide_true
abbrev adj:=@List.take_zero
abbrev adk:=@Nat.mul_le_mul
abbrev ah1:=@List.getElem?_toArray
abbrev adl:=@Bool.and_false
abbrev T6:=@and_true
abbrev T7:=@and_self
abbrev T8:=@Eq.trans
abbrev adm:=@List.cons.inj
abbrev adn:=@Bool.false_or
abbrev ado:=@List.all_cons
abbrev adp:=@Bool.and_true
abbrev adq:=@Nat.beq_refl
abbrev adr:=@Nat.zero_mul
abbrev ads:=@Nat.min_self
abbrev adt:=@Int.sub_zero
noncomputable section
namespace Go.Ge
inductive Ty where
 | int (k:IntKind)|bool|str|slice (e:Ty)|arr (n:Nat) (e:Ty)|pair (a b:Ty)|unit
 | alt (u:Nat) (a r:Ty)|BX
def Ty.den:Ty->Type
 | .int _=>Int
 | .bool=>Bool
 | .str=>bb
 | .slice e=>List e.den
 | .arr _ e=>List e.den
 | .pair a b=>a.den×b.den
 | .unit=>aj
 | .alt _ a r=>a.den⊕r.den
 | .BX=>aj
def Bl:IntKind->Nat
 | .i8=>0|.i16=>1|.i32=>2|.i64=>3|.u8=>4|.u16=>5|.u32=>6|.u64=>7
def zy{a b:IntKind}(h:Nat.beq (Bl a) (Bl b)=true):a=b:=by
 cases a<;>cases b<;>first|rfl|(exact absurd h aD)
def Ty.beq:Ty->Ty->Bool
 | .int k,.int g=>Nat.beq (Bl k) (Bl g)
 | .bool,.bool=>true
 | .str,.str=>true
 | .slice e,.slice f=>Ty.beq e f
 | .arr n e,.arr m f=>Nat.beq n m&&Ty.beq e f
 | .pair a b,.pair c d=>Ty.beq a c&&Ty.beq b d
 | .unit,.unit=>true
 | .alt u a r,.alt v b s=>Nat.beq u v&&(Ty.beq a b&&Ty.beq r s)
 | .BX,.BX=>true
 | _,_=>false
def Ty.eq_of_beq:∀{a b:Ty},Ty.beq a b=true->a=b:=by
 intro a;induction a with
 | int k=>intro b h;cases b<;>first|(exact congrArg _<|zy h)|(cases h)
 | bool=>intro b h;cases b<;>first|rfl|(cases h)
 | str=>intro b h;cases b<;>first|rfl|(cases h)
 | slice e f=>intro b h;cases b<;>first|(exact congrArg _<|f h)|(cases h)
 | arr n e f =>
   intro b h;cases b<;>first|(cases h;done)|skip
   simp only[Ty.beq,gw] at h;rw[gx h.1,f h.2]
 | pair a b d g =>
   intro c h;cases c<;>first|(cases h;done)|skip
   simp only[Ty.beq,gw] at h;rw[d h.1,g h.2]
 | unit=>intro b h;cases b<;>first|rfl|(cases h)
 | alt u a r d i =>
   intro c h;cases c<;>first|(cases h;done)|skip
   simp only[Ty.beq,gw] at h;rw[gx h.1,d h.2.1,i h.2.2]
 | BX=>intro b h;cases b<;>first|rfl|(cases h)
def Ty.to(t u:Ty)(x:t.den):Option u.den :=
 if h:Ty.beq t u=true then aa ((Ty.eq_of_beq h)▸x) else af
def Ty.beq_refl(t:Ty):Ty.beq t t=true:=by
 induction t with
 | int k=>cases k<;>rfl
 | bool=>rfl
 | str=>rfl
 | slice e d=>exact d
 | arr n e d=>simp[Ty.beq,d]
 | pair a b c f=>simp[Ty.beq,c,f]
 | unit=>rfl
 | alt u a r c g=>simp[Ty.beq,c,g]
 | BX=>rfl
def Ty.lQ{t u:Ty}{x:t.den}{y:u.den}(h:Ty.to t u x=aa y):∃e:t=u,y=e▸x:=by
 unfold Ty.to at h;split at h
 .rename_i a;exact⟨Ty.eq_of_beq a,by simpa using h.symm⟩
 .cases h
def toL(t u:Ty)(l:List t.den):Option (List u.den) :=
 if h:Ty.beq t u=true then aa ((Ty.eq_of_beq h)▸l) else af
def mv{t u:Ty}{l:List t.den}{m:List u.den}(h:toL t u l=aa m):∃e:t=u,m=e▸l:=by
 unfold toL at h;split at h
 .rename_i a;exact⟨Ty.eq_of_beq a,by simpa using h.symm⟩
 .cases h
def Ty.size:Ty->Nat
 | .int _|.bool|.str|.slice _=>1
 | .arr n e=>n*e.size
 | .pair a b=>a.size+b.size
 | .unit=>0
 | .alt _ _ r=>r.size
 | .BX=>1
def Ty.isAgg:Ty->Bool
 | .arr ..|.pair ..|.unit=>true
 | .alt _ _ r=>r.isAgg
 | _=>false
def Ty.zero:(t:Ty)->t.den
 | .int _=>(0:Int)
 | .bool=>false
 | .str=>([]:bb)
 | .slice _=>[]
 | .arr n e=>List.replicate n e.zero
 | .pair a b=>(a.zero,b.zero)
 | .unit=>()
 | .alt _ _ r=>.inr r.zero
 | .BX=>()
def ak{α:Type}(c:Bool)(x y:α):α:=bif c then x else y
def ae{a b:Type}(o:Option a)(f:a->Option b):Option b:=o.bind f
def nt(b:Bool):Bool:=!b
def an(a b:Bool):Bool:=a&&b
def oor(a b:Bool):Bool:=a||b
def aG(a b:Int):Bool:=decide (a=b)
def cl(a b:Nat):Bool:=Nat.beq a b
def aL(a b:Int):Bool:=decide (a<b)
def ch(a b:Int):Bool:=decide (a<=b)
def bt(a b:bb):Bool:=decide (a=b)
def fM(a b:bb):Bool:=Op.bytesLess a b
def eqL(a b:List Int):Bool:=decide (a=b)
def eqB(a b:Bool):Bool:=a==b
def cq{S:Type}(o:Option (S⊕(Nat×S))):Option (S⊕S):=o.map λr=>match r with|.inl x=>.inl x|.inr y=>.inr y.2
def aw(k:IntKind)(a b:Int):Int:=k.wrap (a+b)
def cA(k:IntKind)(a b:Int):Int:=k.wrap (a-b)
def ky(k:IntKind)(a b:Int):Int:=k.wrap (a*b)
def Ho(k:IntKind)(a b:Int):Int:=k.wrap (a.tdiv b)
def gd(a b:Int):Int:=a.tmod b
def kz(k:IntKind)(a:Int):Int:=k.wrap a
def gM(k:IntKind)(x y:Int):Int:=k.wrap (BitVec.ofInt k.bits x &&& BitVec.ofInt k.bits y).toNat
def Ao(k:IntKind)(x y:Int):Int:=k.wrap (BitVec.ofInt k.bits x ||| BitVec.ofInt k.bits y).toNat
def gy(k:IntKind)(x y:Int):Int:=k.wrap (BitVec.ofInt k.bits x ^^^ BitVec.ofInt k.bits y).toNat
def aj0(k:IntKind)(x y:Int):Int:=k.wrap (BitVec.ofInt k.bits x &&& ~~~BitVec.ofInt k.bits y).toNat
def air(a b:Int):Int:=bif decide (b<a) then b else a
def imax(a b:Int):Int:=bif decide (a<b) then b else a
def nY(k:IntKind)(a b:Int):Int:=k.wrap (a*2 ^ (min b.toNat k.bits))
def jt(k:IntKind)(a b:Int):Int:=a.fdiv (2 ^ (min b.toNat k.bits))
def plus(a b:Int):Int:=a+b
def minus(a b:Int):Int:=a-b
def len{α:Type}(l:List α):Int:=l.length
def dR{p:Prop}(h:p:=by unfold len;omega):p:=h
def app{α:Type}(l m:List α):List α:=l++m
def one{a:Type}(x:a):List a:=[x]
def idx{α:Type}(l:List α)(i:Int):Option α:=if 0<=i then l[i.toNat]? else af
def kh{α:Type}(l:List α)(i:Int)(x:α):List α:=l.set i.toNat x
def lJ{a:Type}(n:Int)(x:a):List a:=List.replicate n.toNat x
def sub{α:Type}(l:List α)(a n:Int):List α:=(l.drop a.toNat).take n.toNat
def mw{α:Type}(l:List α)(n:Int):List α:=l.take n.toNat
def over{α:Type}(l:List α)(a:Int)(c:List α):List α:=l.take a.toNat++c++l.drop (a.toNat+c.length)
def pick{d e c:Type}(f:d->c)(g:e->c)(x:d⊕e):c:=match x with|.inl a=>f a|.inr b=>g b
def u8(b:UInt8):Int:=(b.toNat:Int)
def ax(s:bb):List Int:=s.map λb=>(b.toNat:Int)
def bq(l:List Int):bb:=l.map λn=>UInt8.ofNat n.toNat
def fits(n:Int):Bool:=decide (n<=4294967296)
def inside(a b n:Int):Bool:=decide (0<=a)&&decide (a<=b)&&decide (b<=n)
def within(i n:Int):Bool:=decide (0<=i)&&decide (i<n)
inductive Tree (α:Type):Type 1 where
 | ret (a:α)
 | fail
 | node (c:Bool) (t e:Tree α)
 | look {T:Type} (o:Option T) (k:T->Tree α)
namespace Tree
def bind{α b:Type}:Tree α->(α->Tree b)->Tree b
 | .ret a,f=>f a
 | .fail,_=>.fail
 | .node c t e,f=>.node c (t.bind f) (e.bind f)
 | .look o k,f=>.look o λx=>(k x).bind f
def run{α:Type}:Tree α->Option α
 | .ret a=>aa a
 | .fail=>af
 | .node c t e=>ak c t.run e.run
 | .look o k=>ae o λx=>(k x).run
def join{T a:Type}(t:Tree T)(k:T->Tree a):Tree a :=
 match t with
 | .ret x=>k x
 | .node c (.ret x) (.ret y)=>k (ak c x y)
 | t=>.look t.run k
def ju{α:Type}(c:Bool)(t:Tree α):Tree α:=.node c t .fail
def adu{b:Type}:Option b->Tree b
 | some a=>.ret a
 | none=>.fail
end Tree
inductive Sel where
 | gz (k off:Nat)
 | idx (i:Int) (size:Nat)
inductive cp where
 | undef
 | data (t:Ty) (x:t.den)
 | p7
 | vd
 | ve
 | yr (b aP:Nat)
 | cell (t:Ty) (x:t.den)
 | ptr (b aP:Nat) (p:List Sel)
 | whole (b aP:Nat)
 | part (b aP:Nat) (lo n:Int)
 | win (b aP:Nat) (q:List Sel) (e:Ty) (k:Nat) (lo n:Int)
 | fn (f:Nat) (aaD:List (Nat×Nat))
 | mix (a b:cp)
 | BR (vs:cp)
 | nl
structure Box where
 val:cp
 tid:TypeId
 buf:Bool
 ro:Bool
 lk:Bool
 aP:Nat
structure St where
 bh:Nat->cp
 mem:Nat->Option Box
structure Rt where
 A:Ty
 R:Ty
 spec:A.den->Option R.den
structure T9 where
 ps:List Bool
 A:Ty
 U:Ty
 R:Ty
 spec:A.den×U.den->Option (R.den×U.den)
structure Hp where
 T:Nat
 t:Ty
 F:Nat
 A:Ty
 U:Ty
 R:Ty
 spec:(t.den×A.den)×U.den->Option (R.den×U.den)
inductive DV where
 | dat (t:Ty)
 | buf (e:Ty) (eid:Nat)
 | one
 | self
 | fnc
inductive Spc where
 | chk (T:Nat)
 | str (T E:Nat)
 | clone (e:Ty)
 | own (e A:Ty) (res:Bool) (spec:List e.den->A.den->Option (List e.den))
structure Ctx where
 T:List (Nat×Ty)
 vf:List Nat
 DW:List Nat
 fns:List (Nat×Func)
 Ua:List (Nat×Rt)
 OA:List (Nat×T9)
 wb:List (Nat×List DV)
 PV:List (Nat×Spc)
 els:List (Nat×Nat)
 inv:List (String×Rt)
 Ru:List (Nat×Hp)
def PW{b:Type}:List (String×b)->String->Option b
 | [],_=>af
 | (i,a)::r,k=>bif decide (i=k) then aa a else PW r k
def find{α:Type}:List (Nat×α)->Nat->Option α
 | [],_=>af
 | (i,a)::r,k=>bif Nat.beq i k then aa a else find r k
def St.put(a:St)(d:Nat)(v:cp):St:={ a with bh:=λt=>bif Nat.beq t d then v else a.bh t }
def St.bu(a:St)(d:Option Nat)(v:cp):St:=match d with|some d=>a.put d v|none=>a
def St.cw(a:St)(b:Nat)(x:Box):St:={ a with mem:=λi=>bif Nat.beq i b then aa x else a.mem i }
def St.bA{c:Type}(a:St)(b:Nat)(val:cp)(tid:TypeId)(buf:Bool)(k:Nat->St->Tree c):Tree c :=
 match a.mem b with
 | some bx=>bif bx.lk then .fail else k (bx.aP+1) (a.cw b { val,tid,buf,ro:=false,lk:=false,aP:=bx.aP+1 })
 | none=>k 0 (a.cw b { val,tid,buf,ro:=false,lk:=false,aP:=0 })
def dc:List Nat->Nat->Bool
 | [],_=>false
 | i::r,t=>Nat.beq t i||dc r t
def Lr:Value->cp
 | .int k n=>bif decide (k.min<=n)&&decide (n<=k.max) then .data (.int k) n else .undef
 | .bool b=>.data .bool b
 | .string s=>bif Nat.ble s.data.toList.length 4294967296 then .data .str s.data.toList else .undef
 | .pointer af=>.vd
 | .nilIface=>.ve
 | .slice af 0 0=>.p7
 | _=>.undef
def cW(a:St):Operand->cp
 | .tmp t=>a.bh t
 | .const v=>Lr v
 | .func f=>.fn f []
 | .global _=>.undef
def iF:Ty->Nat->Option Nat
 | .pair _ _,0=>aa 0
 | .pair a b,k+1=>(iF b k).map (a.size+·)
 | _,_=>af
def dQ:cp->Nat
 | .data t _=>t.size
 | .mix a b=>dQ a+dQ b
 | .nl=>0
 | _=>1
def y5:(t:Ty)->t.den->Nat->Option (Nat×cp)
 | .pair a _,x,0=>aa (0,.data a x.1)
 | .pair a b,x,k+1=>match y5 b x.2 k with|some r=>aa (a.size+r.1,r.2)|none=>af
 | _,_,_=>af
def vS:cp->Nat->Option (Nat×cp)
 | .data t x,k=>y5 t x k
 | .mix a _,0=>aa (0,a)
 | .mix a b,k+1=>match vS b k with|some r=>aa (dQ a+r.1,r.2)|none=>af
 | _,_=>af
def toD(t:Ty):cp->Option t.den
 | .data u x=>Ty.to u t x
 | .p7=>match t with|.slice _=>aa []|_=>af
 | _=>af
def toS(t:Ty):cp->Option t.den
 | .data u x=>Ty.to u t x
 | _=>af
def Rv:(t:Ty)->t.den->Nat->(cp->Tree cp)->Tree t.den
 | .pair a b,x,0,f=>(f<|.data a x.1).bind λv=>match toS a v with
   | some y=>.ret (y,x.2)
   | none=>.fail
 | .pair a b,x,k+1,f=>(Rv b x.2 k f).bind λy=>.ret (x.1,y)
 | _,_,_,_=>.fail
def EC:cp->Nat->(cp->Tree cp)->Tree cp
 | .data t x,k,f=>(Rv t x k f).bind λy=>.ret (.data t y)
 | .mix a b,0,f=>(f a).bind λv=>.ret (.mix v b)
 | .mix a b,k+1,f=>(EC b k f).bind λv=>.ret (.mix a v)
 | _,_,_=>.fail
def nav:List Sel->cp->Tree cp
 | [],v=>.ret v
 | .gz k off::p,v=>match vS v k with
   | some (o,u)=>bif Nat.beq o off then nav p u else .fail
   | none=>.fail
 | .idx i size::p,v=>match v with
   | .data (.arr _ e) l=>bif Nat.beq size e.size then .look (idx (α:=e.den) l i) λx=>nav p (.data e x) else .fail
   | _=>.fail
def agn(a:Bool)(p:List Sel)(v:cp):Tree cp :=
 match a with
 | false=>nav p v
 | true=>match p,v with
   | .idx i size::p,.data (.slice e) l=>bif Nat.beq size e.size then .look (idx (α:=e.den) l i) λx=>nav p (.data e x) else .fail
   | _,_=>.fail
def Ar:List Sel->cp->cp->Tree cp
 | [],_,u=>.ret u
 | .gz k off::p,v,u=>EC v k λw=>Ar p w u
 | .idx i size::p,v,u=>match v with
   | .data (.arr n e) l=>.look (idx (α:=e.den) l i) λx=>(Ar p (.data e x) u).bind λw=>match toS e w with
     | some y=>.ret (.data (.arr n e)<|kh (α:=e.den) l i y)
     | none=>.fail
   | _=>.fail
def Rw(a:Bool)(p:List Sel)(v u:cp):Tree cp :=
 match a with
 | false=>Ar p v u
 | true=>match p,v with
   | .idx i size::p,.data (.slice e) l=>.look (idx (α:=e.den) l i) λx=>(Ar p (.data e x) u).bind λw=>match toS e w with
     | some y=>.ret (.data (.slice e)<|kh (α:=e.den) l i y)
     | none=>.fail
   | _,_=>.fail
namespace Tree
def run_bind{α g:Type}(t:Tree α)(f:α->Tree g):(t.bind f).run=t.run.bind λa=>(f a).run:=by
 induction t with
 | ret a=>rfl
 | fail=>rfl
 | node c t e b d=>cases c<;>simp[bind,run,b,d,ak]
 | look o k h=>cases o<;>simp[bind,run,h,ae]
def xk{T b:Type}(t:Tree T)(k:T->Tree b):(t.join k).run=t.run.bind λa=>(k a).run:=by
 unfold join;split
 .rfl
 .rename_i c x y;cases c<;>rfl
 .rfl
end Tree
def xn:Ty->Nat->Option Ty
 | .pair a _,0=>aa a
 | .pair _ b,k+1=>xn b k
 | _,_=>af
def Ty.flat:Ty->Bool
 | .slice _=>false
 | .arr _ e=>e.flat
 | .pair a b=>a.flat&&b.flat
 | .alt _ a r=>a.flat&&r.flat
 | _=>true
def Box.row(bx:Box):Option (Ty×Nat) :=
 match bx.buf,bx.val with
 | true,.data (.slice e) l=>aa (e,List.length (α:=e.den) l)
 | false,.data (.arr n e) _=>aa (e,n)
 | _,_=>af
def jv(e:Ty)(c:St):cp->Option (List e.den)
 | .data (.slice u) l=>toL u e l
 | .p7=>aa []
 | .whole b aP=>match c.mem b with
   | some a=>bif Nat.beq a.aP aP&&a.buf then(match a.val with|.data (.slice u) l=>toL u e l|_=>af) else af
   | none=>af
 | .part b aP lo n=>match c.mem b with
   | some a=>bif Nat.beq a.aP aP then(match a.buf,a.val with
     | true,.data (.slice u) l=>toL u e (sub (α:=u.den) l lo n)
     | false,.data (.arr _ u) l=>toL u e (sub (α:=u.den) l lo n)
     | _,_=>af) else af
   | none=>af
 | _=>af
def live(c:St)(b a:Nat):Bool:=match c.mem b with|some d=>Nat.beq d.aP a|none=>false
def tu(c:St):(t:Ty)->cp->Option t.den
 | .slice e,v=>(jv e c v:Option (List e.den))
 | .pair a b,v=>match v with
   | .data u x=>Ty.to u (.pair a b) x
   | .mix p q=>(match tu c a p,tu c b q with
     | some x,aa y=>aa (x,y)
     | _,_=>af)
   | _=>af
 | .alt n a r,v=>match v with
   | .data u x=>Ty.to u (.alt n a r) x
   | .ve=>match tu c r .ve with
     | some x=>aa (.inr x)
     | none=>af
   | _=>af
 | .BX,v=>match v with
   | .data u x=>Ty.to u .BX x
   | .ve=>aa ()
   | _=>af
 | t,v=>match v with
   | .data u x=>Ty.to u t x
   | _=>af
def freeze(a:St)(b:Nat):Option St :=
 match a.mem b with
 | some c=>bif c.ro then aa a else bif c.lk then af else aa (a.cw b { c with ro:=true })
 | none=>af
def ji(a:St):cp->Option St
 | .whole b _=>freeze a b
 | .part b _ _ _=>freeze a b
 | .mix v w=>match ji a v with
   | some a=>ji a w
   | none=>af
 | _=>aa a
def BZ(a:St)(t:Ty)(v:cp):Option (t.den×St) :=
 match v with
 | .data u x=>match Ty.to u t x with|some y=>aa (y,a)|none=>af
 | v=>match tu a t v,ji a v with
   | some x,aa a=>aa (x,a)
   | _,_=>af
def jj(σ:St):(A:Ty)->List cp->Option A.den
 | .unit,[]=>aa ()
 | .pair t r,v::vs=>match tu σ t v,jj σ r vs with
   | some x,aa y=>aa (x,y)
   | _,_=>af
 | _,_=>af
def gB(a:St):(A:Ty)->List cp->Option (A.den×St)
 | .unit,[]=>aa ((),a)
 | .pair t r,v::vs=>match BZ a t v with
   | some (x,a)=>match gB a r vs with
     | some (y,a)=>aa ((x,y),a)
     | none=>af
   | none=>af
 | _,_=>af
def B0:(R:Ty)->R.den->cp
 | .pair t r,x=>.mix (.data t x.1) (B0 r x.2)
 | _,_=>.nl
def r9(R:Ty)(x:R.den):cp :=
 match R,x with
 | .pair t .unit,x=>.data t x.1
 | R,x=>.BR (B0 R x)
def nth:cp->Nat->Option cp
 | .mix a _,0=>aa a
 | .mix _ b,k+1=>nth b k
 | _,_=>af
def bitsOf(a:BinOp)(k:IntKind)(x y:Int):Option Int :=
 match a with
 | .and=>aa (gM k x y)
 | .or=>aa (Ao k x y)
 | .xor=>aa (gy k x y)
 | .andNot=>aa (aj0 k x y)
 | _=>af
def Ty.eqv:(t:Ty)->t.den->t.den->Option Bool
 | .int _,x,y=>aa (aG x y)
 | .bool,x,y=>aa (eqB x y)
 | .str,x,y=>aa (bt x y)
 | .pair a b,x,y=>match Ty.eqv a x.1 y.1,Ty.eqv b x.2 y.2 with
   | some p,aa q=>aa (an p q)
   | _,_=>af
 | .unit,_,_=>aa true
 | .arr _ e,x,y=>match e,x,y with
   | .int _,x,y=>aa (eqL x y)
   | _,_,_=>af
 | _,_,_=>af
def Ty.JP:Ty->Nat
 | .pair a b=>a.JP+b.JP+1
 | .arr _ e=>e.JP+1
 | _=>1
def WY(d:BinOp)(k:IntKind)(a b:Int):Tree cp :=
 match d with
 | .add=>.ret (.data (.int k)<|aw k a b)
 | .sub=>.ret (.data (.int k)<|cA k a b)
 | .mul=>.ret (.data (.int k)<|ky k a b)
 | .quo=>.node (aG b 0) .fail (.ret<|.data (.int k)<|Ho k a b)
 | .rem=>.node (aG b 0) .fail (.ret<|.data (.int k)<|gd a b)
 | .eql=>.ret (.data .bool<|aG a b)
 | .neq=>.ret (.data .bool<|nt<|aG a b)
 | .lss=>.ret (.data .bool<|aL a b)
 | .leq=>.ret (.data .bool<|ch a b)
 | .gtr=>.ret (.data .bool<|aL b a)
 | .geq=>.ret (.data .bool<|ch b a)
 | d=>match bitsOf d k a b with
   | some c=>.ret (.data (.int k) c)
   | none=>.fail
def WZ(a:BinOp)(x y:bb):Tree cp :=
 match a with
 | .add=>.ju (fits<|plus (len x)<|len y) (.ret<|.data .str<|app x y)
 | .eql=>.ret (.data .bool<|bt x y)
 | .neq=>.ret (.data .bool<|nt<|bt x y)
 | .lss=>.ret (.data .bool<|fM x y)
 | .leq=>.ret (.data .bool<|oor (fM x y)<|bt x y)
 | .gtr=>.ret (.data .bool<|nt<|oor (fM x y)<|bt x y)
 | .geq=>.ret (.data .bool<|nt<|fM x y)
 | _=>.fail
def isEq:BinOp->Option Bool
 | .eql=>aa true
 | .neq=>aa false
 | _=>af
def FE:BinOp->Option Bool
 | .shl=>aa true
 | .shr=>aa false
 | _=>af
def Hq(o:Option Ty)(t:Ty):Bool:=match o with|some u=>Ty.beq u t|none=>false
def bin(f:Option Ty)(g:Bool)(d:BinOp)(x y:cp):Tree cp :=
 match x,y with
 | .data (.int k) a,.data (.int h) b =>
   match FE d with
   | some left=>.node (aL b 0) .fail (.ret<|.data (.int k)<|bif left then nY k a b else jt k a b)
   | none=>bif Nat.beq (Bl k) (Bl h) then WY d k a b else .fail
 | .data .str a,.data .str b=>WZ d a b
 | .data .bool a,.data .bool b=>bif Hq f .bool then(match isEq d with
   | some true=>.ret (.data .bool<|eqB a b)
   | some false=>.ret (.data .bool<|nt<|eqB a b)
   | none=>.fail) else .fail
 | .data (.pair a b) x,.data t y=>bif Hq f (.pair a b)&&Nat.ble (Ty.pair a b).JP 9000 then(match Ty.to t (.pair a b) y,isEq d with
   | some y,aa e=>match Ty.eqv (.pair a b) x y with
     | some c=>.ret (.data .bool<|bif e then c else nt c)
     | none=>.fail
   | _,_=>.fail) else .fail
 | .data (.arr n e) x,.data t y=>bif Hq f (.arr n e)&&Nat.ble (Ty.arr n e).JP 9000 then(match Ty.to t (.arr n e) y,isEq d with
   | some y,aa q=>match Ty.eqv (.arr n e) x y with
     | some c=>.ret (.data .bool<|bif q then c else nt c)
     | none=>.fail
   | _,_=>.fail) else .fail
 | .vd,.vd=>match g,isEq d with|true,aa e=>.ret (.data .bool e)|_,_=>.fail
 | _,_=>.fail
def adv(d:St)(f:Option Ty)(a:Bool)(c:BinOp)(x y:cp):Tree cp :=
 match x,y with
 | .ptr b aP _,.vd=>bif live d b aP&&a then(match isEq c with|some e=>.ret (.data .bool<|!e)|none=>.fail) else .fail
 | .vd,.ptr b aP _=>bif live d b aP&&a then(match isEq c with|some e=>.ret (.data .bool<|!e)|none=>.fail) else .fail
 | x,y=>bin f a c x y
def Rx(c:Bool)(x y:cp):Tree cp :=
 match x,y with
 | .data (.int k) a,.data (.int d) b=>bif Nat.beq (Bl k) (Bl d) then .ret (.data (.int k)<|bif c then air a b else imax a b) else .fail
 | _,_=>.fail
def un(a:UnOp)(x:cp):Tree cp :=
 match a,x with
 | .not,.data .bool b=>.ret (.data .bool<|nt b)
 | .neg,.data (.int k) n=>.ret (.data (.int k)<|cA k 0 n)
 | .xor,.data (.int k) n=>.ret (.data (.int k)<|gy k (bif k.signed then -1 else k.max) n)
 | _,_=>.fail
def Ls:(t:Ty)->t.den->Nat->(u:Ty)->u.den->Option t.den
 | .pair a b,x,0,u,y=>match Ty.to u a y with|some y=>aa (y,x.2)|none=>af
 | .pair a b,x,k+1,u,y=>match Ls b x.2 k u y with|some z=>aa (x.1,z)|none=>af
 | _,_,_,_,_=>af
def iG(a:St)(t:Ty)(x:t.den):List (Nat×Operand)->Option (t.den×St)
 | []=>aa (x,a)
 | (k,o)::r=>match xn t k with
   | some u=>match BZ a u (cW a o) with
     | some (y,a)=>match Ls t x k u y with
       | some x=>iG a t x r
       | none=>af
     | none=>af
   | none=>af
def fF(a:St)(e:Ty)(l:List e.den):List (Nat×Operand)->Option (List e.den×St)
 | []=>aa (l,a)
 | (k,o)::r=>match BZ a e (cW a o) with
   | some (y,a)=>bif Nat.blt k l.length then fF a e (l.set k y) r else af
   | none=>af
def lenOf(c:St):cp->Option Int
 | .data .str s=>aa (len (α:=UInt8) s)
 | .data (.slice e) l=>aa (len (α:=e.den) l)
 | .data (.arr n _) _=>bif Nat.ble n 4294967296 then aa n else af
 | .p7=>aa 0
 | .whole b aP=>match c.mem b with
   | some a=>bif Nat.beq a.aP aP&&a.buf then(match a.val with|.data (.slice u) l=>aa (len (α:=u.den) l)|_=>af) else af
   | none=>af
 | .part b aP _ n=>bif live c b aP then aa n else af
 | _=>af
def Zi(o:Option Ty):cp->Bool
 | .data .str _=>Hq o .str
 | .data (.slice e) _=>Hq o (.slice e)
 | .data (.arr n e) _=>Hq o (.arr n e)
 | .p7|.whole ..|.part ..=>match o with|some (.slice _)=>true|_=>false
 | _=>false
def bounds(c:St)(n:Int)(d e:Option Operand):Option (Int×Int) :=
 match d,e with
 | none,af=>aa (0,n)
 | some a,af=>match cW c a with|.data (.int _) x=>aa (x,n)|_=>af
 | none,aa b=>match cW c b with|.data (.int _) y=>aa (0,y)|_=>af
 | some a,aa b=>match cW c a,cW c b with|.data (.int _) x,.data (.int _) y=>aa (x,y)|_,_=>af
def isRef:cp->Bool
 | .ptr ..|.whole ..|.part ..|.fn ..|.vd|.ve|.yr ..|.mix ..|.cell ..|.p7=>true
 | _=>false
section
variable (cx:Ctx) (nb:Nat) (bf:List Nat) (inl:Nat->List cp->St->Tree (cp×St))
def kj(d:Option Nat)(c:TypeId)(v:cp)(a:St):Tree St :=
 match v with
 | .undef=>bif dc cx.vf c then .ret (a.bu d .undef) else .fail
 | .p7=>match d,find cx.T c with
   | some d,aa (.slice e)=>bif dc bf d then a.bA (nb+d) (.data (.slice e) []) 0 true λb a=>.ret (a.put d<|.whole (nb+d) b)
     else .ret (a.put d<|.data (.slice e) [])
   | _,_=>.ret (a.bu d .p7)
 | v=>.ret (a.bu d v)
def p8(d:Option Nat)(c a b:cp)(e:St):Tree St :=
 match c with
 | .data .bool c=>match a,b with
   | .data t x,.data u y=>match Ty.to u t y with
     | some y=>.ret (e.bu d<|.data t<|ak c x y)
     | none=>.fail
   | a,b=>.node c (.ret<|e.bu d a) (.ret<|e.bu d b)
 | _=>.fail
def Zj:(t:Ty)->t.den->cp
 | .pair a b,x=>.mix (.data a x.1) (Zj b x.2)
 | t,x=>.data t x
def adw:cp->cp
 | .data t x=>Zj t x
 | v=>v
def Ub:Ty->cp->Bool
 | .slice _,.whole ..=>true
 | t,.data u _=>Ty.beq u t
 | _,_=>false
def Zk:Ty->cp->Bool
 | .pair a b,.mix p q=>Ub a p&&Zk b q
 | t,.data u _=>Ty.beq u t
 | _,_=>false
def adx(u:Ty):cp->Bool
 | .whole b aP=>Ub u (.whole b aP)
 | .mix p q=>Zk u (.mix p q)
 | _=>false
def ady:cp->Bool
 | .data (.pair _ _) _=>true
 | .mix ..=>true
 | _=>false
def C4(a:TypeId):cp->Bool
 | .mix p q=>match find cx.T a with|some u=>Zk u (.mix p q)|none=>false
 | _=>false
def As(a:TypeId):cp->Bool
 | .data u _=>Hq (find cx.T a) u
 | .whole ..=>match find cx.T a with|some (.slice _)=>true|_=>false
 | .ptr ..|.vd|.fn ..=>dc cx.vf a
 | _=>false
def mx(d:Option Nat)(c:TypeId)(a:cp)(e:St):Tree St :=
 match a with
 | .cell u x=>bif Hq (find cx.T c) u then .ret (e.bu d<|.data u x) else .fail
 | .ptr b aP p=>match e.mem b with
   | some f=>bif Nat.beq f.aP aP then(agn f.buf p f.val).bind λv=>bif As cx c v||C4 cx c v then .ret (e.bu d v) else .fail else .fail
   | none=>.fail
 | _=>.fail
def storeAt(b d:Nat)(p:List Sel)(e:cp->Bool)(v:cp)(g:St):Tree St :=
 match g.mem b with
 | some a=>bif Nat.beq a.aP d&&!a.lk&&!a.ro then
    (agn a.buf p a.val).bind λf=>bif e f then(Rw a.buf p a.val v).bind λc=>.ret (g.cw b { a with val:=c }) else .fail
   else .fail
 | none=>.fail
def uk(b a:Nat)(p:List Sel)(n:Nat)(v:cp)(e:St):Tree St :=
 match e.mem b with
 | some bx=>bif Nat.beq bx.aP a&&!bx.lk&&!bx.ro&&!bx.buf&&ady bx.val then
    (nav p<|adw bx.val).bind λd=>bif Nat.beq (dQ d) n then(Ar p (adw bx.val) v).bind λc=>bif ady c then .ret (e.cw b { bx with val:=c }) else .fail else .fail
   else .fail
 | none=>.fail
def ais(u:Ty):cp->Bool
 | .data t _=>Ty.beq t u
 | _=>false
def Zl:cp->Bool
 | .undef=>true
 | _=>false
def mU(e:TypeId)(a v:cp)(d:St):Tree St :=
 match a with
 | .ptr b aP p=>match d.mem b with
   | some f=>bif Nat.beq f.aP aP then(agn f.buf p f.val).bind λc=>match c with
      | .data u _=>bif Hq (find cx.T e) u then(bif dc bf 8000000&&adx u v then uk b aP p u.size v d else match BZ d u v with
       | some (y,d)=>storeAt b aP p (ais u) (.data u y) d
       | none=>.fail) else .fail
      | _=>bif As cx e v&&isRef v then storeAt b aP p (λc=>(As cx e c&&isRef c)||Zl c) v d else .fail
     else .fail
   | none=>.fail
 | _=>.fail
def mV(d:Option Nat)(i:TypeId)(x:cp)(lo h:Option Operand)(f:St):Tree St :=
 match find cx.T i,x with
 | some .str,.data .str s=>match bounds f (len (α:=UInt8) s) lo h with
   | some (a,b)=>.ju (inside a b<|len (α:=UInt8) s) (.ret<|f.bu d<|.data .str<|sub (α:=UInt8) s a<|minus b a)
   | none=>.fail
 | some (.slice u),.data (.slice e) l=>bif Ty.beq u e then(match bounds f (len (α:=e.den) l) lo h with
   | some (a,b)=>.ju (inside a b<|len (α:=e.den) l) (.ret<|f.bu d<|.data (.slice e)<|sub (α:=e.den) l a<|minus b a)
   | none=>.fail) else .fail
 | some (.slice u),.part c aP l n=>match f.mem c with
   | some g=>bif Nat.beq g.aP aP&&(match g.row with|some (e,_)=>Ty.beq u e|none=>false) then(match bounds f n lo h with
     | some (a,b)=>.ju (inside a b n) (.ret<|f.bu d<|.part c aP (plus l a)<|minus b a)
     | none=>.fail) else .fail
   | none=>.fail
 | some (.slice u),.whole c aP=>match f.mem c with
   | some g=>bif Nat.beq g.aP aP&&g.buf then(match g.val with
     | .data (.slice e) l=>bif Ty.beq u e then(match lo,h with
       | none,af=>.ret (f.bu d<|.whole c aP)
       | lo,h=>match bounds f (len (α:=e.den) l) lo h with
         | some (a,b)=>.ju (inside a b<|len (α:=e.den) l) (.ret<|f.bu d<|.part c aP a<|minus b a)
         | none=>.fail) else .fail
     | _=>.fail) else .fail
   | none=>.fail
 | some (.arr m u),.ptr c aP (s::q)=>bif live f c aP&&Nat.ble m 4294967296 then(match bounds f m lo h with
   | some (a,b)=>.ju (inside a b m) (.ret<|f.bu d<|.win c aP (s::q) u m a<|minus b a)
   | none=>.fail) else .fail
 | some (.arr m u),.ptr c aP []=>match f.mem c with
   | some g=>bif Nat.beq g.aP aP&&!g.buf then(match g.val with
     | .data (.arr n e) _=>bif Nat.beq m n&&Ty.beq u e&&Nat.ble n 4294967296 then(match bounds f n lo h with
       | some (a,b)=>.ju (inside a b n) (.ret<|f.bu d<|.part c aP a<|minus b a)
       | none=>.fail) else .fail
     | _=>.fail) else .fail
   | none=>.fail
 | _,_=>.fail
def Au(d:St)(b a:Nat):Option (Ty×Int):=match d.mem b with
 | some c=>bif Nat.beq c.aP a then(match c.buf,c.val with
   | true,.data (.slice e) l=>aa (e,len (α:=e.den) l)
   | false,.data (.arr n e) _=>aa (e,n)
   | _,_=>af) else af
 | none=>af
def PX(a:TypeId):Option Nat :=
 match find cx.T a with
 | some _=>af
 | none=>match find cx.els a with
   | some e=>bif dc cx.vf e then aa e else af
   | none=>af
def Lt(d:Option Nat)(b a:Nat)(c:St)(i:Int):Nat->Nat->Tree St
 | 0,_=>.fail
 | m+1,k=>.node (aG i k) (.ret<|c.bu d<|.ptr b a [.gz k k]) (Lt d b a c i m<|k+1)
def KC:List Sel->Bool
 | [.gz _ off]=>Nat.beq off 0
 | _=>false
def eH(d:Option Nat)(c:TypeId)(x:cp)(i:Int)(a:St):Tree St :=
 match find cx.T c,x with
 | some (.slice u),.data (.slice e) l=>bif Ty.beq u e then .look (idx (l:List e.den) i) λy=>.ret (a.bu d<|.cell e y) else .fail
 | some (.arr m u),.cell (.arr n e) l=>bif Ty.beq u e&&Nat.beq m n then .look (idx (l:List e.den) i) λy=>.ret (a.bu d<|.cell e y) else .fail
 | some (.slice u),.whole b aP=>match Au a b aP with
   | some (e,n)=>bif Ty.beq u e then .ju (within i n) (.ret<|a.bu d<|.ptr b aP [.idx i e.size]) else .fail
   | none=>.fail
 | some (.slice u),.part b aP lo n=>match Au a b aP with
   | some (e,_)=>bif Ty.beq u e then .ju (within i n) (.ret<|a.bu d<|.ptr b aP [.idx (plus lo i) e.size]) else .fail
   | none=>.fail
 | some (.arr m u),.ptr b aP p=>bif live a b aP then .ju (within i m) (.ret<|a.bu d<|.ptr b aP<|p++[.idx i u.size]) else .fail
 | none,.win b aP q _ _ lo n=>match PX cx c with
   | some _=>bif KC q&&decide (lo=0)&&live a b aP then Lt d b aP a i n.toNat 0 else .fail
   | none=>.fail
 | _,_=>.fail
def mW(d:Option Nat)(c:TypeId)(x:cp)(i:Int)(a:St):Tree St :=
 match x,PX cx c with
 | .win b aP q _ _ lo n,aa _=>bif KC q&&decide (lo=0)&&live a b aP then(match i with
  | .ofNat k=>bif decide ((k:Int)<n) then .ret (a.bu d<|.ptr b aP [.gz k k]) else .fail
  | .negSucc _=>.fail) else .fail
 | x,_=>eH cx d c x i a
def mX(d:Option Nat)(c:TypeId)(x:cp)(i:Int)(a:St):Tree St :=
 match find cx.T c,x with
 | some .str,.data .str s=>.look (idx (s:bb) i) λb=>.ret (a.bu d<|.data (.int .u8)<|u8 b)
 | some (.arr m u),.data (.arr n e) l=>bif Ty.beq u e&&Nat.beq m n then .look (idx (l:List e.den) i) λy=>.ret (a.bu d<|.data e y) else .fail
 | _,_=>.fail
def DV.size:DV->Nat
 | .dat t=>t.size
 | _=>1
def xo:List DV->Nat->Option Nat
 | [],_=>af
 | _::_,0=>aa 0
 | f::r,k+1=>match xo r k with|some o=>aa (f.size+o)|none=>af
def fc(d:Option Nat)(s:TypeId)(x:cp)(k:Nat)(a:St):Tree St :=
 match x with
 | .cell u y=>bif Hq (find cx.T s) u then(match vS (.data u y) k with
   | some (_,.data t z)=>.ret (a.bu d<|.cell t z)
   | _=>.fail) else .fail
 | .ptr b aP p=>bif live a b aP then(match find cx.T s with
   | some t=>match iF t k,xn t k with
     | some off,aa _=>.ret (a.bu d<|.ptr b aP<|p++[.gz k off])
     | _,_=>.fail
   | none=>match find cx.wb s with
     | some c=>match xo c k with
       | some off=>.ret (a.bu d<|.ptr b aP<|p++[.gz k off])
       | none=>.fail
     | none=>.fail) else .fail
 | _=>.fail
def iq(d:Option Nat)(b c:TypeId)(x:cp)(a:St):Tree St :=
 match find cx.T b,find cx.T c,x with
 | some (.int _),aa (.int k),.data (.int _) n=>.ret (a.bu d<|.data (.int k)<|kz k n)
 | some .str,aa .str,.data .str s=>.ret (a.bu d<|.data .str s)
 | some .str,aa (.slice<|.int .u8),.data .str s=>match d with
   | some d=>.ju (fits<|len (α:=UInt8) s) (a.bA (nb+d) (.data (.slice<|.int .u8)<|ax s) 0 true λe a=>.ret (a.put d<|.whole (nb+d) e))
   | none=>.fail
 | some (.slice<|.int .u8),aa .str,x=>match jv (.int .u8) a x with
   | some l=>.ret (a.bu d<|.data .str<|bq l)
   | none=>.fail
 | _,_,_=>.fail
def y6(e:Ty)(a:St)(x:cp):Option (List e.den):=match x with
 | .data .str t=>toL (.int .u8) e (ax t)
 | x=>jv e a x
def ait(a t:Nat):Bool:=Nat.beq t 0||(match find cx.els a with|some e=>Nat.beq e t|none=>false)
def iH(d:Option Nat)(f:TypeId)(s x:cp)(a:St):Tree St :=
 match d,find cx.T f with
 | some d,aa (.slice e) =>
   match y6 e a x with
   | some m=>match s with
     | .p7=>.ju (fits<|len (α:=e.den) m) (a.bA (nb+d) (.data (.slice e) m) 0 true λaP a=>.ret (a.put d<|.whole (nb+d) aP))
     | .whole b aP=>match a.mem b,jv e a (.whole b aP) with
       | some c,aa l=>bif c.lk||!ait cx f c.tid then .fail else
         .ju (fits<|plus (len (α:=e.den) l)<|len (α:=e.den) m) (.ret<|(a.cw b { c with val:=.data (.slice e) (app (α:=e.den) l m),aP:=aP+1 }).put d<|.whole b<|aP+1)
       | _,_=>.fail
     | _=>.fail
   | none=>.fail
 | _,_=>.fail
def kQ(e:Ty)(m:List e.den)(b d:Nat)(q:List Sel)(f:Nat->Ty->Bool)(i:Int)(g:St):Tree St :=
 match g.mem b with
 | some a=>bif Nat.beq a.aP d&&!a.lk&&!a.ro then
    (match a.buf with
    | true=>match q,a.val with
      | [],.data (.slice u) l=>match toL e u m with
        | some m=>.ret (g.cw b { a with val:=.data (.slice u) (over (α:=u.den) l i m) })
        | none=>.fail
      | _,_=>.fail
    | false=>(nav q a.val).bind λh=>match h with
      | .data (.arr k u) l=>bif f k u then(match toL e u m with
        | some m=>(Ar q a.val<|.data (.arr k u)<|over (α:=u.den) l i m).bind λc=>.ret (g.cw b { a with val:=c })
        | none=>.fail) else .fail
      | _=>.fail)
   else .fail
 | none=>.fail
def Hr(e:Ty)(m:Int->List e.den)(t:cp)(a:St):Tree (Int×St) :=
 match t with
 | .part b aP lo n=>(kQ e (m n) b aP [] (λ_ _=>true) lo a).bind λa=>.ret (n,a)
 | .whole b aP=>match lenOf a t with|some n=>(kQ e (m n) b aP [] (λ_ _=>true) 0 a).bind λa=>.ret (n,a)|none=>.fail
 | .win b aP q u k lo n=>(kQ e (m n) b aP q (λc d=>Nat.beq k c&&Ty.beq u d) lo a).bind λa=>.ret (n,a)
 | _=>.fail
def zz(d:Option Nat)(b:TypeId)(t x:cp)(a:St):Tree St :=
 match find cx.T b with
 | some (.slice e)=>match y6 e a x with
   | none=>.fail
   | some m=>(Hr e (λn=>mw (α:=e.den) m n) t a).bind λr=>.ret (r.2.bu d<|.data (.int .i64)<|len<|mw (α:=e.den) m r.1)
 | _=>.fail
def zB(a:TypeId)(t:cp)(b:St):Tree St :=
 match find cx.T a with
 | some (.slice e)=>(Hr e (λn=>lJ n e.zero) t b).bind λr=>.ret r.2
 | _=>.fail
def n8:(U:Ty)->U.den->List Nat->Nat->Option cp
 | .pair t U,u,a,c=>match a with
   | b::a=>bif Nat.beq c b then aa (.data t u.1) else n8 U u.2 a c
   | []=>af
 | _,_,_,_=>af
def uo(U:Ty)(u:U.den)(b:List Nat)(a:St):St :=
 { a with mem:=λc=>match n8 U u b c with
  | some v=>(match a.mem c with|some d=>aa { d with val:=v }|none=>af)
  | none=>a.mem c }
def sa(d:St):List Bool->(A U:Ty)->List cp->Option (A.den×U.den×List Nat)
 | [],A,U,vs=>match A,U,vs with
   | .unit,.unit,[]=>aa ((),(),[])
   | _,_,_=>af
 | false::ps,A,U,vs=>match A,vs with
   | .pair t A,v::vs=>match toD t v,sa d ps A U vs with
     | some x,aa (y,u,c)=>aa ((x,y),u,c)
     | _,_=>af
   | _,_=>af
 | true::ps,A,U,vs=>match U,vs with
   | .pair t U,.ptr b aP []::vs=>match d.mem b with
     | some a=>bif Nat.beq a.aP aP&&!a.buf&&!a.lk&&!a.ro&&Nat.beq a.tid 0 then(match toS t a.val,sa d ps A U vs with
       | some x,aa (y,u,c)=>bif dc c b then af else aa (y,(x,u),b::c)
       | _,_=>af) else af
     | none=>af
   | _,_=>af
def sb:cp->Bool
 | .whole ..=>true
 | _=>false
def C5(s:Spc)(d:Option Nat)(c:List cp)(e:St):Tree St :=
 match s,c with
 | .chk T,[.ptr b aP []]=>match e.mem b with
   | some a=>match a.val with
     | .mix (.yr f g) (.mix u<|.data .unit _)=>bif Nat.beq a.aP aP&&!a.buf&&!a.lk&&!a.ro&&Nat.beq a.tid T&&Nat.blt 0 T&&Nat.beq f b&&Nat.beq g aP&&sb u then .ret (e.bu d<|.BR .nl) else .fail
     | _=>.fail
   | none=>.fail
 | .str T E,[.ptr b aP []]=>match e.mem b with
   | some a=>match a.val with
     | .mix (.yr _ _) (.mix (.whole h hv)<|.data .unit _)=>bif Nat.beq a.aP aP&&!a.buf&&Nat.beq a.tid T&&Nat.blt 0 T&&!Nat.beq h b then(match e.mem h with
       | some hx=>bif Nat.beq hx.aP hv&&hx.buf&&!hx.lk&&Nat.beq hx.tid E&&Nat.blt 0 E then(match hx.val with
         | .data (.slice<|.int .u8) l=>.ret ((e.cw h { hx with val:=.data (.slice<|.int .u8) [],aP:=hx.aP+1 }).bu d<|.data .str<|bq l)
         | _=>.fail) else .fail
       | none=>.fail) else .fail
     | _=>.fail
   | none=>.fail
 | _,_=>.fail
def ownRow(d:Option Nat):Option Nat:=match d with|some d=>bif dc bf (4000000+d) then aa d else af|none=>af
def Uc(d:Option Nat):Option Nat:=match d with|some d=>bif dc bf d then aa d else af|none=>af
def mY(e:Ty)(d:Option Nat)(a:List cp)(b:St):Tree St :=
 match d,a with
 | some d,[x]=>match BZ b (.slice e) x with
   | some (l,b)=>bif Nat.blt 0 e.size then .ju (fits<|len (α:=e.den) l) (b.bA (nb+d) (.data (.slice e) l) 0 true λc b=>.ret (b.put d<|.whole (nb+d) c)) else .fail
   | none=>.fail
 | _,_=>.fail
def Av(e:Ty)(c:St):cp->Option (Nat×Nat×Box×List e.den)
 | .whole b aP=>match c.mem b with
   | some a=>bif Nat.beq a.aP aP&&a.buf&&!a.lk&&!a.ro&&Nat.beq a.tid 0 then(match a.val with
     | .data (.slice u) l=>(match toL u e l with|some l=>aa (b,aP,a,l)|none=>af)
     | _=>af) else af
   | none=>af
 | .part b aP lo n=>match c.mem b with
   | some a=>bif Nat.beq a.aP aP&&a.buf&&!a.lk&&!a.ro&&Nat.beq a.tid 0&&decide (lo=0) then(match a.val with
     | .data (.slice u) l=>(match toL u e l with|some l=>aa (b,aP,a,sub (α:=e.den) l lo n)|none=>af)
     | _=>af) else af
   | none=>af
 | _=>af
def uq(e A:Ty)(g:Bool)(a:List e.den->A.den->Option (List e.den))(d:Option Nat)(c:List cp)(f:St):Tree St :=
 match c with
 | v::vs=>match gB f A vs with
   | some (x,f)=>match Av e f v with
     | some (b,aP,h,l)=>.look (a l x) λi=>match g,d with
       | true,aa d=>.ret ((f.cw b { h with val:=.data (.slice e) i,aP:=aP+1 }).put d<|.whole b<|aP+1)
       | false,d=>bif sb v then .ret ((f.cw b { h with val:=.data (.slice e) i }).bu d<|.BR .nl) else .fail
       | _,_=>.fail
     | none=>.fail
   | none=>.fail
 | []=>.fail
def y7(d:Option Nat)(f:Nat):Option Spc :=
 match find cx.PV f with
 | some (.clone e)=>match Uc bf d with|some _=>aa (.clone e)|none=>af
 | some (.own e A r s)=>aa (.own e A r s)
 | _=>af
def Ud(c:Hp)(d:Option Nat)(f:List cp)(e:St):Tree St :=
 match f with
 | .ptr b aP []::vs=>match gB e c.A vs with
   | some (x,e)=>match e.mem b with
     | some g=>match g.val with
       | .mix r (.mix (.fn F a)<|.data .unit _)=>bif Nat.beq g.aP aP&&!g.buf&&!g.ro&&Nat.beq g.tid c.T&&Nat.beq F c.F&&a.all (λb=>live e b.1 b.2) then(match toS c.t r,sa e (a.map λ_=>true) .unit c.U (a.map λp=>.ptr p.1 p.2 []) with
         | some r,aa (_,u,h)=>bif dc h b then .fail else .look (c.spec ((r,x),u)) λy=>.ret ((uo c.U y.2 h e).bu d<|r9 c.R y.1)
         | _,_=>.fail) else .fail
       | _=>.fail
     | none=>.fail
   | none=>.fail
 | _=>.fail
def y8(d:Option Nat)(f:Nat)(a:List cp)(b:St):Tree St :=
 match find cx.Ua f with
 | some c=>match c.R.flat with
   | true=>match jj b c.A a with
     | some x=>.look (c.spec x) λy=>.ret (b.bu d<|r9 c.R y)
     | none=>.fail
   | false=>match gB b c.A a with
     | some (x,b)=>.look (c.spec x) λy=>.ret (b.bu d<|r9 c.R y)
     | none=>.fail
 | none=>match find cx.PV f with
  | some s=>C5 s d a b
  | none=>match find cx.OA f with
   | some c=>(match sa b c.ps c.A c.U a with
     | some (x,u,e)=>.look (c.spec (x,u)) λy=>.ret ((uo c.U y.2 e b).bu d<|r9 c.R y.1)
     | none=>(inl f a b).bind λr=>.ret (r.2.bu d r.1))
   | none=>match find cx.Ru f with
     | some c=>Ud c d a b
     | none=>(inl f a b).bind λr=>.ret (r.2.bu d r.1)
def wc(d:Option Nat)(f:Nat)(a:List cp)(b:St):Tree St :=
 match y7 cx bf d f with
 | some (.clone e)=>mY nb e d a b
 | some (.own e A r s)=>uq e A r s d a b
 | _=>y8 cx inl d f a b
def Ue:(t:Ty)->(u:Nat)->Option ((a:Ty)×(a.den->t.den))
 | .alt n a r,u=>bif Nat.beq n u then aa ⟨a,.inl⟩ else match Ue r u with
   | some ⟨b,f⟩=>aa ⟨b,λx=>.inr (f x)⟩
   | none=>af
 | _,_=>af
def tM(d:Option Nat)(c u:TypeId)(x:cp)(b:St):Tree St :=
 match find cx.T c with
 | some t=>match Ue t u with
   | some ⟨a,f⟩=>match BZ b a x with
     | some (y,b)=>.ret (b.bu d<|.data t<|f y)
     | none=>.fail
   | none=>.fail
 | none=>.fail
def tN(d:Option Nat)(a:String)(b:List cp)(e:St):Tree St :=
 match PW cx.inv a with
 | some c=>match gB e c.A b with
   | some (x,e)=>.look (c.spec x) λy=>.ret (e.bu d<|r9 c.R y)
   | none=>.fail
 | none=>.fail
def xp(d:Option Nat)(h:TypeId)(c:Call)(a:St):Tree St :=
 match c.callee with
 | .builtin b=>match b,c.args.toList.map (cW a),c.argTypes.toList with
   | .len,[x],[t]=>bif Zi (find cx.T t) x then(match lenOf a x with
     | some n=>.ret (a.bu d<|.data (.int .i64) n)
     | none=>.fail) else(match PX cx t,x with
     | some _,.win b aP _ _ _ _ n=>bif live a b aP&&decide (n<=64) then .ret (a.bu d<|.data (.int .i64) n) else .fail
     | _,_=>.fail)
   | .append,[s,x],[t,u]=>match find cx.T u with
     | some .str|some (.slice _)=>iH cx nb d t s x a
     | _=>.fail
   | .copy,[t,x],[g,tx]=>match find cx.T tx with
     | some .str|some (.slice _)=>zz cx d g t x a
     | _=>.fail
   | .clear,[t],[g]=>match d with|none=>zB cx g t a|some _=>.fail
   | .min,[x,y],_=>Rx true x y |>.bind λv=>.ret (a.bu d v)
   | .max,[x,y],_=>Rx false x y |>.bind λv=>.ret (a.bu d v)
   | _,_,_=>.fail
 | .value f=>match cW a f with
   | .fn f e=>bif e.all (λb=>live a b.1 b.2) then wc cx nb bf inl d f (c.args.toList.map (cW a)++e.map λb=>.ptr b.1 b.2 []) a else .fail
   | _=>.fail
 | .invoke r name=>tN cx d name (cW a r::c.args.toList.map (cW a)) a
def Hs:List cp->Option (List<|Nat×Nat)
 | []=>aa []
 | .ptr b aP []::r=>(Hs r).map ((b,aP)::·)
 | _=>af
def KD(a:St)(b:Nat):Nat:=match a.mem b with|some bx=>bx.aP+1|none=>0
def mkObj(b a:Nat):List DV->Nat->St->Tree (cp×St)
 | [],_,σ=>.ret (.data .unit (),σ)
 | .dat t::r,j,σ=>(mkObj b a r (j+1) σ).bind λx=>.ret (.mix (.data t t.zero) x.1,x.2)
 | .one::r,j,σ=>(mkObj b a r (j+1) σ).bind λx=>.ret (.mix .vd x.1,x.2)
 | .fnc::r,j,σ=>(mkObj b a r (j+1) σ).bind λx=>.ret (.mix .undef x.1,x.2)
 | .self::r,j,σ=>(mkObj b a r (j+1) σ).bind λx=>.ret (.mix (.yr b a) x.1,x.2)
 | .buf e c::r,j,σ=>bif Nat.blt 0 e.size then σ.bA (b*1000+999-j) (.data (.slice e) []) c true λv σ=>(mkObj b a r (j+1) σ).bind λx=>.ret (.mix (.whole (b*1000+999-j) v) x.1,x.2) else .fail
def qu:List DV->Option cp
 | []=>aa (.data .unit ())
 | .dat t::r=>match qu r with|some v=>aa (.mix (.data t t.zero) v)|none=>af
 | .buf _ _::r=>match qu r with|some v=>aa (.mix .p7 v)|none=>af
 | .one::r=>match qu r with|some v=>aa (.mix .vd v)|none=>af
 | .fnc::r=>match qu r with|some v=>aa (.mix .undef v)|none=>af
 | .self::_=>af
def my(a:St)(b:List DV):cp->List (Nat×Operand)->Option cp
 | v,[]=>aa v
 | v,(k,x)::r=>match vS v k,xo b k,b[k]? with
   | some (o,.data t _),aa d,aa f=>bif Nat.beq o d&&Nat.beq t.size f.size then(match toS t (cW a x) with
     | some y=>match(EC v k λ_=>.ret (.data t y)).run with
       | some v=>my a b v r
       | none=>af
     | none=>bif Ub t (cW a x) then(match(EC v k λ_=>.ret (cW a x)).run with
       | some v=>my a b v r
       | none=>af) else af) else af
   | some (o,.undef),aa d,aa f=>bif Nat.beq o d&&Nat.beq 1 f.size then(match cW a x with
     | .fn g c=>match(EC v k λ_=>.ret (.fn g c)).run with
       | some v=>my a b v r
       | none=>af
     | _=>af) else af
   | _,_,_=>af
def Ht:Ty->List DV
 | .pair a b=>.dat a::Ht b
 | _=>[]
def p9(b:St)(t:Ty)(a:List (Nat×Operand)):Option (cp×St) :=
 bif dc bf 8600000&&a.any (λp=>sb (cW b p.2)) then(match my b (Ht t) (Zj t t.zero) a with
  | some (.mix p q)=>aa (.mix p q,b)
  | _=>af)
 else match iG b t t.zero a with
  | some (x,b)=>aa (.data t x,b)
  | none=>af
def oP(b:Nat):List DV->Nat->cp->St->Tree (cp×St)
 | [],_,.data .unit x,σ=>.ret (.data .unit x,σ)
 | .dat _::r,j,.mix (.data u y) v,σ=>(oP b r (j+1) v σ).bind λx=>.ret (.mix (.data u y) x.1,x.2)
 | .fnc::r,j,.mix .undef v,σ=>(oP b r (j+1) v σ).bind λx=>.ret (.mix .undef x.1,x.2)
 | .fnc::r,j,.mix (.fn g c) v,σ=>(oP b r (j+1) v σ).bind λx=>.ret (.mix (.fn g c) x.1,x.2)
 | .one::r,j,.mix .vd v,σ=>(oP b r (j+1) v σ).bind λx=>.ret (.mix .vd x.1,x.2)
 | .buf e a::r,j,.mix .p7 v,σ=>bif Nat.blt 0 e.size then σ.bA (b*1000+999-j) (.data (.slice e) []) a true λd σ=>(oP b r (j+1) v σ).bind λx=>.ret (.mix (.whole (b*1000+999-j) d) x.1,x.2) else .fail
 | _,_,_,_=>.fail
def B1(a:St):Nat->List (Nat×Operand)->Option cp
 | _,[]=>aa (.data .unit ())
 | k,(j,x)::r=>bif Nat.beq j k then(match cW a x,B1 a (k+1) r with
   | .vd,aa v=>aa (.mix .vd v)
   | .ptr b aP p,aa v=>aa (.mix (.ptr b aP p) v)
   | .fn f c,aa v=>aa (.mix (.fn f c) v)
   | _,_=>af) else af
def C6(d:Option Nat)(t:TypeId)(a:Nat)(b:List (Nat×Operand))(c:St):Tree St :=
 match d,PX cx t,B1 c 0 b with
 | some d,aa _,aa v=>bif Nat.beq a b.length&&Nat.blt 0 a&&Nat.ble a 64 then
  c.bA (nb+d) v 0 false λe c=>.ret (c.put d<|.win (nb+d) e [.gz 0 0] .bool a 0 a) else .fail
 | _,_,_=>.fail
def FF(d:Option Nat)(a:TypeId)(x:cp)(c:St):Tree St :=
 match d,x with
 | some _,.undef=>.fail
 | some _,.BR _=>.fail
 | some d,v=>match find cx.wb a with
   | some e=>(oP (nb+d) e 0 v c).bind λr=>r.2.bA (nb+d) r.1 a false λb c=>.ret (c.put d<|.ptr (nb+d) b [])
   | none=>c.bA (nb+d) v 0 false λb c=>.ret (c.put d<|.ptr (nb+d) b [])
 | none,_=>.fail
def wZ(d:Nat)(t:Ty)(a:St):Tree St :=
 match Uc bf (aa d),t with
 | some _,.slice e=>bif Nat.blt 0 e.size then a.bA ((nb+d)*1000+999) (.data (.slice e) []) 0 true λv a =>
  a.bA (nb+d) (.whole ((nb+d)*1000+999) v) 0 false λb a=>.ret (a.put d<|.ptr (nb+d) b []) else .fail
 | _,t=>a.bA (nb+d) (.data t t.zero) 0 false λb a=>.ret (a.put d<|.ptr (nb+d) b [])
def sd(o:Oper)(g:St):Tree St :=
 match o.op with
 | .move x|.assign x=>kj cx nb bf o.dst o.type (cW g x) g
 | .pick c a b=>p8 o.dst (cW g c) (cW g a) (cW g b) g
 | .alloc elem=>match o.dst,find cx.T elem with
   | some d,aa t=>wZ nb bf d t g
   | some d,af=>match find cx.wb elem with
     | some m=>(mkObj (nb+d) (KD g<|nb+d) m 0 g).bind λr=>r.2.bA (nb+d) r.1 elem false λh g=>.ret (g.put d<|.ptr (nb+d) h [])
     | none=>bif dc cx.vf elem then g.bA (nb+d) .undef 0 false λh g=>.ret (g.put d<|.ptr (nb+d) h []) else .fail
   | _,_=>.fail
 | .box elem x=>FF cx nb o.dst elem (cW g x) g
 | .build t parts=>match find cx.T t with
   | some (.pair a b)=>match p9 bf g (.pair a b) parts.toList with
     | some (v,g)=>.ret (g.bu o.dst v)
     | none=>.fail
   | some (.arr n e)=>match fF g e (List.replicate n e.zero) parts.toList with
     | some (l,g)=>.ret (g.bu o.dst<|.data (.arr n e) l)
     | none=>.fail
   | none=>match find cx.wb t with
     | some m=>match qu m with
       | some z=>match my g m z parts.toList with
         | some (.mix p q)=>.ret (g.bu o.dst<|.mix p q)
         | some (.data .unit _)=>.ret (g.bu o.dst<|.data .unit ())
         | _=>.fail
       | none=>.fail
     | none=>.fail
   | _=>.fail
 | .buildSlice t len parts=>match find cx.T t with
   | some (.slice e)=>match Uc bf o.dst,len,parts.toList with
     | some d,0,[]=>g.bA (nb+d) (.data (.slice e) []) 0 true λh g=>.ret (g.put d<|.whole (nb+d) h)
     | _,_,_=>bif Nat.ble (len*e.size) 65536 then(match fF g e (List.replicate len e.zero) parts.toList with
     | some (l,g)=>(match ownRow bf o.dst with
       | some d=>g.bA (nb+d) (.data (.slice e) l) 0 true λh g=>.ret (g.put d<|.whole (nb+d) h)
       | none=>.ret (g.bu o.dst<|.data (.slice e) l))
     | none=>.fail) else .fail
   | none=>C6 cx nb o.dst t len parts.toList g
   | _=>.fail
 | .load t a=>mx cx o.dst t (cW g a) g
 | .store t a x=>match o.dst with|none=>mU cx bf t (cW g a) (cW g x) g|some _=>.fail
 | .nilCheck x=>match cW g x with
   | .ptr b h p=>bif live g b h then .ret (g.bu o.dst<|.ptr b h p) else .fail
   | .cell t x=>.ret (g.bu o.dst<|.cell t x)
   | .fn f c=>.ret (g.bu o.dst<|.fn f c)
   | _=>.fail
 | .binOp op w x y _=>(adv g (find cx.T w) (dc cx.DW w) op (cW g x)<|cW g y).bind λv=>.ret (g.bu o.dst v)
 | .unOp op _ x=>(un op<|cW g x).bind λv=>.ret (g.bu o.dst v)
 | .convert src dst x=>iq cx nb o.dst src dst (cW g x) g
 | .makeFunc (.func f) first j=>match first.toList,Hs (j.toList.map<|cW g) with
   | [],aa cs=>.ret (g.bu o.dst<|.fn f cs)
   | _,_=>.fail
 | .slice t x lo hi af=>mV cx o.dst t (cW g x) lo hi g
 | .fieldAddr s x k=>fc cx o.dst s (cW g x) k g
 | .field w x k=>match cW g x with
   | .data u y=>bif Hq (find cx.T w) u then(match vS (.data u y) k with
     | some (_,v)=>.ret (g.bu o.dst v)
     | none=>.fail) else .fail
   | _=>.fail
 | .indexAddr t x i=>match cW g i with
   | .data (.int _) i=>bif dc bf 5000000 then mW cx o.dst t (cW g x) i g else eH cx o.dst t (cW g x) i g
   | _=>.fail
 | .index t x i=>match cW g i with
   | .data (.int _) i=>mX cx o.dst t (cW g x) i g
   | _=>.fail
 | .makeSlice t l c=>match o.dst,find cx.T t,cW g l,cW g c with
   | some d,aa (.slice e),.data (.int _) l,.data (.int _) c =>
     .ju (inside 0 l c) (.ju (fits c)
      (g.bA (nb+d) (.data (.slice e)<|lJ l e.zero) 0 true λh g=>.ret (g.put d<|.whole (nb+d) h)))
   | _,_,_,_=>.fail
 | .extract t k=>match cW g t with
   | .BR vs=>match nth vs k with
     | some v=>.ret (g.bu o.dst v)
     | none=>.fail
   | _=>.fail
 | .call c=>xp cx nb bf inl o.dst o.type c g
 | .makeInterface u x=>tM cx o.dst o.type u (cW g x) g
 | _=>.fail
def Aw(g:Option (Nat×Bool))(j:Nat)(a:Bool):Bool :=
 match g with|some (i,b)=>Nat.beq i j&&(b==a)|none=>false
def under(j:Nat)(a:Bool):(inner:List Nat)->List (Nat×Oper)->List (Nat×Oper)×List (Nat×Oper)
 | _,[]=>([],[])
 | inner,(i,o)::r =>
   bif Aw o.guard j a then let x:=under j a (i::inner) r;((i,{ o with guard:=af })::x.1,x.2)
   else bif (match o.guard with|some (k,_)=>inner.any (Nat.beq k)|none=>false) then let x:=under j a (i::inner) r;((i,o)::x.1,x.2)
   else([],(i,o)::r)
def KE(a:Ctx):List (Nat×Oper)->Bool
 | []=>false
 | (_,o)::r=>(match o.op with
   | .call c=>match c.callee with
     | .value (.func f)=>match find a.Ua f with|some _=>false|none=>true
     | .value _=>true
     | .builtin .append=>true
     | _=>false
   | .store ..=>true
   | _=>false)||KE a r
def St.gC(a:St):St:={ a with mem:=λi=>match a.mem i with|some b=>aa { b with lk:=true }|none=>af }
def St.undef(a:St):List (Nat×Oper)->St
 | []=>a
 | (_,o)::r=>(a.undef r).bu o.dst .undef
def oQ(d:Nat):List (Nat×Oper)->Bool
 | []=>false
 | (_,o)::r=>(match o.dst with|some k=>Nat.beq k d|none=>false)||oQ d r
def Ax(e:St)(f:Oper)(g:Nat)(d:Bool):Option cp :=
 match f.op with
 | .pick (.tmp c) a b=>bif Nat.beq c g then aa (cW e<|bif d then a else b) else af
 | _=>af
def se(a:Array Oper):Nat->List (Nat×Oper)->St->Tree St
 | 0,_,_=>.fail
 | n+1,[],σ=>.ret σ
 | n+1,(i,o)::r,σ =>
   match o.guard with
   | none=>(sd cx nb bf inl o σ).bind λσ=>se a n r σ
   | some (j,want) =>
     let g:=under j want [] ((i,o)::r)
     match(a[j]?).bind (·.dst) with
     | none=>.fail
     | some d=>match σ.bh d,g.2 with
       | .data .bool c,(_,b)::rest=>bif oQ d g.1 then .fail else match b.guard with
         | some _=>.fail
         | none =>
           let e:=bif want then c else nt c
           bif KE cx g.1 then
            (Tree.node e ((se a n g.1 σ).bind λσ=>match Ax σ b d want with
              | some v=>.ret (σ.bu b.dst v)
              | none=>.fail)
             (match Ax (σ.undef g.1) b d (!want) with
              | some v=>.ret ((σ.undef g.1).bu b.dst v)
              | none=>.fail)).bind λσ=>se a n rest σ
           else match find cx.T b.type,b.dst with
            | some t,aa f=>(Tree.node e ((se a n g.1 σ.gC).bind λτ=>match(Ax τ b d want).bind (toD t) with
              | some x=>.ret x
              | none=>.fail)
             (match(Ax (σ.undef g.1) b d<|!want).bind (toD t) with
              | some x=>.ret x
              | none=>.fail)).join λx=>se a n rest ((σ.undef g.1).put f<|.data t x)
            | _,_=>.fail
       | _,_=>.fail
def number:Nat->List Oper->List (Nat×Oper)
 | _,[]=>[]
 | k,o::r=>(k,o)::number (k+1) r
def Lu(a:Array Oper)(b:St):Tree St:=se cx nb bf inl a (2*a.size+1) (number 0 a.toList) b
def ir:Op->List Operand
 | .move x|.assign x|.box _ x|.load _ x|.nilCheck x|.unOp _ _ x|.convert _ _ x|.fieldAddr _ x _|.field _ x _|.extract x _=>[x]
 | .pick c a b=>[c,a,b]
 | .build _ ps|.buildSlice _ _ ps=>ps.toList.map (·.2)
 | .store _ a x=>[a,x]
 | .binOp _ _ x y _=>[x,y]
 | .makeFunc _ f c=>f.toList++c.toList
 | .slice _ x lo hi _=>x::(lo.toList++hi.toList)
 | .indexAddr _ x i|.index _ x i=>[x,i]
 | .makeSlice _ l c=>[l,c]
 | .call c=>(match c.callee with|.value f=>[f]|.invoke r _=>[r]|_=>[])++c.args.toList
 | .makeInterface _ x=>[x]
 | _=>[]
def tmpsOf:List Operand->List Nat
 | []=>[]
 | .tmp t::r=>t::tmpsOf r
 | _::r=>tmpsOf r
def sf(o:Oper)(a:St):Option Nat:=match o.op with
 | .call c=>match c.callee with
   | .value x=>match cW a x with
     | .fn f _=>aa f
     | _=>af
   | _=>af
 | _=>af
def aj2:Option Nat->Option Nat->Bool
 | some a,aa b=>Nat.beq a b
 | none,af=>true
 | _,_=>false
def cls(g:Option Nat)(o:Oper):Nat:=match o.op with
 | .assign _|.move _|.makeSlice ..|.convert ..=>1
 | .box e _=>match find cx.wb e with
   | some _=>3
   | none=>1
 | .alloc e=>match find cx.T e with
   | some (.slice _)=>3
   | some _=>1
   | none=>match find cx.wb e with
     | some _=>3
     | none=>1
 | .build ..|.buildSlice ..|.store ..=>2
 | .call c=>match c.callee with
   | .builtin .len|.builtin .min|.builtin .max=>0
   | .builtin .append=>2
   | .builtin _=>3
   | .value _=>match g with
     | some f=>match find cx.PV f with
       | some (.clone _)=>2
       | some (.own _ _ _ _)=>2
       | _=>match find cx.Ua f with
         | some c=>bif c.R.flat then 0 else 2
         | none=>3
     | none=>3
   | .invoke ..=>2
 | .makeInterface ..=>2
 | _=>0
structure Fp where
 rd:List Nat
 wr:List Nat
 KF:Bool
 fn:Option Nat
def zC(d:St):cp->List Nat
 | .ptr b _ _=>[b]
 | .whole b _=>[b]
 | .part b _ _ _=>[b]
 | .win b _ _ _ _ _ _=>[b]
 | .fn _ c=>c.map (·.1)
 | .mix a b=>zC d a++zC d b
 | _=>[]
def refsOf(a:St):List Operand->List Nat
 | []=>[]
 | x::r=>zC a (cW a x)++refsOf a r
def aj3(o:Oper)(a:St):List Nat:=match o.op with
 | .move _|.assign _=>[]
 | _=>refsOf a (ir o.op)
def own(o:Oper):List Nat:=match o.dst with|some d=>[nb+d]|none=>[]
def B2(o:Oper)(a:St):Fp :=
 let rd:=own nb o++aj3 o a
 let g:=sf o a
 match cls cx g o with
 | 0=>⟨rd,[],false,g⟩
 | 1=>⟨rd,own nb o,false,g⟩
 | 2=>⟨rd,rd,false,g⟩
 | _=>⟨[],[],true,g⟩
def St.only(a:St)(ts c:List Nat):St:={ bh:=λt=>bif dc ts t then a.bh t else .undef,mem:=λb=>bif dc c b then a.mem b else af }
def lay(a:St)(d:Option Nat)(e:List Nat)(c:St):St :=
 { bh:=match d with|some d=>λt=>bif Nat.beq t d then c.bh d else a.bh t|none=>a.bh
   mem:=λb=>bif dc e b then c.mem b else a.mem b }
def zD(_:Nat)(_:List cp)(_:St):Tree (cp×St):=.fail
def adz(b:Fp)(o:Oper)(a:St):Tree St:=bif aj2 (sf o a) b.fn then sd cx nb bf zD o a else .fail
def jk(a:Fp)(o:Oper)(b:St):Tree St :=
 bif a.KF then sd cx nb bf inl o b
 else(adz cx nb bf a o<|b.only (tmpsOf<|ir o.op) a.rd).bind λτ=>.ret (lay b o.dst a.wr τ)
abbrev Uf:=Nat×Oper×Fp×Nat
def maskAt:List Uf->Nat->Nat
 | [],_=>0
 | (i,_,_,m)::r,k=>bif Nat.beq i k then m else maskAt r k
def w8(a:List Uf):List Edge->Nat
 | []=>0
 | e::r=>bif Region.binds .any e then(w8 a r ||| 2 ^ e.on) ||| maskAt a e.on else w8 a r
def mask(a:List Uf)(o:Oper):Nat:=w8 a o.after.toList
def aaG(a b:List Nat):Bool:=a.all λx=>!dc b x
def apart(x y:Oper)(f g:Fp):Bool :=
 !f.KF&&!g.KF&&aaG f.wr g.rd&&aaG g.wr f.rd &&
 (match x.dst with|some d=>!dc (tmpsOf<|ir y.op) d&&(match y.dst with|some e=>!Nat.beq d e|none=>true)|none=>true) &&
 (match y.dst with|some e=>!dc (tmpsOf<|ir x.op) e|none=>true)
def loose(o:Oper)(f:Fp)(m:Nat):List Uf->Bool
 | []=>true
 | (k,ok,a,_)::r=>(Nat.testBit m k||apart ok o a f)&&loose o f m r
def Lv:List (Nat×Oper)->List Uf->St->Tree St
 | [],_,σ=>.ret σ
 | (i,o)::r,done,σ=>match o.guard with
   | some _=>.fail
   | none =>
     let f:=B2 cx nb o σ
     let m:=mask done o
     bif loose o f m done&&(o.after.all λe=>!Region.binds .any e||Nat.blt e.on i) then
      (jk cx nb bf inl f o σ).bind λσ=>Lv r ((i,o,f,m)::done) σ
     else .fail
def PY(a:Array Oper)(o:Oper):List Nat:=match o.guard with
 | some (g,_)=>match(a[g]?).bind (·.dst) with|some d=>[d]|none=>[]
 | none=>[]
def ED(a:Array Oper)(o:Oper):List Nat:=PY a o++tmpsOf (ir o.op)
def zE(o:Oper)(k:Nat):Bool:=match o.guard with|some (g,_)=>!Nat.beq g k|none=>true
def B3(a:Array Oper)(i j:Nat)(x y:Oper)(f g:Fp):Bool :=
 !f.KF&&!g.KF&&aaG f.wr g.rd&&aaG g.wr f.rd&&zE x j&&zE y i &&
 (match x.dst with|some d=>!dc (ED a y) d&&(match y.dst with|some e=>!Nat.beq d e|none=>true)|none=>true) &&
 (match y.dst with|some e=>!dc (ED a x) e|none=>true)
def EE(a:Array Oper)(i:Nat)(o:Oper)(f:Fp)(m:Nat):List Uf->Bool
 | []=>true
 | (k,ok,b,_)::r=>(Nat.testBit m k||B3 a k i ok o b f)&&EE a i o f m r
def kA(i:Nat)(a:Nat->Bool):Nat->Bool:=λk=>Nat.beq k i||a k
def xq(a:Array Oper):List (Nat×Oper)->List Uf->St->(Nat->Bool)->Tree St
 | [],_,σ,_=>.ret σ
 | (i,o)::r,done,σ,b =>
   let f:=B2 cx nb o σ
   let m:=mask done o
   bif EE a i o f m done&&(o.after.all λe=>!Region.binds .any e||Nat.blt e.on i) then
    match o.guard with
    | none=>(jk cx nb bf inl f o σ).bind λσ=>xq a r ((i,o,f,m)::done) σ b
    | some (g,want)=>match(a[g]?).bind (·.dst) with
      | none=>.fail
      | some dg=>bif b g then xq a r ((i,o,f,m)::done) (σ.bu o.dst .undef) (kA i b)
        else match σ.bh dg with
         | .data .bool c=>.node c
          (bif want then(jk cx nb bf inl f o<|σ.put dg<|.data .bool true).bind λσ=>xq a r ((i,o,f,m)::done) σ b
           else xq a r ((i,o,f,m)::done) ((σ.put dg<|.data .bool true).bu o.dst .undef) (kA i b))
          (bif want then xq a r ((i,o,f,m)::done) ((σ.put dg<|.data .bool false).bu o.dst .undef) (kA i b)
           else(jk cx nb bf inl f o<|σ.put dg<|.data .bool false).bind λσ=>xq a r ((i,o,f,m)::done) σ b)
         | _=>.fail
   else .fail
def oR:List Oper->Bool
 | []=>true
 | o::r=>(match o.dst with|some d=>!dc (Hu r) d|none=>true)&&oR r
where Hu:List Oper->List Nat
 | []=>[]
 | o::r=>match o.dst with|some d=>d::Hu r|none=>Hu r
def Ug(a:Array Oper):Option (Nat×Ty):=match a.back? with
 | some o=>match o.dst,find cx.T o.type with
   | some d,aa t=>bif dc bf (8700000+d) then aa (d,t) else af
   | _,_=>af
 | none=>af
def zF(a:Array Oper)(b:St):Tree St :=
 bif a.any λo=>o.guard.isSome then(bif oR a.toList then(match Ug cx bf a with
  | none=>xq cx nb bf inl a (number 0 a.toList) [] b (λ_=>false)
  | some (d,t)=>((xq cx nb bf inl a (number 0 a.toList) [] b.gC λ_=>false).bind λτ=>match toD t (cW τ<|.tmp d) with
    | some x=>.ret x
    | none=>.fail).join λx=>.ret ((b.undef<|number 0 a.toList).bu (aa d)<|.data t x)) else .fail)
 else Lv cx nb bf inl (number 0 a.toList) [] b
end
def rounds{S R:Type}(f:S->Option (S⊕R)):Nat->S->Option R
 | 0,_=>af
 | n+1,s=>(f s).bind λx=>match x with|.inl s=>rounds f n s|.inr r=>aa r
def IY{S R}{f:S->Option (S⊕R)}:∀{n s r},rounds f n s=aa r->∀m,n<=m->rounds f m s=aa r:=by
 intro n;induction n with
 | zero=>intro s r h;cases h
 | succ n b =>
   intro s r h m c;obtain⟨k,rfl⟩:∃k,m=k+1:=⟨m-1,ah⟩;simp only[rounds] at h⊢;cases a:f s with
   | none=>rw[a] at h;cases h
   | some x =>
     grind
open Classical in
def Uh{S R:Type}(f:S->Option (S⊕R))(s:S):Option R :=
 if h:∃n r,rounds f n s=aa r then aa (Classical.choose<|Rm h) else af
def Bm{S R}{f:S->Option (S⊕R)}{n s r}(h:rounds f n s=aa r):Uh f s=aa r:=by
 have c:∃n r,rounds f n s=aa r:=⟨n,r,h⟩;unfold Uh;have a:=IY h (max n<|Classical.choose c) ah;have b:=IY (Rm<|Rm c) (max n<|Classical.choose c) ah
 grind
class Lp where
 loop:{S R:Type}->(S->Option (S⊕R))->S->Option R
 ok:∀{S R:Type} (f:S->Option (S⊕R)) (s:S),loop f s=Uh f s
def Lp.one(i j:Lp):i=j:=by
 obtain⟨l,h⟩:=i;obtain⟨m,k⟩:=j;have:@l=@m:=by funext S R f s;rw[h,k]
 grind
@[reducible] noncomputable def Lp.JQ:Lp where
 loop:=λf s=>match rounds f 100000 s with|some r=>aa r|none=>Uh f s
 ok:=λf s=>by
  generalize 100000=k;cases a:rounds f k s with
  | some r=>exact(Bm a).symm
  | none=>rfl
section
variable [Lp]
def Loop{S R:Type}(f:S->Option (S⊕R))(s:S):Option R:=Lp.loop f s
def sg{S R}{f:S->Option (S⊕R)}{n s r}(h:rounds f n s=aa r):Loop f s=aa r:=(Lp.ok f s).trans (Bm h)
def si{S R}{f:S->Option (S⊕R)}{s r}(h:Loop f s=aa r):∃n,rounds f n s=aa r:=by
 replace h:=(Lp.ok f s).symm.trans h;unfold Uh at h;split at h
 .grind
 .cases h
def aN{S R}(f:S->Option (S⊕R)) s:Loop f s=(f s).bind λx=>match x with|.inl s=>Loop f s|.inr r=>aa r:=by
 cases c:f s with
 | none =>
   cases b:Loop f s with
   | none=>rfl
   | some r =>
     obtain⟨n,a⟩:=si b;cases n with
     | zero=>cases a
     | succ n=>simp[rounds,c] at a
 | some x =>
   cases x with
   | inr r=>exact sg (n:=1) (by simp[rounds,c])
   | inl e =>
     show Loop f s=Loop f e
     cases b:Loop f e with
     | some r =>
       obtain⟨n,a⟩:=si b;exact sg (n:=n+1) (by simp[rounds,c,a])
     | none =>
       cases d:Loop f s with
       | none=>rfl
       | some r =>
         obtain⟨n,a⟩:=si d;cases n with
         | zero=>cases a
         | succ n =>
           simp[rounds,c] at a;rw[sg a] at b;cases b
end
inductive Sh where
 | d (t:Ty)
 | k (v:cp)
 | m (a b:Sh)
def Sh.ty:Sh->Ty
 | .d t=>t
 | .k _=>.unit
 | .m a b=>.pair a.ty b.ty
def KG:List Sel->List Sel->Bool
 | [],[]=>true
 | .gz k o::p,.gz a b::q=>Nat.beq k a&&Nat.beq o b&&KG p q
 | _,_=>false
def KH:List (Nat×Nat)->List (Nat×Nat)->Bool
 | [],[]=>true
 | (a,b)::r,(c,d)::s=>Nat.beq a c&&Nat.beq b d&&KH r s
 | _,_=>false
def W0:∀{p q},KG p q=true->p=q:=by
 intro p;induction p with
 | nil=>intro q h;cases q<;>first|rfl|cases h
 | cons s p a =>
   intro q h;cases s with
   | idx i n=>cases q<;>cases h
   | gz k o =>
     cases q with
     | nil=>cases h
     | cons b q =>
       cases b with
       | idx i n=>cases h
       | gz c d =>
         simp only[KG,gw] at h;rw[gx h.1.1,gx h.1.2,a h.2]
def W1:∀{p q},KH p q=true->p=q:=by
 intro p;induction p with
 | nil=>intro q h;cases q<;>first|rfl|cases h
 | cons s p c =>
   intro q h;obtain⟨a,b⟩:=s;cases q with
   | nil=>cases h
   | cons d q =>
     simp only[KH,gw] at h;rw[gx h.1.1,gx h.1.2,c h.2]
def FG(V:Nat->Bool->Bool)(d g:St):cp->cp->Bool
 | .ptr b v p,.ptr e a h=>Nat.beq b e&&KG p h&&(bif V b false then(match d.mem b,g.mem b with|some x,aa y=>Nat.beq x.aP v&&Nat.beq y.aP a|_,_=>false) else Nat.beq v a)
 | .whole b v,.whole e a=>Nat.beq b e&&(match d.mem b,g.mem b with|some x,aa y=>Nat.beq x.aP v&&Nat.beq y.aP a&&y.buf|_,_=>false)
 | .fn f c,.fn i j=>Nat.beq f i&&KH c j
 | .vd,.vd=>true
 | .ve,.ve=>true
 | .yr b v,.yr e a=>Nat.beq b e&&Nat.beq v a
 | _,_=>false
def ago:cp->Sh
 | .data t _=>.d t
 | .mix a b=>.m (ago a) (ago b)
 | v=>.k v
def Sh.out(V:Nat->Bool->Bool)(c e:St):(s:Sh)->cp->Option s.ty.den
 | .d t,v=>toD t v
 | .k u,v=>bif FG V c e u v then aa () else af
 | .m a b,.mix v w=>match Sh.out V c e a v,Sh.out V c e b w with
   | some x,aa y=>aa (x,y)
   | _,_=>af
 | .m _ _,_=>af
def bump(M:Nat->Bool)(V:Nat->Bool->Bool):cp->cp
 | .whole b v=>bif M b&&V b true then .whole b (v+1) else .whole b v
 | .ptr b v p=>bif M b&&V b false then .ptr b (v+1) p else .ptr b v p
 | v=>v
def Sh.rZ(M:Nat->Bool)(V:Nat->Bool->Bool):(s:Sh)->s.ty.den->cp
 | .d t,x=>.data t x
 | .k v,_=>bump M V v
 | .m a b,x=>.mix (a.rZ M V x.1) (b.rZ M V x.2)
structure Ry where
 S:List (Nat×Nat)
 M:List Nat
 fz:Bool
structure FH where
 marks:List (Option Ry)
 aiu:List Nat
structure Carry where
 S:List (Nat×Sh)
 M:List (Nat×Sh×Box)
 V:Nat->Bool->Bool
def tyS:List (Nat×Sh)->Ty
 | []=>.unit
 | (_,s)::r=>.pair s.ty (tyS r)
def tyM:List (Nat×Sh×Box)->Ty
 | []=>.unit
 | (_,s,_)::r=>.pair s.ty (tyM r)
def Carry.ty(c:Carry):Ty:=.pair (tyS c.S) (tyM c.M)
def agp(V:Nat->Bool->Bool)(a b:St):(l:List (Nat×Sh))->Option (tyS l).den
 | []=>aa ()
 | (i,s)::r=>match Sh.out V a b s (b.bh i),agp V a b r with
   | some x,aa y=>aa (x,y)
   | _,_=>af
def IZ(c d:Bool)(a b:Box):Bool:=(c||(a.ro==b.ro))&&Nat.beq a.tid b.tid&&(a.buf==b.buf)&&(d||Nat.beq a.aP b.aP)
def agq(V:Nat->Bool->Bool)(d:Bool)(a c:St):(l:List (Nat×Sh×Box))->Option (tyM l).den
 | []=>aa ()
 | (i,s,b)::r=>match c.mem i with
   | some e=>bif IZ d (V i b.buf) e b then(match Sh.out V a c s e.val,agq V d a c r with
     | some x,aa y=>aa (x,y)
     | _,_=>af) else af
   | none=>af
def Carry.out(c:Carry)(fz:Bool)(a b:St):Option c.ty.den :=
 match agp c.V a b c.S,agq c.V fz a b c.M with
 | some x,aa y=>aa (x,y)
 | _,_=>af
def Rz(M:Nat->Bool)(V:Nat->Bool->Bool):(l:List (Nat×Sh))->(tyS l).den->Nat->Option cp
 | [],_,_=>af
 | (i,s)::r,x,t=>bif Nat.beq t i then aa (s.rZ M V x.1) else Rz M V r x.2 t
def Lw(fz:Bool)(M:Nat->Bool)(V:Nat->Bool->Bool):(l:List (Nat×Sh×Box))->(tyM l).den->Nat->Option Box
 | [],_,_=>af
 | (i,s,b)::r,x,t=>bif Nat.beq t i then aa { b with val:=s.rZ M V x.1,ro:=b.ro||fz,aP:=bif V t b.buf then b.aP+1 else b.aP } else Lw fz M V r x.2 t
def DX:List (Nat×Sh×Box)->Nat->Bool
 | [],_=>false
 | (i,_,_)::r,t=>Nat.beq t i||DX r t
def Carry.rZ(c:Carry)(fz lock:Bool)(e:List Nat)(a:St)(x:c.ty.den):St :=
 { bh:=λt=>match Rz (DX c.M) c.V c.S x.1 t with
    | some v=>v
    | none=>bif dc e t then .undef else a.bh t
   mem:=λb=>match Lw fz (DX c.M) c.V c.M x.2 b with
    | some d=>aa d
    | none=>match a.mem b with
      | some d=>aa { d with lk:=d.lk||lock }
      | none=>af }
def settle:List (Nat×Sh)->St->Option St
 | [],σ=>aa σ
 | (i,.d t)::r,σ=>match BZ σ t (σ.bh i) with
   | some (x,σ)=>settle r (σ.put i<|.data t x)
   | none=>af
 | _::r,σ=>settle r σ
def Carry.Lx(c:Carry)(fz:Bool)(a b:St):Option c.ty.den :=
 bif fz then(match settle c.S b with
  | some b=>c.out true a b
  | none=>af)
 else c.out false a b
def Carry.lock(c:Carry)(σ:St):St :=
 { σ with mem:=λb=>match σ.mem b with
  | some a=>aa (bif DX c.M b then a else { a with lk:=true })
  | none=>af }
def sj:List Oper->List Nat
 | []=>[]
 | o::r=>match o.dst with|some d=>d::sj r|none=>sj r
def writes:Code->List Nat
 | .region _ ops _=>sj ops.toList
 | .seq a b=>writes a++writes b
 | .cond _ a b=>writes a++writes b
 | .block _ a=>writes a
 | .loop a=>writes a
 | .scope a=>writes a
 | _=>[]
def vT:Code->List Nat
 | .seq a b=>vT a++(vT b).filter λe=>!dc (vT a) e
 | .cond _ a b=>vT a++(vT b).filter λe=>!dc (vT a) e
 | .block i a=>(vT a).filter λe=>!Nat.beq e (i+2)
 | .loop a=>vT a
 | .scope a=>vT a
 | .ret=>[1]
 | .exit i=>[i+2]
 | _=>[]
def marks:Code->Nat
 | .seq a b=>marks a+marks b
 | .cond _ a b=>marks a+marks b+1
 | .block _ a=>marks a
 | .loop a=>marks a+1
 | .scope a=>marks a
 | _=>0
def JR:List Nat->Nat->Option Nat
 | [],_=>af
 | e::r,k=>bif Nat.beq e k then aa 0 else(JR r k).map (·+1)
def W2:List Nat->List Nat->List Nat
 | [],l=>l
 | b::r,l=>bif dc l b then W2 r l else W2 r (l++[b])
section
variable (cx:Ctx)
def mkS(a:St):List (Nat×Nat)->Option (List<|Nat×Sh)
 | []=>aa []
 | (i,ty)::r=>match mkS a r with
   | none=>af
   | some l=>bif Nat.beq ty 999999 then(match a.bh i with
     | .whole b v=>aa ((i,.k (.whole b v))::l)
     | _=>aa l) else match a.bh i with
     | .data t _=>aa ((i,.d t)::l)
     | .undef|.p7=>match find cx.T ty with
       | some t=>aa ((i,.d t)::l)
       | none=>af
     | v=>aa ((i,.k v)::l)
def C7(a:St):List Nat->List Nat
 | []=>[]
 | b::r=>(match a.mem b with|some d=>(match d.val with|.mix u v=>zC a (.mix u v)|.whole c _=>[c]|.fn f c=>zC a (.fn f c)|_=>[])|none=>[])++C7 a r
def RA(a:St):List Nat->List Nat
 | []=>[]
 | i::r =>
   let r0:=zC a (a.bh i)
   let r1:=C7 a r0
   let r2:=C7 a r1
   W2 (r0++(r1++(r2++C7 a r2))) (RA a r)
def adA:cp->Bool
 | .mix a b=>adA a||adA b
 | .fn ..=>true
 | .undef=>true
 | _=>false
def ah2(a:Box):Bool:=a.lk||(match a.val with|.mix (.data _ _) b=>adA b|_=>false)
def mkM(c:St):List Nat->Option (List<|Nat×Sh×Box)
 | []=>aa []
 | b::r=>match c.mem b,mkM c r with
   | some a,aa l=>bif ah2 a then aa l else aa ((b,ago a.val,a)::l)
   | _,_=>af
def aiv:cp->Option Nat
 | .whole b _=>aa b
 | .part b _ _ _=>aa b
 | _=>af
def FI:List Nat->St->Option St
 | [],σ=>aa σ
 | m::r,σ=>bif Nat.ble 2000000 m then(match aiv (σ.bh<|m-2000000) with
  | some b=>match σ.mem b with
    | some a=>match a.val with
      | .data (.slice e) _=>match BZ σ (.slice e) (σ.bh<|m-2000000) with
        | some (x,σ)=>FI r (σ.put (m-2000000)<|.data (.slice e) x)
        | none=>af
      | _=>af
    | none=>af
  | none=>FI r σ) else FI r σ
def aj7(a:Nat)(c:List Nat)(d:St)(b:Nat):Bool:=dc (c.map (a+·)) b&&(match d.mem b with|some x=>!x.buf&&!sb x.val|none=>false)
def KI(d:Nat)(e:List Nat)(a:St)(p:Ry):Option Carry :=
 match mkS cx a p.S,mkM a (RA a p.M) with
 | some s,aa m=>aa ⟨s,m,λb c=>bif c then !dc p.M 3999999 else aj7 d e a b⟩
 | _,_=>af
variable (nb:Nat) (bf:List Nat) (inl:Nat->List cp->St->Tree (cp×St))
def FJ{a:Type}:List Nat->Nat->(Nat->Tree a)->Tree a
 | [],_,_=>.fail
 | [e],_,f=>f e
 | e::r,i,f=>.node (cl i 0) (f e) (FJ r (i-1) f)
variable [Lp]
def again{S:Type}(f:S->Tree (Nat×S)):Nat->S->Tree (Nat×S)
 | 0,_=>.fail
 | n+1,s=>(f s).bind λr=>bif Nat.beq r.1 0 then again f n r.2 else .ret r
def W3(p:Ry):Option Nat:=match p.M with
 | [m]=>bif Nat.ble 6000000 m then aa (m-6000000) else af
 | _=>af
def Hv(f:St->Tree (Nat×St))(c:Nat):Nat->Nat->St->Tree (Nat×St)
 | 0,_,_=>.fail
 | n+1,j,σ=>match σ.bh c with
   | .data (.int .i64) x=>.ju (aG x j) ((f<|σ.put c<|.data (.int .i64) (j:Int)).bind λr=>bif Nat.beq r.1 0 then Hv f c n (j+1) r.2 else .ret r)
   | _=>.fail
def js:Code->List (Option Ry)->St->Tree (Nat×St)
 | .skip,_,σ=>.ret (0,σ)
 | .label _,_,σ=>.ret (0,σ)
 | .ret,_,σ=>.ret (1,σ)
 | .exit i,_,σ=>.ret (i+2,σ)
 | .region _ ops f,_,σ=>(bif f then zF cx nb bf inl ops σ else Lu cx nb bf inl ops σ).bind λσ=>.ret (0,σ)
 | .seq a b,pl,σ=>(js a pl σ).bind λr=>bif Nat.beq r.1 0 then js b (pl.drop<|marks a) r.2 else .ret r
 | .block i a,pl,σ=>(js a pl σ).bind λr=>.ret (bif Nat.beq r.1 (i+2) then 0 else r.1,r.2)
 | .scope a,pl,σ=>js a pl σ
 | .cond c a b,pl,σ=>match cW σ c,pl with
   | .data .bool c,none::pl=>.node c (js a pl σ) (js b (pl.drop<|marks a) σ)
   | .data .bool c,aa p::pl=>match FI p.M σ with
    | none=>.fail
    | some σ=>match KI cx nb bf σ p with
     | none=>.fail
     | some k =>
       let t:=Tree.node c (js a pl<|k.lock σ) (js b (pl.drop<|marks a)<|k.lock σ)
       let wr:=writes a++writes b
       match vT a++(vT b).filter (λe=>!dc (vT a) e) with
       | []=>(t.bind λr=>bif Nat.beq r.1 0 then Tree.adu (k.Lx p.fz σ r.2) else .fail).join λx=>.ret (0,k.rZ p.fz false wr σ x)
       | es=>(t.bind λr=>match JR (0::es) r.1,k.Lx p.fz σ r.2 with
        | some i,aa x=>.ret (i,x)
        | _,_=>.fail).join λx=>FJ (0::es) x.1 λe=>.ret (e,k.rZ p.fz false wr σ x.2)
   | _,_=>.fail
 | .loop a,pl,σ=>match pl with
   | some p::pl=>match W3 p with
    | some c=>Hv (λσ=>js a pl σ) c 100 0 σ
    | none=>match FI p.M σ with
    | none=>.fail
    | some σ=>match KI cx nb bf σ p with
     | none=>.fail
     | some k=>match k.out false σ σ with
       | none=>.fail
       | some d =>
         let wr:=writes a
         let es:=vT a
         let body (x:k.ty.den):Option (k.ty.den⊕(Nat×k.ty.den)):=((js a pl<|k.rZ false true wr σ x).bind λr=>bif Nat.beq r.1 0 then(match k.out false σ r.2 with
           | some y=>.ret (.inl y)
           | none=>.fail)
          else match JR es r.1,k.Lx p.fz σ r.2 with
           | some i,aa y=>.ret (.inr (i,y))
           | _,_=>.fail).run
         match es with
         | [e]=>.look (Loop (λx=>cq (body x)) d) λx=>.ret (e,k.rZ p.fz false wr σ x)
         | es=>.look (Loop body d) λx=>FJ es x.1 λe=>.ret (e,k.rZ p.fz false wr σ x.2)
   | none::pl=>again (λσ=>js a pl σ) 100000 σ
   | _=>.fail
 | _,_,_=>.fail
end
variable [Lp]
def yu(mem:Nat->Option Box)(a:List cp):St:={ bh:=λt=>(a[t]?).getD .undef,mem }
def Hw(c:Ctx)(b:St):ResultVar->Tree cp
 | .tmp t=>.ret (b.bh t)
 | .cell a ty=>(mx c (aa 0) ty (b.bh a) b).bind λτ=>.ret (τ.bh 0)
def FK(a:Ctx)(b:St):List ResultVar->Tree cp
 | []=>.ret .nl
 | r::rs=>(Hw a b r).bind λv=>(FK a b rs).bind λl=>.ret (.mix v l)
def results1(a:Ctx)(b:St):List ResultVar->Tree cp
 | [r]=>Hw a b r
 | rs=>(FK a b rs).bind λl=>.ret (.BR l)
def gX(mem:Nat->Option Box):St:={ bh:=λ_=>.undef,mem }
def ah3(a:Ctx):List TypeId->Option (List Ty)
 | []=>aa []
 | t::r=>match find a.T t,ah3 a r with
   | some u,aa l=>aa (u::l)
   | _,_=>af
def adB(b:Ctx)(a:List TypeId):List Nat->Option (Bool×List Ty)
 | []=>af
 | m::r=>bif Nat.ble 7000000 m&&Nat.ble m 7999999 then(bif Nat.beq m 7999999 then(ah3 b a).map λl=>(true,l) else(find b.T<|m-7000000).map λR=>(false,[R])) else adB b a r
def spread(a:Bool)(v:cp):Nat->cp :=
 match a,v with
 | false,v=>λt=>bif Nat.beq t 0 then v else .undef
 | true,.BR m=>λt=>match nth m t with|some u=>u|none=>.undef
 | true,_=>λ_=>.undef
def RB:cp->Nat
 | .mix _ b=>RB b+1
 | _=>0
def Ui(a:Bool)(v:cp)(n:Nat):Bool :=
 match a,v with
 | false,_=>Nat.beq n 1
 | true,.BR m=>Nat.beq (RB m) n
 | true,_=>false
def aiw(a:Nat->cp):Nat->Nat->cp
 | _,0=>.nl
 | i,n+1=>.mix (a i) (aiw a (i+1) n)
def RC(b:Bool)(n:Nat)(a:Nat->cp):cp :=
 match b with
 | false=>a 0
 | true=>.BR (aiw a 0 n)
def adC(a:Bool)(v:cp)(mem:Nat->Option Box):St:={ bh:=spread a v,mem }
def Zm:List Ty->Nat->List (Nat×Sh)
 | [],_=>[]
 | t::r,i=>(i,.d t)::Zm r (i+1)
def W4:cp->cp
 | .whole _ _=>.undef
 | .mix a b=>.mix (W4 a) (W4 b)
 | v=>v
def FL:cp->List cp
 | .mix a b=>a::FL b
 | _=>[]
def zG:(R:Ty)->cp->List cp
 | .pair _ .unit,v=>[v]
 | _,.BR v=>FL v
 | _,v=>[v]
def chT:List Ty->Ty
 | t::r=>.pair t (chT r)
 | []=>.unit
def adD(R:List Ty)(F:(Nat->Option Box)->Tree (cp×(Nat->Option Box)))(a:Nat->Option Box):Tree (cp×(Nat->Option Box)) :=
 (F a).bind λr=>match gB (gX r.2) (chT R) (zG (chT R) r.1) with
  | some (y,σ)=>.ret (r9 (chT R) y,σ.mem)
  | none=>.fail
def Zn(R:Bool×List Ty)(args:List cp)(a:Nat->Option Box)(F:(Nat->Option Box)->Tree (cp×(Nat->Option Box))):Tree (cp×(Nat->Option Box)) :=
 match mkM (gX a) (RA (yu a<|args.map W4)<|List.range args.length) with
 | none=>.fail
 | some m =>
   let k:Carry:=⟨Zm R.2 0,m,λ_ b=>b⟩
   let wr:=List.range R.2.length
   ((F (k.lock<|gX a).mem).bind λr=>bif Ui R.1 r.1 R.2.length then Tree.adu (k.out false (gX a)<|adC R.1 r.1 r.2) else .fail).join λx =>
    .ret (RC R.1 R.2.length (k.rZ false false wr (gX a) x).bh,(k.rZ false false wr (gX a) x).mem)
def Ly(d:Ctx)(e:Nat)(p:FH)(inl:Nat->List cp->St->Tree (cp×St))(f:Func)(c:Code)(a:List cp)(b:Nat->Option Box):Tree (cp×(Nat->Option Box)) :=
 (js d e p.aiu inl c p.marks<|yu b a).bind λr =>
  bif Nat.beq r.1 0||Nat.beq r.1 1 then(results1 d r.2 f.results.toList).bind λv=>.ret (v,r.2.mem) else .fail
def D6(a:Ctx):Nat->(nb:Nat)->(gY:Nat->FH)->Nat->List cp->(Nat->Option Box)->Tree (cp×(Nat->Option Box))
 | 0,_,_,_,_,_=>.fail
 | n+1,nb,gY,f,args,mem=>match find a.fns f with
   | some fn=>match fn.body with
     | some c=>match adB a fn.resultTypes.toList (gY f).aiu with
       | none=>Ly a nb (gY f) (λg b σ=>(D6 a n ((nb+g+1)*1000) gY g b σ.mem).bind λr=>.ret (r.1,{ σ with mem:=r.2 })) fn c args mem
       | some R=>Zn R args mem (adD R.2<|Ly a nb (gY f) (λg b σ=>(D6 a n ((nb+g+1)*1000) gY g b σ.mem).bind λr=>.ret (r.1,{ σ with mem:=r.2 })) fn c args)
     | none=>.fail
   | none=>.fail
def EF:(A:Ty)->A.den->List cp
 | .pair t r,x=>.data t x.1::EF r x.2
 | _,_=>[]
def eZ(k:Nat):Nat:=777000000+k
def I0:List Bool->(A U:Ty)->A.den->Nat->List cp
 | [],_,_,_,_=>[]
 | false::ps,A,U,x,k=>match A,x with
   | .pair t A,x=>.data t x.1::I0 ps A U x.2 k
   | _,_=>[]
 | true::ps,A,U,x,k=>match U with
   | .pair _ U=>.ptr (eZ k) 0 []::I0 ps A U x (k+1)
   | _=>[]
def Hy:(U:Ty)->U.den->Nat->Nat->Option Box
 | .pair t U,u,k,b=>bif Nat.beq b (eZ k) then aa { val:=.data t u.1,tid:=0,buf:=false,ro:=false,lk:=false,aP:=0 } else Hy U u.2 (k+1) b
 | _,_,_,_=>af
def FM(a:Nat->Option Box):(U:Ty)->Nat->Option U.den
 | .pair t U,k=>match a (eZ k) with
   | some b=>bif Nat.beq b.aP 0&&!b.buf&&!b.ro then(match toS t b.val,FM a U (k+1) with
     | some x,aa u=>aa (x,u)
     | _,_=>af) else af
   | none=>af
 | .unit,_=>aa ()
 | _,_=>af
def aj8(b:Ctx)(n:Nat)(a:Nat->FH)(f:Nat)(c:List Bool)(A U R:Ty)(x:A.den×U.den):Option (R.den×U.den) :=
 ((D6 b n 0 a f (I0 c A U x.1 0)<|Hy U x.2 0).bind λr=>match gB (gX r.2) R (zG R r.1) with
  | some (y,σ)=>(match FM σ.mem U 0 with
    | some u=>.ret (y,u)
    | none=>.fail)
  | none=>.fail).run
def jN:Nat:=776000000
def LA:Ty->Nat->List (Nat×Nat)
 | .pair _ U,k=>(eZ k,0)::LA U (k+1)
 | _,_=>[]
def W5(T F:Nat)(t U:Ty)(r:t.den):Box:={ val:=.mix (.data t r) (.mix (.fn F<|LA U 0)<|.data .unit ()),tid:=T,buf:=false,ro:=false,lk:=true,aP:=0 }
def RD(T F:Nat)(t U:Ty)(r:t.den)(u:U.den)(b:Nat):Option Box:=bif Nat.beq b jN then aa (W5 T F t U r) else Hy U u 0 b
def aj9(b:Ctx)(n:Nat)(a:Nat->FH)(f:Nat)(T F:Nat)(t A U R:Ty)(x:(t.den×A.den)×U.den):Option (R.den×U.den) :=
 ((D6 b n 0 a f (.ptr jN 0 []::EF A x.1.2)<|RD T F t U x.1.1 x.2).bind λr=>match gB (gX r.2) R (zG R r.1) with
  | some (y,σ)=>(match FM σ.mem U 0 with
    | some u=>.ret (y,u)
    | none=>.fail)
  | none=>.fail).run
def sem(b:Ctx)(n:Nat)(a:Nat->FH)(f:Nat)(A R:Ty)(x:A.den):Option R.den :=
 ((D6 b n 0 a f (EF A x) λ_=>af).bind λr=>match jj (gX r.2) R (zG R r.1) with
  | some y=>.ret y
  | none=>.fail).run
end Go.Ge
