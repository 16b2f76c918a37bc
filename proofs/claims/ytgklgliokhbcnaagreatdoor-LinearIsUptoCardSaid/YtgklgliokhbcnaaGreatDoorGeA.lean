import Derived.WalkKit
set_option linter.unusedVariables false
set_option linter.unusedSectionVars false
set_option linter.unusedSimpArgs false
set_option linter.defProp false
open Option renaming some->aa,none->af
def ah{p:Prop}(h:p:=by omega):p:=h
def aF{p:Prop}(h:p:=by decide):p:=h
def aT{p:Prop}(h:p:=by simp):p:=h
def cR{p:Prop}(h:p:=by simp;omega):p:=h
def y5{p:Prop}(h:p:=by dsimp only;omega):p:=h
def cp{p:Prop}(h:p:=by intro k;cases k):p:=h
def Cu{p:Prop}(h:p:=by intro x k;cases k):p:=h
abbrev bb:=List UInt8
abbrev aj:=Unit
abbrev aI:=@Option.some.inj
abbrev cf:=@decide_eq_false
abbrev aK:=@if_neg
abbrev aQ:=@if_pos
abbrev ft:=@List.getElem?_eq_getElem
abbrev cW:=@decide_eq_true
abbrev gP:=@Nat.eq_of_beq_eq_true
abbrev iU:=@List.length_append
abbrev gO:=@Bool.and_eq_true
abbrev eX:=@Prod.mk.inj
abbrev dw:=@List.length_take
abbrev eG:=@List.mem_of_getElem?
abbrev b0:=@Nat.le_refl
abbrev iQ:=@List.getElem?_eq_some_iff
abbrev fy:=@of_decide_eq_true
abbrev ic:=@Nat.mul_le_mul_right
abbrev gG:=@decide_eq_decide
abbrev kn:=@List.getElem?_take
abbrev fA:=@List.mem_cons
abbrev iV:=@List.length_cons
abbrev fB:=@Nat.le_trans
abbrev xU:=@Array.getElem?_eq_some_iff
abbrev wD:=@List.head_eq_of_cons_eq
abbrev rU:=@List.mem_cons_self
abbrev Cm:=@List.takeWhile_append_dropWhile
abbrev iW:=@Nat.add_mul
abbrev rV:=@List.length_drop
abbrev zI:=@List.length_eq_zero_iff
abbrev qv:=@List.length_nil
abbrev wZ:=@List.mem_cons_of_mem
abbrev vM:=@List.getElem?_drop
abbrev uB:=@Int.toNat_natCast
abbrev Cn:=@Classical.byContradiction
abbrev Cv:=@List.drop_eq_getElem_cons
abbrev Co:=@Option.bind_eq_some_iff
abbrev xV:=@of_decide_eq_false
abbrev uC:=@List.append_nil
abbrev xW:=@List.append_assoc
abbrev xX:=@List.take_add_one
abbrev w8:=@List.all_eq_true
abbrev pq:=@Nat.zero_le
abbrev Ai:=@Nat.lt_of_lt_of_le
abbrev xY:=@Nat.min_eq_left
abbrev zJ:=@List.take_length
abbrev ug:=@Nat.lt_or_ge
abbrev Ev:=@List.getElem?_eq_none
abbrev Gm:=@Bool.eq_false_or_eq_true
abbrev Fm:=@Option.map_eq_some_iff
abbrev A6:=@decide_eq_true_eq
abbrev Ew:=@List.mem_append_left
abbrev Ex:=@List.mem_of_mem_take
abbrev zK:=@List.length_map
abbrev uh:=@Int.le_refl
abbrev Gn:=@List.drop_of_length_le
abbrev Aj:=@List.mem_filter
abbrev Gp:=@List.take_append_drop
abbrev KD:=@Option.isSome_iff_exists
abbrev Ey:=@List.mem_singleton
abbrev Ez:=@Bool.not_eq_true'
abbrev Cw:=@Array.toList_inj
abbrev A7:=@List.drop_drop
abbrev KE:=@List.take_of_length_le
abbrev KF:=@Nat.le_of_ble_eq_true
abbrev KG:=@List.mem_append_right
abbrev Gq:=@List.pairwise_cons
abbrev Ya:=@List.findIdx?_eq_some_iff_getElem
abbrev Ss:=@List.pairwise_iff_getElem
abbrev EA:=@List.drop_zero
abbrev Mf:=@List.filter_eq_self
abbrev xZ:=@cond_true
abbrev Cx:=@Nat.zero_add
abbrev KH:=@List.ext_getElem?
abbrev KI:=@List.getElem?_map
abbrev Fo:=@Nat.add_assoc
abbrev Ps:=@List.getElem?_range
abbrev Su:=@Classical.choose_spec
abbrev Yb:=@Array.getD_eq_getD_getElem?
abbrev Sv:=@List.length_singleton
abbrev Mg:=@Option.some.injEq
abbrev Mh:=@List.size_toArray
abbrev Cp:=@cond_false
abbrev Sw:=@List.getElem?_append
abbrev Sx:=@Bool.or_eq_false_iff
abbrev abQ:=@List.find?_eq_some_iff_getElem
abbrev Mi:=@List.cons_append
abbrev abR:=@List.drop_append_of_le_length
abbrev Cy:=@Nat.mod_lt
abbrev Mj:=@List.nil_append
abbrev Mk:=@Bool.or_eq_true
abbrev Ml:=@List.drop_left
abbrev Mm:=@List.mem_range
abbrev Sy:=@List.length_range
abbrev Pu:=@Bool.eq_iff_iff
abbrev Pv:=@List.mem_append
abbrev ad9:=@List.take_append_of_le_length
abbrev KJ:=@Nat.succ_mul
abbrev Sz:=@List.mem_flatMap
abbrev UJ:=@List.find?_eq_none
abbrev Pw:=@List.take_take
abbrev UK:=@Option.bind_some
abbrev JP:=@List.any_eq_true
abbrev JQ:=@List.drop_length
abbrev QL:=@List.mem_iff_getElem?
abbrev UL:=@List.getElem?_append_left
abbrev UM:=@List.mem_of_find?_eq_some
abbrev EO:=@Nat.le_of_eq
abbrev QM:=@List.mem_of_mem_drop
abbrev Mn:=@Nat.lt_trichotomy
abbrev UN:=@Int.eq_ofNat_of_zero_le
abbrev QN:=@List.length_reverse
abbrev UO:=@Array.getElem?_eq_none
abbrev Gr:=@Nat.add_zero
abbrev QO:=@decide_eq_true_iff
abbrev UP:=@Array.getElem?_modify
abbrev UQ:=@List.length_filter_le
abbrev UR:=@List.dropLast_eq_take
abbrev aai:=@List.findIdx?_eq_none_iff
abbrev Gs:=@Nat.mul_one
abbrev y9:=@if_true
abbrev US:=@Array.length_toList
abbrev UT:=@List.dropWhile_cons
abbrev UU:=@List.length_pos_iff
abbrev QP:=@Option.map_some
abbrev aaj:=@List.length_eq_one_iff
abbrev UW:=@Nat.le_succ_of_le
abbrev aak:=@Nat.div_lt_iff_lt_mul
abbrev Mo:=@List.mem_map
abbrev aal:=@List.eq_nil_or_concat
abbrev aea:=@List.take_length_add_append
abbrev UX:=@Nat.lt_succ_self
abbrev aeb:=@List.getElem?_append_right
abbrev aam:=@Array.toList_append
abbrev aan:=@List.map_congr_left
abbrev aao:=@List.takeWhile_cons
abbrev aap:=@List.take_succ_cons
abbrev UY:=@Nat.div_add_mod
abbrev UZ:=@UInt8.toNat_inj
abbrev aaq:=@Nat.eq_zero_or_pos
abbrev U0:=@List.take_left
abbrev aec:=@List.getElem?_set_self
abbrev U1:=@Bool.or_assoc
abbrev U2:=@List.map_cons
abbrev aar:=@Nat.lt_of_not_le
abbrev aas:=@List.not_mem_nil
abbrev ai8:=@List.length_filter_eq_length_iff
abbrev aed:=@List.length_replicate
abbrev aee:=@Array.getElem?_toList
abbrev aef:=@Array.mem_of_getElem?
abbrev aeg:=@BitVec.eq_of_toNat_eq
abbrev aeh:=@List.concat_eq_append
abbrev ai9:=@List.mk_mem_zipIdx_iff_getElem?
abbrev U3:=@Nat.mul_comm
abbrev U4:=@Nat.add_comm
abbrev aei:=@Bool.and_eq_true_iff
abbrev aat:=@List.find?_some
abbrev aej:=@List.getElem_of_mem
abbrev aek:=@Int.toNat_of_nonneg
abbrev aau:=@List.drop_take
abbrev aja:=@Array.getElem?_setIfInBounds
abbrev JR:=@Ne.symm
abbrev aav:=@List.mapM_cons
abbrev ajb:=@List.dropLast_concat_getLast
abbrev U5:=@Sum.inl.inj
abbrev U6:=@Nat.sub_mul
abbrev ael:=@BitVec.toNat_ofInt
abbrev aem:=@List.filter_append
abbrev ajc:=@Int.fdiv_eq_ediv_of_nonneg
abbrev ajd:=@Array.getElem?_append_left
abbrev aje:=@List.getD_eq_getElem?_getD
abbrev aen:=@List.flatMap_cons
abbrev aeo:=@List.getElem_take
abbrev ajf:=@List.getElem?_zip_eq_some
abbrev ajg:=@List.getElem?_eq_none_iff
abbrev aep:=@Array.toList_map
abbrev ajh:=@Array.setIfInBounds_comm
abbrev aeq:=@List.filter_cons
abbrev aer:=@List.getElem_mem
abbrev aji:=@List.getElem?_replicate
abbrev ajj:=@List.getElem?_cons_zero
abbrev ajk:=@List.getElem?_cons_succ
abbrev ajl:=@List.filter_cons_of_pos
abbrev aes:=@List.cons.injEq
abbrev aet:=@List.length_set
abbrev aeu:=@List.foldl_cons
abbrev aev:=@List.nodup_cons
abbrev aaw:=@decide_true
abbrev aew:=@List.take_zero
abbrev aex:=@Nat.mul_le_mul
abbrev ajm:=@List.getElem?_toArray
abbrev aey:=@Bool.and_false
abbrev U7:=@and_true
abbrev U8:=@and_self
abbrev U9:=@Eq.trans
abbrev aez:=@List.cons.inj
abbrev aeA:=@Bool.false_or
abbrev aeB:=@List.all_cons
abbrev aeC:=@Bool.and_true
abbrev aeD:=@Nat.beq_refl
abbrev aeE:=@Nat.zero_mul
abbrev aeF:=@Nat.min_self
abbrev aeG:=@Int.sub_zero
noncomputable section
namespace Go.Ge
inductive Ty where
 | int (k:IntKind)|bool|str|slice (e:Ty)|arr (n:Nat) (e:Ty)|pair (a b:Ty)|unit
 | alt (u:Nat) (a r:Ty)|Cz
def Ty.den:Ty->Type
 | .int _=>Int
 | .bool=>Bool
 | .str=>bb
 | .slice e=>List e.den
 | .arr _ e=>List e.den
 | .pair a b=>a.den×b.den
 | .unit=>aj
 | .alt _ a r=>a.den⊕r.den
 | .Cz=>aj
def BY:IntKind->Nat
 | .i8=>0|.i16=>1|.i32=>2|.i64=>3|.u8=>4|.u16=>5|.u32=>6|.u64=>7
def Ak{a b:IntKind}(h:Nat.beq (BY a) (BY b)=true):a=b:=by
 cases a<;>cases b<;>first|rfl|(exact absurd h aF)
def Ty.beq:Ty->Ty->Bool
 | .int k,.int g=>Nat.beq (BY k) (BY g)
 | .bool,.bool=>true
 | .str,.str=>true
 | .slice e,.slice f=>Ty.beq e f
 | .arr n e,.arr m f=>Nat.beq n m&&Ty.beq e f
 | .pair a b,.pair c d=>Ty.beq a c&&Ty.beq b d
 | .unit,.unit=>true
 | .alt u a r,.alt v b s=>Nat.beq u v&&(Ty.beq a b&&Ty.beq r s)
 | .Cz,.Cz=>true
 | _,_=>false
def Ty.eq_of_beq:∀{a b:Ty},Ty.beq a b=true->a=b:=by
 intro a;induction a with
 | int k=>intro b h;cases b<;>first|(exact congrArg _<|Ak h)|(cases h)
 | bool=>intro b h;cases b<;>first|rfl|(cases h)
 | str=>intro b h;cases b<;>first|rfl|(cases h)
 | slice e f=>intro b h;cases b<;>first|(exact congrArg _<|f h)|(cases h)
 | arr n e f =>
   intro b h;cases b<;>first|(cases h;done)|skip
   simp only[Ty.beq,gO] at h;rw[gP h.1,f h.2]
 | pair a b d g =>
   intro c h;cases c<;>first|(cases h;done)|skip
   simp only[Ty.beq,gO] at h;rw[d h.1,g h.2]
 | unit=>intro b h;cases b<;>first|rfl|(cases h)
 | alt u a r d i =>
   intro c h;cases c<;>first|(cases h;done)|skip
   simp only[Ty.beq,gO] at h;rw[gP h.1,d h.2.1,i h.2.2]
 | Cz=>intro b h;cases b<;>first|rfl|(cases h)
def Ty.to(t u:Ty)(x:t.den):Option u.den :=
 if h:Ty.beq t u=true then aa ((Ty.eq_of_beq h)▸x) else af
def Ty.beq_refl(t:Ty):Ty.beq t t=true:=by
 induction t with
 | int k=>cases k<;>rfl
 | bool=>rfl
 | str=>rfl
 | slice e d=>exact d
 | arr n e d=>simp[Ty.beq,d]
 | pair a b c f=>simp[Ty.beq,c,f]
 | unit=>rfl
 | alt u a r c g=>simp[Ty.beq,c,g]
 | Cz=>rfl
def Ty.my{t u:Ty}{x:t.den}{y:u.den}(h:Ty.to t u x=aa y):∃e:t=u,y=e▸x:=by
 unfold Ty.to at h;split at h
 .rename_i a;exact⟨Ty.eq_of_beq a,by simpa using h.symm⟩
 .cases h
def toL(t u:Ty)(l:List t.den):Option (List u.den) :=
 if h:Ty.beq t u=true then aa ((Ty.eq_of_beq h)▸l) else af
def mY{t u:Ty}{l:List t.den}{m:List u.den}(h:toL t u l=aa m):∃e:t=u,m=e▸l:=by
 unfold toL at h;split at h
 .rename_i a;exact⟨Ty.eq_of_beq a,by simpa using h.symm⟩
 .cases h
def Ty.size:Ty->Nat
 | .int _|.bool|.str|.slice _=>1
 | .arr n e=>n*e.size
 | .pair a b=>a.size+b.size
 | .unit=>0
 | .alt _ _ r=>r.size
 | .Cz=>1
def Ty.isAgg:Ty->Bool
 | .arr ..|.pair ..|.unit=>true
 | .alt _ _ r=>r.isAgg
 | _=>false
def Ty.zero:(t:Ty)->t.den
 | .int _=>(0:Int)
 | .bool=>false
 | .str=>([]:bb)
 | .slice _=>[]
 | .arr n e=>List.replicate n e.zero
 | .pair a b=>(a.zero,b.zero)
 | .unit=>()
 | .alt _ _ r=>.inr r.zero
 | .Cz=>()
def ak{α:Type}(c:Bool)(x y:α):α:=bif c then x else y
def ae{a b:Type}(o:Option a)(f:a->Option b):Option b:=o.bind f
def nt(b:Bool):Bool:=!b
def an(a b:Bool):Bool:=a&&b
def oor(a b:Bool):Bool:=a||b
def aD(a b:Int):Bool:=decide (a=b)
def cm(a b:Nat):Bool:=Nat.beq a b
def aL(a b:Int):Bool:=decide (a<b)
def cl(a b:Int):Bool:=decide (a<=b)
def bg(a b:bb):Bool:=decide (a=b)
def fZ(a b:bb):Bool:=Op.bytesLess a b
def eqL(a b:List Int):Bool:=decide (a=b)
def Yc(a b:Bool):Bool:=a==b
def cr{S:Type}(o:Option (S⊕(Nat×S))):Option (S⊕S):=o.map λr=>match r with|.inl x=>.inl x|.inr y=>.inr y.2
def aw(k:IntKind)(a b:Int):Int:=k.wrap (a+b)
def cG(k:IntKind)(a b:Int):Int:=k.wrap (a-b)
def lg(k:IntKind)(a b:Int):Int:=k.wrap (a*b)
def Ii(k:IntKind)(a b:Int):Int:=k.wrap (a.tdiv b)
def gx(a b:Int):Int:=a.tmod b
def lj(k:IntKind)(a:Int):Int:=k.wrap a
def hL(k:IntKind)(x y:Int):Int:=k.wrap (BitVec.ofInt k.bits x &&& BitVec.ofInt k.bits y).toNat
def A5(k:IntKind)(x y:Int):Int:=k.wrap (BitVec.ofInt k.bits x ||| BitVec.ofInt k.bits y).toNat
def gQ(k:IntKind)(x y:Int):Int:=k.wrap (BitVec.ofInt k.bits x ^^^ BitVec.ofInt k.bits y).toNat
def alk(k:IntKind)(x y:Int):Int:=k.wrap (BitVec.ofInt k.bits x &&& ~~~BitVec.ofInt k.bits y).toNat
def ajM(a b:Int):Int:=bif decide (b<a) then b else a
def imax(a b:Int):Int:=bif decide (a<b) then b else a
def oD(k:IntKind)(a b:Int):Int:=k.wrap (a*2 ^ (min b.toNat k.bits))
def jT(k:IntKind)(a b:Int):Int:=a.fdiv (2 ^ (min b.toNat k.bits))
def plus(a b:Int):Int:=a+b
def minus(a b:Int):Int:=a-b
def len{α:Type}(l:List α):Int:=l.length
def dR{p:Prop}(h:p:=by unfold len;omega):p:=h
def app{α:Type}(l m:List α):List α:=l++m
def one{a:Type}(x:a):List a:=[x]
def idx{α:Type}(l:List α)(i:Int):Option α:=if 0<=i then l[i.toNat]? else af
def kO{α:Type}(l:List α)(i:Int)(x:α):List α:=l.set i.toNat x
def lh{a:Type}(n:Int)(x:a):List a:=List.replicate n.toNat x
def sub{α:Type}(l:List α)(a n:Int):List α:=(l.drop a.toNat).take n.toNat
def mZ{α:Type}(l:List α)(n:Int):List α:=l.take n.toNat
def over{α:Type}(l:List α)(a:Int)(c:List α):List α:=l.take a.toNat++c++l.drop (a.toNat+c.length)
def pick{d e c:Type}(f:d->c)(g:e->c)(x:d⊕e):c:=match x with|.inl a=>f a|.inr b=>g b
def u8(b:UInt8):Int:=(b.toNat:Int)
def ax(s:bb):List Int:=s.map λb=>(b.toNat:Int)
def br(l:List Int):bb:=l.map λn=>UInt8.ofNat n.toNat
def fits(n:Int):Bool:=decide (n<=4294967296)
def inside(a b n:Int):Bool:=decide (0<=a)&&decide (a<=b)&&decide (b<=n)
def within(i n:Int):Bool:=decide (0<=i)&&decide (i<n)
inductive Tree (α:Type):Type 1 where
 | ret (a:α)
 | fail
 | node (c:Bool) (t e:Tree α)
 | look {T:Type} (o:Option T) (k:T->Tree α)
namespace Tree
def bind{α b:Type}:Tree α->(α->Tree b)->Tree b
 | .ret a,f=>f a
 | .fail,_=>.fail
 | .node c t e,f=>.node c (t.bind f) (e.bind f)
 | .look o k,f=>.look o λx=>(k x).bind f
def run{α:Type}:Tree α->Option α
 | .ret a=>aa a
 | .fail=>af
 | .node c t e=>ak c t.run e.run
 | .look o k=>ae o λx=>(k x).run
def join{T a:Type}(t:Tree T)(k:T->Tree a):Tree a :=
 match t with
 | .ret x=>k x
 | .node c (.ret x) (.ret y)=>k (ak c x y)
 | t=>.look t.run k
def jU{α:Type}(c:Bool)(t:Tree α):Tree α:=.node c t .fail
def aeH{b:Type}:Option b->Tree b
 | some a=>.ret a
 | none=>.fail
end Tree
inductive Sel where
 | gR (k off:Nat)
 | idx (i:Int) (size:Nat)
inductive cw where
 | undef
 | data (t:Ty) (x:t.den)
 | qw
 | vN
 | vO
 | za (b aR:Nat)
 | cell (t:Ty) (x:t.den)
 | ptr (b aR:Nat) (p:List Sel)
 | whole (b aR:Nat)
 | part (b aR:Nat) (lo n:Int)
 | win (b aR:Nat) (q:List Sel) (e:Ty) (k:Nat) (lo n:Int)
 | fn (f:Nat) (abT:List (Nat×Nat))
 | mix (a b:cw)
 | Ct (vs:cw)
 | nl
structure eF where
 val:cw
 tid:TypeId
 buf:Bool
 ro:Bool
 lk:Bool
 aR:Nat
structure St where
 bj:Nat->cw
 mem:Nat->Option eF
structure SA where
 A:Ty
 R:Ty
 spec:A.den->Option R.den
structure Va where
 ps:List Bool
 A:Ty
 U:Ty
 R:Ty
 spec:A.den×U.den->Option (R.den×U.den)
structure Gt where
 T:Nat
 t:Ty
 F:Nat
 A:Ty
 U:Ty
 R:Ty
 spec:(t.den×A.den)×U.den->Option (R.den×U.den)
inductive EB where
 | dat (t:Ty)
 | buf (e:Ty) (eid:Nat)
 | one
 | self
 | fnc
inductive Spc where
 | chk (T:Nat)
 | str (T E:Nat)
 | clone (e:Ty)
 | own (e A:Ty) (res:Bool) (spec:List e.den->A.den->Option (List e.den))
structure Ctx where
 T:List (Nat×Ty)
 vP:List Nat
 EC:List Nat
 fns:List (Nat×Func)
 Vb:List (Nat×SA)
 Px:List (Nat×Va)
 w9:List (Nat×List EB)
 QQ:List (Nat×Spc)
 els:List (Nat×Nat)
 inv:List (String×SA)
 SB:List (Nat×Gt)
def QR{b:Type}:List (String×b)->String->Option b
 | [],_=>af
 | (i,a)::r,k=>bif decide (i=k) then aa a else QR r k
def find{α:Type}:List (Nat×α)->Nat->Option α
 | [],_=>af
 | (i,a)::r,k=>bif Nat.beq i k then aa a else find r k
def St.put(a:St)(d:Nat)(v:cw):St:={ a with bj:=λt=>bif Nat.beq t d then v else a.bj t }
def St.bu(a:St)(d:Option Nat)(v:cw):St:=match d with|some d=>a.put d v|none=>a
def St.cD(a:St)(b:Nat)(x:eF):St:={ a with mem:=λi=>bif Nat.beq i b then aa x else a.mem i }
def St.bB{c:Type}(a:St)(b:Nat)(val:cw)(tid:TypeId)(buf:Bool)(k:Nat->St->Tree c):Tree c :=
 match a.mem b with
 | some bx=>bif bx.lk then .fail else k (bx.aR+1) (a.cD b { val,tid,buf,ro:=false,lk:=false,aR:=bx.aR+1 })
 | none=>k 0 (a.cD b { val,tid,buf,ro:=false,lk:=false,aR:=0 })
def dm:List Nat->Nat->Bool
 | [],_=>false
 | i::r,t=>Nat.beq t i||dm r t
def Mp:Value->cw
 | .int k n=>bif decide (k.min<=n)&&decide (n<=k.max) then .data (.int k) n else .undef
 | .bool b=>.data .bool b
 | .string s=>bif Nat.ble s.data.toList.length 4294967296 then .data .str s.data.toList else .undef
 | .pointer af=>.vN
 | .nilIface=>.vO
 | .slice af 0 0=>.qw
 | _=>.undef
def dd(a:St):Operand->cw
 | .tmp t=>a.bj t
 | .const v=>Mp v
 | .func f=>.fn f []
 | .global _=>.undef
def iX:Ty->Nat->Option Nat
 | .pair _ _,0=>aa 0
 | .pair a b,k+1=>(iX b k).map (a.size+·)
 | _,_=>af
def dX:cw->Nat
 | .data t _=>t.size
 | .mix a b=>dX a+dX b
 | .nl=>0
 | _=>1
def zL:(t:Ty)->t.den->Nat->Option (Nat×cw)
 | .pair a _,x,0=>aa (0,.data a x.1)
 | .pair a b,x,k+1=>match zL b x.2 k with|some r=>aa (a.size+r.1,r.2)|none=>af
 | _,_,_=>af
def wR:cw->Nat->Option (Nat×cw)
 | .data t x,k=>zL t x k
 | .mix a _,0=>aa (0,a)
 | .mix a b,k+1=>match wR b k with|some r=>aa (dX a+r.1,r.2)|none=>af
 | _,_=>af
def toD(t:Ty):cw->Option t.den
 | .data u x=>Ty.to u t x
 | .qw=>match t with|.slice _=>aa []|_=>af
 | _=>af
def toS(t:Ty):cw->Option t.den
 | .data u x=>Ty.to u t x
 | _=>af
def SC:(t:Ty)->t.den->Nat->(cw->Tree cw)->Tree t.den
 | .pair a b,x,0,f=>(f<|.data a x.1).bind λv=>match toS a v with
   | some y=>.ret (y,x.2)
   | none=>.fail
 | .pair a b,x,k+1,f=>(SC b x.2 k f).bind λy=>.ret (x.1,y)
 | _,_,_,_=>.fail
def Fq:cw->Nat->(cw->Tree cw)->Tree cw
 | .data t x,k,f=>(SC t x k f).bind λy=>.ret (.data t y)
 | .mix a b,0,f=>(f a).bind λv=>.ret (.mix v b)
 | .mix a b,k+1,f=>(Fq b k f).bind λv=>.ret (.mix a v)
 | _,_,_=>.fail
def nav:List Sel->cw->Tree cw
 | [],v=>.ret v
 | .gR k off::p,v=>match wR v k with
   | some (o,u)=>bif Nat.beq o off then nav p u else .fail
   | none=>.fail
 | .idx i size::p,v=>match v with
   | .data (.arr _ e) l=>bif Nat.beq size e.size then .look (idx (α:=e.den) l i) λx=>nav p (.data e x) else .fail
   | _=>.fail
def ahD(a:Bool)(p:List Sel)(v:cw):Tree cw :=
 match a with
 | false=>nav p v
 | true=>match p,v with
   | .idx i size::p,.data (.slice e) l=>bif Nat.beq size e.size then .look (idx (α:=e.den) l i) λx=>nav p (.data e x) else .fail
   | _,_=>.fail
def A8:List Sel->cw->cw->Tree cw
 | [],_,u=>.ret u
 | .gR k off::p,v,u=>Fq v k λw=>A8 p w u
 | .idx i size::p,v,u=>match v with
   | .data (.arr n e) l=>.look (idx (α:=e.den) l i) λx=>(A8 p (.data e x) u).bind λw=>match toS e w with
     | some y=>.ret (.data (.arr n e)<|kO (α:=e.den) l i y)
     | none=>.fail
   | _=>.fail
def SD(a:Bool)(p:List Sel)(v u:cw):Tree cw :=
 match a with
 | false=>A8 p v u
 | true=>match p,v with
   | .idx i size::p,.data (.slice e) l=>.look (idx (α:=e.den) l i) λx=>(A8 p (.data e x) u).bind λw=>match toS e w with
     | some y=>.ret (.data (.slice e)<|kO (α:=e.den) l i y)
     | none=>.fail
   | _,_=>.fail
namespace Tree
def run_bind{α g:Type}(t:Tree α)(f:α->Tree g):(t.bind f).run=t.run.bind λa=>(f a).run:=by
 induction t with
 | ret a=>rfl
 | fail=>rfl
 | node c t e b d=>cases c<;>simp[bind,run,b,d,ak]
 | look o k h=>cases o<;>simp[bind,run,h,ae]
def x4{T b:Type}(t:Tree T)(k:T->Tree b):(t.join k).run=t.run.bind λa=>(k a).run:=by
 unfold join;split
 .rfl
 .rename_i c x y;cases c<;>rfl
 .rfl
end Tree
def x5:Ty->Nat->Option Ty
 | .pair a _,0=>aa a
 | .pair _ b,k+1=>x5 b k
 | _,_=>af
def Ty.flat:Ty->Bool
 | .slice _=>false
 | .arr _ e=>e.flat
 | .pair a b=>a.flat&&b.flat
 | .alt _ a r=>a.flat&&r.flat
 | _=>true
def eF.row(bx:eF):Option (Ty×Nat) :=
 match bx.buf,bx.val with
 | true,.data (.slice e) l=>aa (e,List.length (α:=e.den) l)
 | false,.data (.arr n e) _=>aa (e,n)
 | _,_=>af
def jV(e:Ty)(c:St):cw->Option (List e.den)
 | .data (.slice u) l=>toL u e l
 | .qw=>aa []
 | .whole b aR=>match c.mem b with
   | some a=>bif Nat.beq a.aR aR&&a.buf then(match a.val with|.data (.slice u) l=>toL u e l|_=>af) else af
   | none=>af
 | .part b aR lo n=>match c.mem b with
   | some a=>bif Nat.beq a.aR aR then(match a.buf,a.val with
     | true,.data (.slice u) l=>toL u e (sub (α:=u.den) l lo n)
     | false,.data (.arr _ u) l=>toL u e (sub (α:=u.den) l lo n)
     | _,_=>af) else af
   | none=>af
 | _=>af
def live(c:St)(b a:Nat):Bool:=match c.mem b with|some d=>Nat.beq d.aR a|none=>false
def ui(c:St):(t:Ty)->cw->Option t.den
 | .slice e,v=>(jV e c v:Option (List e.den))
 | .pair a b,v=>match v with
   | .data u x=>Ty.to u (.pair a b) x
   | .mix p q=>(match ui c a p,ui c b q with
     | some x,aa y=>aa (x,y)
     | _,_=>af)
   | _=>af
 | .alt n a r,v=>match v with
   | .data u x=>Ty.to u (.alt n a r) x
   | .vO=>match ui c r .vO with
     | some x=>aa (.inr x)
     | none=>af
   | _=>af
 | .Cz,v=>match v with
   | .data u x=>Ty.to u .Cz x
   | .vO=>aa ()
   | _=>af
 | t,v=>match v with
   | .data u x=>Ty.to u t x
   | _=>af
def freeze(a:St)(b:Nat):Option St :=
 match a.mem b with
 | some c=>bif c.ro then aa a else bif c.lk then af else aa (a.cD b { c with ro:=true })
 | none=>af
def jI(a:St):cw->Option St
 | .whole b _=>freeze a b
 | .part b _ _ _=>freeze a b
 | .mix v w=>match jI a v with
   | some a=>jI a w
   | none=>af
 | _=>aa a
def CA(a:St)(t:Ty)(v:cw):Option (t.den×St) :=
 match v with
 | .data u x=>match Ty.to u t x with|some y=>aa (y,a)|none=>af
 | v=>match ui a t v,jI a v with
   | some x,aa a=>aa (x,a)
   | _,_=>af
def jJ(σ:St):(A:Ty)->List cw->Option A.den
 | .unit,[]=>aa ()
 | .pair t r,v::vs=>match ui σ t v,jJ σ r vs with
   | some x,aa y=>aa (x,y)
   | _,_=>af
 | _,_=>af
def gT(a:St):(A:Ty)->List cw->Option (A.den×St)
 | .unit,[]=>aa ((),a)
 | .pair t r,v::vs=>match CA a t v with
   | some (x,a)=>match gT a r vs with
     | some (y,a)=>aa ((x,y),a)
     | none=>af
   | none=>af
 | _,_=>af
def CB:(R:Ty)->R.den->cw
 | .pair t r,x=>.mix (.data t x.1) (CB r x.2)
 | _,_=>.nl
def sL(R:Ty)(x:R.den):cw :=
 match R,x with
 | .pair t .unit,x=>.data t x.1
 | R,x=>.Ct (CB R x)
def nth:cw->Nat->Option cw
 | .mix a _,0=>aa a
 | .mix _ b,k+1=>nth b k
 | _,_=>af
def bitsOf(a:BinOp)(k:IntKind)(x y:Int):Option Int :=
 match a with
 | .and=>aa (hL k x y)
 | .or=>aa (A5 k x y)
 | .xor=>aa (gQ k x y)
 | .andNot=>aa (alk k x y)
 | _=>af
def Ty.eqv:(t:Ty)->t.den->t.den->Option Bool
 | .int _,x,y=>aa (aD x y)
 | .bool,x,y=>aa (Yc x y)
 | .str,x,y=>aa (bg x y)
 | .pair a b,x,y=>match Ty.eqv a x.1 y.1,Ty.eqv b x.2 y.2 with
   | some p,aa q=>aa (an p q)
   | _,_=>af
 | .unit,_,_=>aa true
 | .arr _ e,x,y=>match e,x,y with
   | .int _,x,y=>aa (eqL x y)
   | _,_,_=>af
 | _,_,_=>af
def Ty.KK:Ty->Nat
 | .pair a b=>a.KK+b.KK+1
 | .arr _ e=>e.KK+1
 | _=>1
def Yd(d:BinOp)(k:IntKind)(a b:Int):Tree cw :=
 match d with
 | .add=>.ret (.data (.int k)<|aw k a b)
 | .sub=>.ret (.data (.int k)<|cG k a b)
 | .mul=>.ret (.data (.int k)<|lg k a b)
 | .quo=>.node (aD b 0) .fail (.ret<|.data (.int k)<|Ii k a b)
 | .rem=>.node (aD b 0) .fail (.ret<|.data (.int k)<|gx a b)
 | .eql=>.ret (.data .bool<|aD a b)
 | .neq=>.ret (.data .bool<|nt<|aD a b)
 | .lss=>.ret (.data .bool<|aL a b)
 | .leq=>.ret (.data .bool<|cl a b)
 | .gtr=>.ret (.data .bool<|aL b a)
 | .geq=>.ret (.data .bool<|cl b a)
 | d=>match bitsOf d k a b with
   | some c=>.ret (.data (.int k) c)
   | none=>.fail
def Ye(a:BinOp)(x y:bb):Tree cw :=
 match a with
 | .add=>.jU (fits<|plus (len x)<|len y) (.ret<|.data .str<|app x y)
 | .eql=>.ret (.data .bool<|bg x y)
 | .neq=>.ret (.data .bool<|nt<|bg x y)
 | .lss=>.ret (.data .bool<|fZ x y)
 | .leq=>.ret (.data .bool<|oor (fZ x y)<|bg x y)
 | .gtr=>.ret (.data .bool<|nt<|oor (fZ x y)<|bg x y)
 | .geq=>.ret (.data .bool<|nt<|fZ x y)
 | _=>.fail
def isEq:BinOp->Option Bool
 | .eql=>aa true
 | .neq=>aa false
 | _=>af
def Gu:BinOp->Option Bool
 | .shl=>aa true
 | .shr=>aa false
 | _=>af
def Ij(o:Option Ty)(t:Ty):Bool:=match o with|some u=>Ty.beq u t|none=>false
def bin(f:Option Ty)(g:Bool)(d:BinOp)(x y:cw):Tree cw :=
 match x,y with
 | .data (.int k) a,.data (.int h) b =>
   match Gu d with
   | some left=>.node (aL b 0) .fail (.ret<|.data (.int k)<|bif left then oD k a b else jT k a b)
   | none=>bif Nat.beq (BY k) (BY h) then Yd d k a b else .fail
 | .data .str a,.data .str b=>Ye d a b
 | .data .bool a,.data .bool b=>bif Ij f .bool then(match isEq d with
   | some true=>.ret (.data .bool<|Yc a b)
   | some false=>.ret (.data .bool<|nt<|Yc a b)
   | none=>.fail) else .fail
 | .data (.pair a b) x,.data t y=>bif Ij f (.pair a b)&&Nat.ble (Ty.pair a b).KK 9000 then(match Ty.to t (.pair a b) y,isEq d with
   | some y,aa e=>match Ty.eqv (.pair a b) x y with
     | some c=>.ret (.data .bool<|bif e then c else nt c)
     | none=>.fail
   | _,_=>.fail) else .fail
 | .data (.arr n e) x,.data t y=>bif Ij f (.arr n e)&&Nat.ble (Ty.arr n e).KK 9000 then(match Ty.to t (.arr n e) y,isEq d with
   | some y,aa q=>match Ty.eqv (.arr n e) x y with
     | some c=>.ret (.data .bool<|bif q then c else nt c)
     | none=>.fail
   | _,_=>.fail) else .fail
 | .vN,.vN=>match g,isEq d with|true,aa e=>.ret (.data .bool e)|_,_=>.fail
 | _,_=>.fail
def aeI(d:St)(f:Option Ty)(a:Bool)(c:BinOp)(x y:cw):Tree cw :=
 match x,y with
 | .ptr b aR _,.vN=>bif live d b aR&&a then(match isEq c with|some e=>.ret (.data .bool<|!e)|none=>.fail) else .fail
 | .vN,.ptr b aR _=>bif live d b aR&&a then(match isEq c with|some e=>.ret (.data .bool<|!e)|none=>.fail) else .fail
 | x,y=>bin f a c x y
def SE(c:Bool)(x y:cw):Tree cw :=
 match x,y with
 | .data (.int k) a,.data (.int d) b=>bif Nat.beq (BY k) (BY d) then .ret (.data (.int k)<|bif c then ajM a b else imax a b) else .fail
 | _,_=>.fail
def un(a:UnOp)(x:cw):Tree cw :=
 match a,x with
 | .not,.data .bool b=>.ret (.data .bool<|nt b)
 | .neg,.data (.int k) n=>.ret (.data (.int k)<|cG k 0 n)
 | .xor,.data (.int k) n=>.ret (.data (.int k)<|gQ k (bif k.signed then -1 else k.max) n)
 | _,_=>.fail
def Mq:(t:Ty)->t.den->Nat->(u:Ty)->u.den->Option t.den
 | .pair a b,x,0,u,y=>match Ty.to u a y with|some y=>aa (y,x.2)|none=>af
 | .pair a b,x,k+1,u,y=>match Mq b x.2 k u y with|some z=>aa (x.1,z)|none=>af
 | _,_,_,_,_=>af
def iY(a:St)(t:Ty)(x:t.den):List (Nat×Operand)->Option (t.den×St)
 | []=>aa (x,a)
 | (k,o)::r=>match x5 t k with
   | some u=>match CA a u (dd a o) with
     | some (y,a)=>match Mq t x k u y with
       | some x=>iY a t x r
       | none=>af
     | none=>af
   | none=>af
def fT(a:St)(e:Ty)(l:List e.den):List (Nat×Operand)->Option (List e.den×St)
 | []=>aa (l,a)
 | (k,o)::r=>match CA a e (dd a o) with
   | some (y,a)=>bif Nat.blt k l.length then fT a e (l.set k y) r else af
   | none=>af
def lenOf(c:St):cw->Option Int
 | .data .str s=>aa (len (α:=UInt8) s)
 | .data (.slice e) l=>aa (len (α:=e.den) l)
 | .data (.arr n _) _=>bif Nat.ble n 4294967296 then aa n else af
 | .qw=>aa 0
 | .whole b aR=>match c.mem b with
   | some a=>bif Nat.beq a.aR aR&&a.buf then(match a.val with|.data (.slice u) l=>aa (len (α:=u.den) l)|_=>af) else af
   | none=>af
 | .part b aR _ n=>bif live c b aR then aa n else af
 | _=>af
def aax(o:Option Ty):cw->Bool
 | .data .str _=>Ij o .str
 | .data (.slice e) _=>Ij o (.slice e)
 | .data (.arr n e) _=>Ij o (.arr n e)
 | .qw|.whole ..|.part ..=>match o with|some (.slice _)=>true|_=>false
 | _=>false
def bounds(c:St)(n:Int)(d e:Option Operand):Option (Int×Int) :=
 match d,e with
 | none,af=>aa (0,n)
 | some a,af=>match dd c a with|.data (.int _) x=>aa (x,n)|_=>af
 | none,aa b=>match dd c b with|.data (.int _) y=>aa (0,y)|_=>af
 | some a,aa b=>match dd c a,dd c b with|.data (.int _) x,.data (.int _) y=>aa (x,y)|_,_=>af
def isRef:cw->Bool
 | .ptr ..|.whole ..|.part ..|.fn ..|.vN|.vO|.za ..|.mix ..|.cell ..|.qw=>true
 | _=>false
section
variable (cx:Ctx) (nb:Nat) (bf:List Nat) (inl:Nat->List cw->St->Tree (cw×St))
def kP(d:Option Nat)(c:TypeId)(v:cw)(a:St):Tree St :=
 match v with
 | .undef=>bif dm cx.vP c then .ret (a.bu d .undef) else .fail
 | .qw=>match d,find cx.T c with
   | some d,aa (.slice e)=>bif dm bf d then a.bB (nb+d) (.data (.slice e) []) 0 true λb a=>.ret (a.put d<|.whole (nb+d) b)
     else .ret (a.put d<|.data (.slice e) [])
   | _,_=>.ret (a.bu d .qw)
 | v=>.ret (a.bu d v)
def qx(d:Option Nat)(c a b:cw)(e:St):Tree St :=
 match c with
 | .data .bool c=>match a,b with
   | .data t x,.data u y=>match Ty.to u t y with
     | some y=>.ret (e.bu d<|.data t<|ak c x y)
     | none=>.fail
   | a,b=>.node c (.ret<|e.bu d a) (.ret<|e.bu d b)
 | _=>.fail
def aay:(t:Ty)->t.den->cw
 | .pair a b,x=>.mix (.data a x.1) (aay b x.2)
 | t,x=>.data t x
def aeJ:cw->cw
 | .data t x=>aay t x
 | v=>v
def Vc:Ty->cw->Bool
 | .slice _,.whole ..=>true
 | t,.data u _=>Ty.beq u t
 | _,_=>false
def aaz:Ty->cw->Bool
 | .pair a b,.mix p q=>Vc a p&&aaz b q
 | t,.data u _=>Ty.beq u t
 | _,_=>false
def aeK(u:Ty):cw->Bool
 | .whole b aR=>Vc u (.whole b aR)
 | .mix p q=>aaz u (.mix p q)
 | _=>false
def aeL:cw->Bool
 | .data (.pair _ _) _=>true
 | .mix ..=>true
 | _=>false
def DK(a:TypeId):cw->Bool
 | .mix p q=>match find cx.T a with|some u=>aaz u (.mix p q)|none=>false
 | _=>false
def A9(a:TypeId):cw->Bool
 | .data u _=>Ij (find cx.T a) u
 | .whole ..=>match find cx.T a with|some (.slice _)=>true|_=>false
 | .ptr ..|.vN|.fn ..=>dm cx.vP a
 | _=>false
def na(d:Option Nat)(c:TypeId)(a:cw)(e:St):Tree St :=
 match a with
 | .cell u x=>bif Ij (find cx.T c) u then .ret (e.bu d<|.data u x) else .fail
 | .ptr b aR p=>match e.mem b with
   | some f=>bif Nat.beq f.aR aR then(ahD f.buf p f.val).bind λv=>bif A9 cx c v||DK cx c v then .ret (e.bu d v) else .fail else .fail
   | none=>.fail
 | _=>.fail
def storeAt(b d:Nat)(p:List Sel)(e:cw->Bool)(v:cw)(g:St):Tree St :=
 match g.mem b with
 | some a=>bif Nat.beq a.aR d&&!a.lk&&!a.ro then
    (ahD a.buf p a.val).bind λf=>bif e f then(SD a.buf p a.val v).bind λc=>.ret (g.cD b { a with val:=c }) else .fail
   else .fail
 | none=>.fail
def u9(b a:Nat)(p:List Sel)(n:Nat)(v:cw)(e:St):Tree St :=
 match e.mem b with
 | some bx=>bif Nat.beq bx.aR a&&!bx.lk&&!bx.ro&&!bx.buf&&aeL bx.val then
    (nav p<|aeJ bx.val).bind λd=>bif Nat.beq (dX d) n then(A8 p (aeJ bx.val) v).bind λc=>bif aeL c then .ret (e.cD b { bx with val:=c }) else .fail else .fail
   else .fail
 | none=>.fail
def ajN(u:Ty):cw->Bool
 | .data t _=>Ty.beq t u
 | _=>false
def aaA:cw->Bool
 | .undef=>true
 | _=>false
def nH(e:TypeId)(a v:cw)(d:St):Tree St :=
 match a with
 | .ptr b aR p=>match d.mem b with
   | some f=>bif Nat.beq f.aR aR then(ahD f.buf p f.val).bind λc=>match c with
      | .data u _=>bif Ij (find cx.T e) u then(bif dm bf 8000000&&aeK u v then u9 b aR p u.size v d else match CA d u v with
       | some (y,d)=>storeAt b aR p (ajN u) (.data u y) d
       | none=>.fail) else .fail
      | _=>bif A9 cx e v&&isRef v then storeAt b aR p (λc=>(A9 cx e c&&isRef c)||aaA c) v d else .fail
     else .fail
   | none=>.fail
 | _=>.fail
def nI(d:Option Nat)(i:TypeId)(x:cw)(lo h:Option Operand)(f:St):Tree St :=
 match find cx.T i,x with
 | some .str,.data .str s=>match bounds f (len (α:=UInt8) s) lo h with
   | some (a,b)=>.jU (inside a b<|len (α:=UInt8) s) (.ret<|f.bu d<|.data .str<|sub (α:=UInt8) s a<|minus b a)
   | none=>.fail
 | some (.slice u),.data (.slice e) l=>bif Ty.beq u e then(match bounds f (len (α:=e.den) l) lo h with
   | some (a,b)=>.jU (inside a b<|len (α:=e.den) l) (.ret<|f.bu d<|.data (.slice e)<|sub (α:=e.den) l a<|minus b a)
   | none=>.fail) else .fail
 | some (.slice u),.part c aR l n=>match f.mem c with
   | some g=>bif Nat.beq g.aR aR&&(match g.row with|some (e,_)=>Ty.beq u e|none=>false) then(match bounds f n lo h with
     | some (a,b)=>.jU (inside a b n) (.ret<|f.bu d<|.part c aR (plus l a)<|minus b a)
     | none=>.fail) else .fail
   | none=>.fail
 | some (.slice u),.whole c aR=>match f.mem c with
   | some g=>bif Nat.beq g.aR aR&&g.buf then(match g.val with
     | .data (.slice e) l=>bif Ty.beq u e then(match lo,h with
       | none,af=>.ret (f.bu d<|.whole c aR)
       | lo,h=>match bounds f (len (α:=e.den) l) lo h with
         | some (a,b)=>.jU (inside a b<|len (α:=e.den) l) (.ret<|f.bu d<|.part c aR a<|minus b a)
         | none=>.fail) else .fail
     | _=>.fail) else .fail
   | none=>.fail
 | some (.arr m u),.ptr c aR (s::q)=>bif live f c aR&&Nat.ble m 4294967296 then(match bounds f m lo h with
   | some (a,b)=>.jU (inside a b m) (.ret<|f.bu d<|.win c aR (s::q) u m a<|minus b a)
   | none=>.fail) else .fail
 | some (.arr m u),.ptr c aR []=>match f.mem c with
   | some g=>bif Nat.beq g.aR aR&&!g.buf then(match g.val with
     | .data (.arr n e) _=>bif Nat.beq m n&&Ty.beq u e&&Nat.ble n 4294967296 then(match bounds f n lo h with
       | some (a,b)=>.jU (inside a b n) (.ret<|f.bu d<|.part c aR a<|minus b a)
       | none=>.fail) else .fail
     | _=>.fail) else .fail
   | none=>.fail
 | _,_=>.fail
def Ba(d:St)(b a:Nat):Option (Ty×Int):=match d.mem b with
 | some c=>bif Nat.beq c.aR a then(match c.buf,c.val with
   | true,.data (.slice e) l=>aa (e,len (α:=e.den) l)
   | false,.data (.arr n e) _=>aa (e,n)
   | _,_=>af) else af
 | none=>af
def QS(a:TypeId):Option Nat :=
 match find cx.T a with
 | some _=>af
 | none=>match find cx.els a with
   | some e=>bif dm cx.vP e then aa e else af
   | none=>af
def Mr(d:Option Nat)(b a:Nat)(c:St)(i:Int):Nat->Nat->Tree St
 | 0,_=>.fail
 | m+1,k=>.node (aD i k) (.ret<|c.bu d<|.ptr b a [.gR k k]) (Mr d b a c i m<|k+1)
def LB:List Sel->Bool
 | [.gR _ off]=>Nat.beq off 0
 | _=>false
def eO(d:Option Nat)(c:TypeId)(x:cw)(i:Int)(a:St):Tree St :=
 match find cx.T c,x with
 | some (.slice u),.data (.slice e) l=>bif Ty.beq u e then .look (idx (l:List e.den) i) λy=>.ret (a.bu d<|.cell e y) else .fail
 | some (.arr m u),.cell (.arr n e) l=>bif Ty.beq u e&&Nat.beq m n then .look (idx (l:List e.den) i) λy=>.ret (a.bu d<|.cell e y) else .fail
 | some (.slice u),.whole b aR=>match Ba a b aR with
   | some (e,n)=>bif Ty.beq u e then .jU (within i n) (.ret<|a.bu d<|.ptr b aR [.idx i e.size]) else .fail
   | none=>.fail
 | some (.slice u),.part b aR lo n=>match Ba a b aR with
   | some (e,_)=>bif Ty.beq u e then .jU (within i n) (.ret<|a.bu d<|.ptr b aR [.idx (plus lo i) e.size]) else .fail
   | none=>.fail
 | some (.arr m u),.ptr b aR p=>bif live a b aR then .jU (within i m) (.ret<|a.bu d<|.ptr b aR<|p++[.idx i u.size]) else .fail
 | none,.win b aR q _ _ lo n=>match QS cx c with
   | some _=>bif LB q&&decide (lo=0)&&live a b aR then Mr d b aR a i n.toNat 0 else .fail
   | none=>.fail
 | _,_=>.fail
def nJ(d:Option Nat)(c:TypeId)(x:cw)(i:Int)(a:St):Tree St :=
 match x,QS cx c with
 | .win b aR q _ _ lo n,aa _=>bif LB q&&decide (lo=0)&&live a b aR then(match i with
  | .ofNat k=>bif decide ((k:Int)<n) then .ret (a.bu d<|.ptr b aR [.gR k k]) else .fail
  | .negSucc _=>.fail) else .fail
 | x,_=>eO cx d c x i a
def nK(d:Option Nat)(c:TypeId)(x:cw)(i:Int)(a:St):Tree St :=
 match find cx.T c,x with
 | some .str,.data .str s=>.look (idx (s:bb) i) λb=>.ret (a.bu d<|.data (.int .u8)<|u8 b)
 | some (.arr m u),.data (.arr n e) l=>bif Ty.beq u e&&Nat.beq m n then .look (idx (l:List e.den) i) λy=>.ret (a.bu d<|.data e y) else .fail
 | _,_=>.fail
def EB.size:EB->Nat
 | .dat t=>t.size
 | _=>1
def x6:List EB->Nat->Option Nat
 | [],_=>af
 | _::_,0=>aa 0
 | f::r,k+1=>match x6 r k with|some o=>aa (f.size+o)|none=>af
def fu(d:Option Nat)(s:TypeId)(x:cw)(k:Nat)(a:St):Tree St :=
 match x with
 | .cell u y=>bif Ij (find cx.T s) u then(match wR (.data u y) k with
   | some (_,.data t z)=>.ret (a.bu d<|.cell t z)
   | _=>.fail) else .fail
 | .ptr b aR p=>bif live a b aR then(match find cx.T s with
   | some t=>match iX t k,x5 t k with
     | some off,aa _=>.ret (a.bu d<|.ptr b aR<|p++[.gR k off])
     | _,_=>.fail
   | none=>match find cx.w9 s with
     | some c=>match x6 c k with
       | some off=>.ret (a.bu d<|.ptr b aR<|p++[.gR k off])
       | none=>.fail
     | none=>.fail) else .fail
 | _=>.fail
def iK(d:Option Nat)(b c:TypeId)(x:cw)(a:St):Tree St :=
 match find cx.T b,find cx.T c,x with
 | some (.int _),aa (.int k),.data (.int _) n=>.ret (a.bu d<|.data (.int k)<|lj k n)
 | some .str,aa .str,.data .str s=>.ret (a.bu d<|.data .str s)
 | some .str,aa (.slice<|.int .u8),.data .str s=>match d with
   | some d=>.jU (fits<|len (α:=UInt8) s) (a.bB (nb+d) (.data (.slice<|.int .u8)<|ax s) 0 true λe a=>.ret (a.put d<|.whole (nb+d) e))
   | none=>.fail
 | some (.slice<|.int .u8),aa .str,x=>match jV (.int .u8) a x with
   | some l=>.ret (a.bu d<|.data .str<|br l)
   | none=>.fail
 | _,_,_=>.fail
def zM(e:Ty)(a:St)(x:cw):Option (List e.den):=match x with
 | .data .str t=>toL (.int .u8) e (ax t)
 | x=>jV e a x
def ajO(a t:Nat):Bool:=Nat.beq t 0||(match find cx.els a with|some e=>Nat.beq e t|none=>false)
def iZ(d:Option Nat)(f:TypeId)(s x:cw)(a:St):Tree St :=
 match d,find cx.T f with
 | some d,aa (.slice e) =>
   match zM e a x with
   | some m=>match s with
     | .qw=>.jU (fits<|len (α:=e.den) m) (a.bB (nb+d) (.data (.slice e) m) 0 true λaR a=>.ret (a.put d<|.whole (nb+d) aR))
     | .whole b aR=>match a.mem b,jV e a (.whole b aR) with
       | some c,aa l=>bif c.lk||!ajO cx f c.tid then .fail else
         .jU (fits<|plus (len (α:=e.den) l)<|len (α:=e.den) m) (.ret<|(a.cD b { c with val:=.data (.slice e) (app (α:=e.den) l m),aR:=aR+1 }).put d<|.whole b<|aR+1)
       | _,_=>.fail
     | _=>.fail
   | none=>.fail
 | _,_=>.fail
def lK(e:Ty)(m:List e.den)(b d:Nat)(q:List Sel)(f:Nat->Ty->Bool)(i:Int)(g:St):Tree St :=
 match g.mem b with
 | some a=>bif Nat.beq a.aR d&&!a.lk&&!a.ro then
    (match a.buf with
    | true=>match q,a.val with
      | [],.data (.slice u) l=>match toL e u m with
        | some m=>.ret (g.cD b { a with val:=.data (.slice u) (over (α:=u.den) l i m) })
        | none=>.fail
      | _,_=>.fail
    | false=>(nav q a.val).bind λh=>match h with
      | .data (.arr k u) l=>bif f k u then(match toL e u m with
        | some m=>(A8 q a.val<|.data (.arr k u)<|over (α:=u.den) l i m).bind λc=>.ret (g.cD b { a with val:=c })
        | none=>.fail) else .fail
      | _=>.fail)
   else .fail
 | none=>.fail
def Ik(e:Ty)(m:Int->List e.den)(t:cw)(a:St):Tree (Int×St) :=
 match t with
 | .part b aR lo n=>(lK e (m n) b aR [] (λ_ _=>true) lo a).bind λa=>.ret (n,a)
 | .whole b aR=>match lenOf a t with|some n=>(lK e (m n) b aR [] (λ_ _=>true) 0 a).bind λa=>.ret (n,a)|none=>.fail
 | .win b aR q u k lo n=>(lK e (m n) b aR q (λc d=>Nat.beq k c&&Ty.beq u d) lo a).bind λa=>.ret (n,a)
 | _=>.fail
def Al(d:Option Nat)(b:TypeId)(t x:cw)(a:St):Tree St :=
 match find cx.T b with
 | some (.slice e)=>match zM e a x with
   | none=>.fail
   | some m=>(Ik e (λn=>mZ (α:=e.den) m n) t a).bind λr=>.ret (r.2.bu d<|.data (.int .i64)<|len<|mZ (α:=e.den) m r.1)
 | _=>.fail
def Am(a:TypeId)(t:cw)(b:St):Tree St :=
 match find cx.T a with
 | some (.slice e)=>(Ik e (λn=>lh n e.zero) t b).bind λr=>.ret r.2
 | _=>.fail
def oH:(U:Ty)->U.den->List Nat->Nat->Option cw
 | .pair t U,u,a,c=>match a with
   | b::a=>bif Nat.beq c b then aa (.data t u.1) else oH U u.2 a c
   | []=>af
 | _,_,_,_=>af
def va(U:Ty)(u:U.den)(b:List Nat)(a:St):St :=
 { a with mem:=λc=>match oH U u b c with
  | some v=>(match a.mem c with|some d=>aa { d with val:=v }|none=>af)
  | none=>a.mem c }
def sM(d:St):List Bool->(A U:Ty)->List cw->Option (A.den×U.den×List Nat)
 | [],A,U,vs=>match A,U,vs with
   | .unit,.unit,[]=>aa ((),(),[])
   | _,_,_=>af
 | false::ps,A,U,vs=>match A,vs with
   | .pair t A,v::vs=>match toD t v,sM d ps A U vs with
     | some x,aa (y,u,c)=>aa ((x,y),u,c)
     | _,_=>af
   | _,_=>af
 | true::ps,A,U,vs=>match U,vs with
   | .pair t U,.ptr b aR []::vs=>match d.mem b with
     | some a=>bif Nat.beq a.aR aR&&!a.buf&&!a.lk&&!a.ro&&Nat.beq a.tid 0 then(match toS t a.val,sM d ps A U vs with
       | some x,aa (y,u,c)=>bif dm c b then af else aa (y,(x,u),b::c)
       | _,_=>af) else af
     | none=>af
   | _,_=>af
def sN:cw->Bool
 | .whole ..=>true
 | _=>false
def DL(s:Spc)(d:Option Nat)(c:List cw)(e:St):Tree St :=
 match s,c with
 | .chk T,[.ptr b aR []]=>match e.mem b with
   | some a=>match a.val with
     | .mix (.za f g) (.mix u<|.data .unit _)=>bif Nat.beq a.aR aR&&!a.buf&&!a.lk&&!a.ro&&Nat.beq a.tid T&&Nat.blt 0 T&&Nat.beq f b&&Nat.beq g aR&&sN u then .ret (e.bu d<|.Ct .nl) else .fail
     | _=>.fail
   | none=>.fail
 | .str T E,[.ptr b aR []]=>match e.mem b with
   | some a=>match a.val with
     | .mix (.za _ _) (.mix (.whole h hv)<|.data .unit _)=>bif Nat.beq a.aR aR&&!a.buf&&Nat.beq a.tid T&&Nat.blt 0 T&&!Nat.beq h b then(match e.mem h with
       | some hx=>bif Nat.beq hx.aR hv&&hx.buf&&!hx.lk&&Nat.beq hx.tid E&&Nat.blt 0 E then(match hx.val with
         | .data (.slice<|.int .u8) l=>.ret ((e.cD h { hx with val:=.data (.slice<|.int .u8) [],aR:=hx.aR+1 }).bu d<|.data .str<|br l)
         | _=>.fail) else .fail
       | none=>.fail) else .fail
     | _=>.fail
   | none=>.fail
 | _,_=>.fail
def ownRow(d:Option Nat):Option Nat:=match d with|some d=>bif dm bf (4000000+d) then aa d else af|none=>af
def Vd(d:Option Nat):Option Nat:=match d with|some d=>bif dm bf d then aa d else af|none=>af
def nL(e:Ty)(d:Option Nat)(a:List cw)(b:St):Tree St :=
 match d,a with
 | some d,[x]=>match CA b (.slice e) x with
   | some (l,b)=>bif Nat.blt 0 e.size then .jU (fits<|len (α:=e.den) l) (b.bB (nb+d) (.data (.slice e) l) 0 true λc b=>.ret (b.put d<|.whole (nb+d) c)) else .fail
   | none=>.fail
 | _,_=>.fail
def Bb(e:Ty)(c:St):cw->Option (Nat×Nat×eF×List e.den)
 | .whole b aR=>match c.mem b with
   | some a=>bif Nat.beq a.aR aR&&a.buf&&!a.lk&&!a.ro&&Nat.beq a.tid 0 then(match a.val with
     | .data (.slice u) l=>(match toL u e l with|some l=>aa (b,aR,a,l)|none=>af)
     | _=>af) else af
   | none=>af
 | .part b aR lo n=>match c.mem b with
   | some a=>bif Nat.beq a.aR aR&&a.buf&&!a.lk&&!a.ro&&Nat.beq a.tid 0&&decide (lo=0) then(match a.val with
     | .data (.slice u) l=>(match toL u e l with|some l=>aa (b,aR,a,sub (α:=e.den) l lo n)|none=>af)
     | _=>af) else af
   | none=>af
 | _=>af
def vb(e A:Ty)(g:Bool)(a:List e.den->A.den->Option (List e.den))(d:Option Nat)(c:List cw)(f:St):Tree St :=
 match c with
 | v::vs=>match gT f A vs with
   | some (x,f)=>match Bb e f v with
     | some (b,aR,h,l)=>.look (a l x) λi=>match g,d with
       | true,aa d=>.ret ((f.cD b { h with val:=.data (.slice e) i,aR:=aR+1 }).put d<|.whole b<|aR+1)
       | false,d=>bif sN v then .ret ((f.cD b { h with val:=.data (.slice e) i }).bu d<|.Ct .nl) else .fail
       | _,_=>.fail
     | none=>.fail
   | none=>.fail
 | []=>.fail
def zN(d:Option Nat)(f:Nat):Option Spc :=
 match find cx.QQ f with
 | some (.clone e)=>match Vd bf d with|some _=>aa (.clone e)|none=>af
 | some (.own e A r s)=>aa (.own e A r s)
 | _=>af
def Ve(c:Gt)(d:Option Nat)(f:List cw)(e:St):Tree St :=
 match f with
 | .ptr b aR []::vs=>match gT e c.A vs with
   | some (x,e)=>match e.mem b with
     | some g=>match g.val with
       | .mix r (.mix (.fn F a)<|.data .unit _)=>bif Nat.beq g.aR aR&&!g.buf&&!g.ro&&Nat.beq g.tid c.T&&Nat.beq F c.F&&a.all (λb=>live e b.1 b.2) then(match toS c.t r,sM e (a.map λ_=>true) .unit c.U (a.map λp=>.ptr p.1 p.2 []) with
         | some r,aa (_,u,h)=>bif dm h b then .fail else .look (c.spec ((r,x),u)) λy=>.ret ((va c.U y.2 h e).bu d<|sL c.R y.1)
         | _,_=>.fail) else .fail
       | _=>.fail
     | none=>.fail
   | none=>.fail
 | _=>.fail
def zO(d:Option Nat)(f:Nat)(a:List cw)(b:St):Tree St :=
 match find cx.Vb f with
 | some c=>match c.R.flat with
   | true=>match jJ b c.A a with
     | some x=>.look (c.spec x) λy=>.ret (b.bu d<|sL c.R y)
     | none=>.fail
   | false=>match gT b c.A a with
     | some (x,b)=>.look (c.spec x) λy=>.ret (b.bu d<|sL c.R y)
     | none=>.fail
 | none=>match find cx.QQ f with
  | some s=>DL s d a b
  | none=>match find cx.Px f with
   | some c=>(match sM b c.ps c.A c.U a with
     | some (x,u,e)=>.look (c.spec (x,u)) λy=>.ret ((va c.U y.2 e b).bu d<|sL c.R y.1)
     | none=>(inl f a b).bind λr=>.ret (r.2.bu d r.1))
   | none=>match find cx.SB f with
     | some c=>Ve c d a b
     | none=>(inl f a b).bind λr=>.ret (r.2.bu d r.1)
def xa(d:Option Nat)(f:Nat)(a:List cw)(b:St):Tree St :=
 match zN cx bf d f with
 | some (.clone e)=>nL nb e d a b
 | some (.own e A r s)=>vb e A r s d a b
 | _=>zO cx inl d f a b
def Vf:(t:Ty)->(u:Nat)->Option ((a:Ty)×(a.den->t.den))
 | .alt n a r,u=>bif Nat.beq n u then aa ⟨a,.inl⟩ else match Vf r u with
   | some ⟨b,f⟩=>aa ⟨b,λx=>.inr (f x)⟩
   | none=>af
 | _,_=>af
def uD(d:Option Nat)(c u:TypeId)(x:cw)(b:St):Tree St :=
 match find cx.T c with
 | some t=>match Vf t u with
   | some ⟨a,f⟩=>match CA b a x with
     | some (y,b)=>.ret (b.bu d<|.data t<|f y)
     | none=>.fail
   | none=>.fail
 | none=>.fail
def uE(d:Option Nat)(a:String)(b:List cw)(e:St):Tree St :=
 match QR cx.inv a with
 | some c=>match gT e c.A b with
   | some (x,e)=>.look (c.spec x) λy=>.ret (e.bu d<|sL c.R y)
   | none=>.fail
 | none=>.fail
def x7(d:Option Nat)(h:TypeId)(c:Call)(a:St):Tree St :=
 match c.callee with
 | .builtin b=>match b,c.args.toList.map (dd a),c.argTypes.toList with
   | .len,[x],[t]=>bif aax (find cx.T t) x then(match lenOf a x with
     | some n=>.ret (a.bu d<|.data (.int .i64) n)
     | none=>.fail) else(match QS cx t,x with
     | some _,.win b aR _ _ _ _ n=>bif live a b aR&&decide (n<=64) then .ret (a.bu d<|.data (.int .i64) n) else .fail
     | _,_=>.fail)
   | .append,[s,x],[t,u]=>match find cx.T u with
     | some .str|some (.slice _)=>iZ cx nb d t s x a
     | _=>.fail
   | .copy,[t,x],[g,tx]=>match find cx.T tx with
     | some .str|some (.slice _)=>Al cx d g t x a
     | _=>.fail
   | .clear,[t],[g]=>match d with|none=>Am cx g t a|some _=>.fail
   | .min,[x,y],_=>SE true x y |>.bind λv=>.ret (a.bu d v)
   | .max,[x,y],_=>SE false x y |>.bind λv=>.ret (a.bu d v)
   | _,_,_=>.fail
 | .value f=>match dd a f with
   | .fn f e=>bif e.all (λb=>live a b.1 b.2) then xa cx nb bf inl d f (c.args.toList.map (dd a)++e.map λb=>.ptr b.1 b.2 []) a else .fail
   | _=>.fail
 | .invoke r name=>uE cx d name (dd a r::c.args.toList.map (dd a)) a
def Il:List cw->Option (List<|Nat×Nat)
 | []=>aa []
 | .ptr b aR []::r=>(Il r).map ((b,aR)::·)
 | _=>af
def LC(a:St)(b:Nat):Nat:=match a.mem b with|some bx=>bx.aR+1|none=>0
def mkObj(b a:Nat):List EB->Nat->St->Tree (cw×St)
 | [],_,σ=>.ret (.data .unit (),σ)
 | .dat t::r,j,σ=>(mkObj b a r (j+1) σ).bind λx=>.ret (.mix (.data t t.zero) x.1,x.2)
 | .one::r,j,σ=>(mkObj b a r (j+1) σ).bind λx=>.ret (.mix .vN x.1,x.2)
 | .fnc::r,j,σ=>(mkObj b a r (j+1) σ).bind λx=>.ret (.mix .undef x.1,x.2)
 | .self::r,j,σ=>(mkObj b a r (j+1) σ).bind λx=>.ret (.mix (.za b a) x.1,x.2)
 | .buf e c::r,j,σ=>bif Nat.blt 0 e.size then σ.bB (b*1000+999-j) (.data (.slice e) []) c true λv σ=>(mkObj b a r (j+1) σ).bind λx=>.ret (.mix (.whole (b*1000+999-j) v) x.1,x.2) else .fail
def qU:List EB->Option cw
 | []=>aa (.data .unit ())
 | .dat t::r=>match qU r with|some v=>aa (.mix (.data t t.zero) v)|none=>af
 | .buf _ _::r=>match qU r with|some v=>aa (.mix .qw v)|none=>af
 | .one::r=>match qU r with|some v=>aa (.mix .vN v)|none=>af
 | .fnc::r=>match qU r with|some v=>aa (.mix .undef v)|none=>af
 | .self::_=>af
def nc(a:St)(b:List EB):cw->List (Nat×Operand)->Option cw
 | v,[]=>aa v
 | v,(k,x)::r=>match wR v k,x6 b k,b[k]? with
   | some (o,.data t _),aa d,aa f=>bif Nat.beq o d&&Nat.beq t.size f.size then(match toS t (dd a x) with
     | some y=>match(Fq v k λ_=>.ret (.data t y)).run with
       | some v=>nc a b v r
       | none=>af
     | none=>bif Vc t (dd a x) then(match(Fq v k λ_=>.ret (dd a x)).run with
       | some v=>nc a b v r
       | none=>af) else af) else af
   | some (o,.undef),aa d,aa f=>bif Nat.beq o d&&Nat.beq 1 f.size then(match dd a x with
     | .fn g c=>match(Fq v k λ_=>.ret (.fn g c)).run with
       | some v=>nc a b v r
       | none=>af
     | _=>af) else af
   | _,_,_=>af
def Im:Ty->List EB
 | .pair a b=>.dat a::Im b
 | _=>[]
def qy(b:St)(t:Ty)(a:List (Nat×Operand)):Option (cw×St) :=
 bif dm bf 8600000&&a.any (λp=>sN (dd b p.2)) then(match nc b (Im t) (aay t t.zero) a with
  | some (.mix p q)=>aa (.mix p q,b)
  | _=>af)
 else match iY b t t.zero a with
  | some (x,b)=>aa (.data t x,b)
  | none=>af
def pr(b:Nat):List EB->Nat->cw->St->Tree (cw×St)
 | [],_,.data .unit x,σ=>.ret (.data .unit x,σ)
 | .dat _::r,j,.mix (.data u y) v,σ=>(pr b r (j+1) v σ).bind λx=>.ret (.mix (.data u y) x.1,x.2)
 | .fnc::r,j,.mix .undef v,σ=>(pr b r (j+1) v σ).bind λx=>.ret (.mix .undef x.1,x.2)
 | .fnc::r,j,.mix (.fn g c) v,σ=>(pr b r (j+1) v σ).bind λx=>.ret (.mix (.fn g c) x.1,x.2)
 | .one::r,j,.mix .vN v,σ=>(pr b r (j+1) v σ).bind λx=>.ret (.mix .vN x.1,x.2)
 | .buf e a::r,j,.mix .qw v,σ=>bif Nat.blt 0 e.size then σ.bB (b*1000+999-j) (.data (.slice e) []) a true λd σ=>(pr b r (j+1) v σ).bind λx=>.ret (.mix (.whole (b*1000+999-j) d) x.1,x.2) else .fail
 | _,_,_,_=>.fail
def CC(a:St):Nat->List (Nat×Operand)->Option cw
 | _,[]=>aa (.data .unit ())
 | k,(j,x)::r=>bif Nat.beq j k then(match dd a x,CC a (k+1) r with
   | .vN,aa v=>aa (.mix .vN v)
   | .ptr b aR p,aa v=>aa (.mix (.ptr b aR p) v)
   | .fn f c,aa v=>aa (.mix (.fn f c) v)
   | _,_=>af) else af
def DM(d:Option Nat)(t:TypeId)(a:Nat)(b:List (Nat×Operand))(c:St):Tree St :=
 match d,QS cx t,CC c 0 b with
 | some d,aa _,aa v=>bif Nat.beq a b.length&&Nat.blt 0 a&&Nat.ble a 64 then
  c.bB (nb+d) v 0 false λe c=>.ret (c.put d<|.win (nb+d) e [.gR 0 0] .bool a 0 a) else .fail
 | _,_,_=>.fail
def Gv(d:Option Nat)(a:TypeId)(x:cw)(c:St):Tree St :=
 match d,x with
 | some _,.undef=>.fail
 | some _,.Ct _=>.fail
 | some d,v=>match find cx.w9 a with
   | some e=>(pr (nb+d) e 0 v c).bind λr=>r.2.bB (nb+d) r.1 a false λb c=>.ret (c.put d<|.ptr (nb+d) b [])
   | none=>c.bB (nb+d) v 0 false λb c=>.ret (c.put d<|.ptr (nb+d) b [])
 | none,_=>.fail
def xO(d:Nat)(t:Ty)(a:St):Tree St :=
 match Vd bf (aa d),t with
 | some _,.slice e=>bif Nat.blt 0 e.size then a.bB ((nb+d)*1000+999) (.data (.slice e) []) 0 true λv a =>
  a.bB (nb+d) (.whole ((nb+d)*1000+999) v) 0 false λb a=>.ret (a.put d<|.ptr (nb+d) b []) else .fail
 | _,t=>a.bB (nb+d) (.data t t.zero) 0 false λb a=>.ret (a.put d<|.ptr (nb+d) b [])
def sO(o:Oper)(g:St):Tree St :=
 match o.op with
 | .move x|.assign x=>kP cx nb bf o.dst o.type (dd g x) g
 | .pick c a b=>qx o.dst (dd g c) (dd g a) (dd g b) g
 | .alloc elem=>match o.dst,find cx.T elem with
   | some d,aa t=>xO nb bf d t g
   | some d,af=>match find cx.w9 elem with
     | some m=>(mkObj (nb+d) (LC g<|nb+d) m 0 g).bind λr=>r.2.bB (nb+d) r.1 elem false λh g=>.ret (g.put d<|.ptr (nb+d) h [])
     | none=>bif dm cx.vP elem then g.bB (nb+d) .undef 0 false λh g=>.ret (g.put d<|.ptr (nb+d) h []) else .fail
   | _,_=>.fail
 | .box elem x=>Gv cx nb o.dst elem (dd g x) g
 | .build t parts=>match find cx.T t with
   | some (.pair a b)=>match qy bf g (.pair a b) parts.toList with
     | some (v,g)=>.ret (g.bu o.dst v)
     | none=>.fail
   | some (.arr n e)=>match fT g e (List.replicate n e.zero) parts.toList with
     | some (l,g)=>.ret (g.bu o.dst<|.data (.arr n e) l)
     | none=>.fail
   | none=>match find cx.w9 t with
     | some m=>match qU m with
       | some z=>match nc g m z parts.toList with
         | some (.mix p q)=>.ret (g.bu o.dst<|.mix p q)
         | some (.data .unit _)=>.ret (g.bu o.dst<|.data .unit ())
         | _=>.fail
       | none=>.fail
     | none=>.fail
   | _=>.fail
 | .buildSlice t len parts=>match find cx.T t with
   | some (.slice e)=>match Vd bf o.dst,len,parts.toList with
     | some d,0,[]=>g.bB (nb+d) (.data (.slice e) []) 0 true λh g=>.ret (g.put d<|.whole (nb+d) h)
     | _,_,_=>bif Nat.ble (len*e.size) 65536 then(match fT g e (List.replicate len e.zero) parts.toList with
     | some (l,g)=>(match ownRow bf o.dst with
       | some d=>g.bB (nb+d) (.data (.slice e) l) 0 true λh g=>.ret (g.put d<|.whole (nb+d) h)
       | none=>.ret (g.bu o.dst<|.data (.slice e) l))
     | none=>.fail) else .fail
   | none=>DM cx nb o.dst t len parts.toList g
   | _=>.fail
 | .load t a=>na cx o.dst t (dd g a) g
 | .store t a x=>match o.dst with|none=>nH cx bf t (dd g a) (dd g x) g|some _=>.fail
 | .nilCheck x=>match dd g x with
   | .ptr b h p=>bif live g b h then .ret (g.bu o.dst<|.ptr b h p) else .fail
   | .cell t x=>.ret (g.bu o.dst<|.cell t x)
   | .fn f c=>.ret (g.bu o.dst<|.fn f c)
   | _=>.fail
 | .binOp op w x y _=>(aeI g (find cx.T w) (dm cx.EC w) op (dd g x)<|dd g y).bind λv=>.ret (g.bu o.dst v)
 | .unOp op _ x=>(un op<|dd g x).bind λv=>.ret (g.bu o.dst v)
 | .convert src dst x=>iK cx nb o.dst src dst (dd g x) g
 | .makeFunc (.func f) first j=>match first.toList,Il (j.toList.map<|dd g) with
   | [],aa cs=>.ret (g.bu o.dst<|.fn f cs)
   | _,_=>.fail
 | .slice t x lo hi af=>nI cx o.dst t (dd g x) lo hi g
 | .fieldAddr s x k=>fu cx o.dst s (dd g x) k g
 | .field w x k=>match dd g x with
   | .data u y=>bif Ij (find cx.T w) u then(match wR (.data u y) k with
     | some (_,v)=>.ret (g.bu o.dst v)
     | none=>.fail) else .fail
   | _=>.fail
 | .indexAddr t x i=>match dd g i with
   | .data (.int _) i=>bif dm bf 5000000 then nJ cx o.dst t (dd g x) i g else eO cx o.dst t (dd g x) i g
   | _=>.fail
 | .index t x i=>match dd g i with
   | .data (.int _) i=>nK cx o.dst t (dd g x) i g
   | _=>.fail
 | .makeSlice t l c=>match o.dst,find cx.T t,dd g l,dd g c with
   | some d,aa (.slice e),.data (.int _) l,.data (.int _) c =>
     .jU (inside 0 l c) (.jU (fits c)
      (g.bB (nb+d) (.data (.slice e)<|lh l e.zero) 0 true λh g=>.ret (g.put d<|.whole (nb+d) h)))
   | _,_,_,_=>.fail
 | .extract t k=>match dd g t with
   | .Ct vs=>match nth vs k with
     | some v=>.ret (g.bu o.dst v)
     | none=>.fail
   | _=>.fail
 | .call c=>x7 cx nb bf inl o.dst o.type c g
 | .makeInterface u x=>uD cx o.dst o.type u (dd g x) g
 | _=>.fail
def Bc(g:Option (Nat×Bool))(j:Nat)(a:Bool):Bool :=
 match g with|some (i,b)=>Nat.beq i j&&(b==a)|none=>false
def under(j:Nat)(a:Bool):(inner:List Nat)->List (Nat×Oper)->List (Nat×Oper)×List (Nat×Oper)
 | _,[]=>([],[])
 | inner,(i,o)::r =>
   bif Bc o.guard j a then let x:=under j a (i::inner) r;((i,{ o with guard:=af })::x.1,x.2)
   else bif (match o.guard with|some (k,_)=>inner.any (Nat.beq k)|none=>false) then let x:=under j a (i::inner) r;((i,o)::x.1,x.2)
   else([],(i,o)::r)
def LD(a:Ctx):List (Nat×Oper)->Bool
 | []=>false
 | (_,o)::r=>(match o.op with
   | .call c=>match c.callee with
     | .value (.func f)=>match find a.Vb f with|some _=>false|none=>true
     | .value _=>true
     | .builtin .append=>true
     | _=>false
   | .store ..=>true
   | _=>false)||LD a r
def St.gU(a:St):St:={ a with mem:=λi=>match a.mem i with|some b=>aa { b with lk:=true }|none=>af }
def St.undef(a:St):List (Nat×Oper)->St
 | []=>a
 | (_,o)::r=>(a.undef r).bu o.dst .undef
def pt(d:Nat):List (Nat×Oper)->Bool
 | []=>false
 | (_,o)::r=>(match o.dst with|some k=>Nat.beq k d|none=>false)||pt d r
def Bd(e:St)(f:Oper)(g:Nat)(d:Bool):Option cw :=
 match f.op with
 | .pick (.tmp c) a b=>bif Nat.beq c g then aa (dd e<|bif d then a else b) else af
 | _=>af
def sP(a:Array Oper):Nat->List (Nat×Oper)->St->Tree St
 | 0,_,_=>.fail
 | n+1,[],σ=>.ret σ
 | n+1,(i,o)::r,σ =>
   match o.guard with
   | none=>(sO cx nb bf inl o σ).bind λσ=>sP a n r σ
   | some (j,want) =>
     let g:=under j want [] ((i,o)::r)
     match(a[j]?).bind (·.dst) with
     | none=>.fail
     | some d=>match σ.bj d,g.2 with
       | .data .bool c,(_,b)::rest=>bif pt d g.1 then .fail else match b.guard with
         | some _=>.fail
         | none =>
           let e:=bif want then c else nt c
           bif LD cx g.1 then
            (Tree.node e ((sP a n g.1 σ).bind λσ=>match Bd σ b d want with
              | some v=>.ret (σ.bu b.dst v)
              | none=>.fail)
             (match Bd (σ.undef g.1) b d (!want) with
              | some v=>.ret ((σ.undef g.1).bu b.dst v)
              | none=>.fail)).bind λσ=>sP a n rest σ
           else match find cx.T b.type,b.dst with
            | some t,aa f=>(Tree.node e ((sP a n g.1 σ.gU).bind λτ=>match(Bd τ b d want).bind (toD t) with
              | some x=>.ret x
              | none=>.fail)
             (match(Bd (σ.undef g.1) b d<|!want).bind (toD t) with
              | some x=>.ret x
              | none=>.fail)).join λx=>sP a n rest ((σ.undef g.1).put f<|.data t x)
            | _,_=>.fail
       | _,_=>.fail
def number:Nat->List Oper->List (Nat×Oper)
 | _,[]=>[]
 | k,o::r=>(k,o)::number (k+1) r
def Ms(a:Array Oper)(b:St):Tree St:=sP cx nb bf inl a (2*a.size+1) (number 0 a.toList) b
def iL:Op->List Operand
 | .move x|.assign x|.box _ x|.load _ x|.nilCheck x|.unOp _ _ x|.convert _ _ x|.fieldAddr _ x _|.field _ x _|.extract x _=>[x]
 | .pick c a b=>[c,a,b]
 | .build _ ps|.buildSlice _ _ ps=>ps.toList.map (·.2)
 | .store _ a x=>[a,x]
 | .binOp _ _ x y _=>[x,y]
 | .makeFunc _ f c=>f.toList++c.toList
 | .slice _ x lo hi _=>x::(lo.toList++hi.toList)
 | .indexAddr _ x i|.index _ x i=>[x,i]
 | .makeSlice _ l c=>[l,c]
 | .call c=>(match c.callee with|.value f=>[f]|.invoke r _=>[r]|_=>[])++c.args.toList
 | .makeInterface _ x=>[x]
 | _=>[]
def tmpsOf:List Operand->List Nat
 | []=>[]
 | .tmp t::r=>t::tmpsOf r
 | _::r=>tmpsOf r
def sQ(o:Oper)(a:St):Option Nat:=match o.op with
 | .call c=>match c.callee with
   | .value x=>match dd a x with
     | .fn f _=>aa f
     | _=>af
   | _=>af
 | _=>af
def aln:Option Nat->Option Nat->Bool
 | some a,aa b=>Nat.beq a b
 | none,af=>true
 | _,_=>false
def cls(g:Option Nat)(o:Oper):Nat:=match o.op with
 | .assign _|.move _|.makeSlice ..|.convert ..=>1
 | .box e _=>match find cx.w9 e with
   | some _=>3
   | none=>1
 | .alloc e=>match find cx.T e with
   | some (.slice _)=>3
   | some _=>1
   | none=>match find cx.w9 e with
     | some _=>3
     | none=>1
 | .build ..|.buildSlice ..|.store ..=>2
 | .call c=>match c.callee with
   | .builtin .len|.builtin .min|.builtin .max=>0
   | .builtin .append=>2
   | .builtin _=>3
   | .value _=>match g with
     | some f=>match find cx.QQ f with
       | some (.clone _)=>2
       | some (.own _ _ _ _)=>2
       | _=>match find cx.Vb f with
         | some c=>bif c.R.flat then 0 else 2
         | none=>3
     | none=>3
   | .invoke ..=>2
 | .makeInterface ..=>2
 | _=>0
structure Fp where
 rd:List Nat
 wr:List Nat
 LF:Bool
 fn:Option Nat
def An(d:St):cw->List Nat
 | .ptr b _ _=>[b]
 | .whole b _=>[b]
 | .part b _ _ _=>[b]
 | .win b _ _ _ _ _ _=>[b]
 | .fn _ c=>c.map (·.1)
 | .mix a b=>An d a++An d b
 | _=>[]
def refsOf(a:St):List Operand->List Nat
 | []=>[]
 | x::r=>An a (dd a x)++refsOf a r
def alo(o:Oper)(a:St):List Nat:=match o.op with
 | .move _|.assign _=>[]
 | _=>refsOf a (iL o.op)
def own(o:Oper):List Nat:=match o.dst with|some d=>[nb+d]|none=>[]
def CD(o:Oper)(a:St):Fp :=
 let rd:=own nb o++alo o a
 let g:=sQ o a
 match cls cx g o with
 | 0=>⟨rd,[],false,g⟩
 | 1=>⟨rd,own nb o,false,g⟩
 | 2=>⟨rd,rd,false,g⟩
 | _=>⟨[],[],true,g⟩
def St.only(a:St)(ts c:List Nat):St:={ bj:=λt=>bif dm ts t then a.bj t else .undef,mem:=λb=>bif dm c b then a.mem b else af }
def lay(a:St)(d:Option Nat)(e:List Nat)(c:St):St :=
 { bj:=match d with|some d=>λt=>bif Nat.beq t d then c.bj d else a.bj t|none=>a.bj
   mem:=λb=>bif dm e b then c.mem b else a.mem b }
def Ao(_:Nat)(_:List cw)(_:St):Tree (cw×St):=.fail
def aeM(b:Fp)(o:Oper)(a:St):Tree St:=bif aln (sQ o a) b.fn then sO cx nb bf Ao o a else .fail
def jK(a:Fp)(o:Oper)(b:St):Tree St :=
 bif a.LF then sO cx nb bf inl o b
 else(aeM cx nb bf a o<|b.only (tmpsOf<|iL o.op) a.rd).bind λτ=>.ret (lay b o.dst a.wr τ)
abbrev Vg:=Nat×Oper×Fp×Nat
def maskAt:List Vg->Nat->Nat
 | [],_=>0
 | (i,_,_,m)::r,k=>bif Nat.beq i k then m else maskAt r k
def xP(a:List Vg):List Edge->Nat
 | []=>0
 | e::r=>bif Region.binds .any e then(xP a r ||| 2 ^ e.on) ||| maskAt a e.on else xP a r
def mask(a:List Vg)(o:Oper):Nat:=xP a o.after.toList
def abW(a b:List Nat):Bool:=a.all λx=>!dm b x
def apart(x y:Oper)(f g:Fp):Bool :=
 !f.LF&&!g.LF&&abW f.wr g.rd&&abW g.wr f.rd &&
 (match x.dst with|some d=>!dm (tmpsOf<|iL y.op) d&&(match y.dst with|some e=>!Nat.beq d e|none=>true)|none=>true) &&
 (match y.dst with|some e=>!dm (tmpsOf<|iL x.op) e|none=>true)
def loose(o:Oper)(f:Fp)(m:Nat):List Vg->Bool
 | []=>true
 | (k,ok,a,_)::r=>(Nat.testBit m k||apart ok o a f)&&loose o f m r
def Mt:List (Nat×Oper)->List Vg->St->Tree St
 | [],_,σ=>.ret σ
 | (i,o)::r,done,σ=>match o.guard with
   | some _=>.fail
   | none =>
     let f:=CD cx nb o σ
     let m:=mask done o
     bif loose o f m done&&(o.after.all λe=>!Region.binds .any e||Nat.blt e.on i) then
      (jK cx nb bf inl f o σ).bind λσ=>Mt r ((i,o,f,m)::done) σ
     else .fail
def QU(a:Array Oper)(o:Oper):List Nat:=match o.guard with
 | some (g,_)=>match(a[g]?).bind (·.dst) with|some d=>[d]|none=>[]
 | none=>[]
def Fs(a:Array Oper)(o:Oper):List Nat:=QU a o++tmpsOf (iL o.op)
def Ap(o:Oper)(k:Nat):Bool:=match o.guard with|some (g,_)=>!Nat.beq g k|none=>true
def CE(a:Array Oper)(i j:Nat)(x y:Oper)(f g:Fp):Bool :=
 !f.LF&&!g.LF&&abW f.wr g.rd&&abW g.wr f.rd&&Ap x j&&Ap y i &&
 (match x.dst with|some d=>!dm (Fs a y) d&&(match y.dst with|some e=>!Nat.beq d e|none=>true)|none=>true) &&
 (match y.dst with|some e=>!dm (Fs a x) e|none=>true)
def Ft(a:Array Oper)(i:Nat)(o:Oper)(f:Fp)(m:Nat):List Vg->Bool
 | []=>true
 | (k,ok,b,_)::r=>(Nat.testBit m k||CE a k i ok o b f)&&Ft a i o f m r
def lp(i:Nat)(a:Nat->Bool):Nat->Bool:=λk=>Nat.beq k i||a k
def x8(a:Array Oper):List (Nat×Oper)->List Vg->St->(Nat->Bool)->Tree St
 | [],_,σ,_=>.ret σ
 | (i,o)::r,done,σ,b =>
   let f:=CD cx nb o σ
   let m:=mask done o
   bif Ft a i o f m done&&(o.after.all λe=>!Region.binds .any e||Nat.blt e.on i) then
    match o.guard with
    | none=>(jK cx nb bf inl f o σ).bind λσ=>x8 a r ((i,o,f,m)::done) σ b
    | some (g,want)=>match(a[g]?).bind (·.dst) with
      | none=>.fail
      | some dg=>bif b g then x8 a r ((i,o,f,m)::done) (σ.bu o.dst .undef) (lp i b)
        else match σ.bj dg with
         | .data .bool c=>.node c
          (bif want then(jK cx nb bf inl f o<|σ.put dg<|.data .bool true).bind λσ=>x8 a r ((i,o,f,m)::done) σ b
           else x8 a r ((i,o,f,m)::done) ((σ.put dg<|.data .bool true).bu o.dst .undef) (lp i b))
          (bif want then x8 a r ((i,o,f,m)::done) ((σ.put dg<|.data .bool false).bu o.dst .undef) (lp i b)
           else(jK cx nb bf inl f o<|σ.put dg<|.data .bool false).bind λσ=>x8 a r ((i,o,f,m)::done) σ b)
         | _=>.fail
   else .fail
def pv:List Oper->Bool
 | []=>true
 | o::r=>(match o.dst with|some d=>!dm (Io r) d|none=>true)&&pv r
where Io:List Oper->List Nat
 | []=>[]
 | o::r=>match o.dst with|some d=>d::Io r|none=>Io r
def Vh(a:Array Oper):Option (Nat×Ty):=match a.back? with
 | some o=>match o.dst,find cx.T o.type with
   | some d,aa t=>bif dm bf (8700000+d) then aa (d,t) else af
   | _,_=>af
 | none=>af
def Aq(a:Array Oper)(b:St):Tree St :=
 bif a.any λo=>o.guard.isSome then(bif pv a.toList then(match Vh cx bf a with
  | none=>x8 cx nb bf inl a (number 0 a.toList) [] b (λ_=>false)
  | some (d,t)=>((x8 cx nb bf inl a (number 0 a.toList) [] b.gU λ_=>false).bind λτ=>match toD t (dd τ<|.tmp d) with
    | some x=>.ret x
    | none=>.fail).join λx=>.ret ((b.undef<|number 0 a.toList).bu (aa d)<|.data t x)) else .fail)
 else Mt cx nb bf inl (number 0 a.toList) [] b
end
def rounds{S R:Type}(f:S->Option (S⊕R)):Nat->S->Option R
 | 0,_=>af
 | n+1,s=>(f s).bind λx=>match x with|.inl s=>rounds f n s|.inr r=>aa r
def JS{S R}{f:S->Option (S⊕R)}:∀{n s r},rounds f n s=aa r->∀m,n<=m->rounds f m s=aa r:=by
 intro n;induction n with
 | zero=>intro s r h;cases h
 | succ n b =>
   intro s r h m c;obtain⟨k,rfl⟩:∃k,m=k+1:=⟨m-1,ah⟩;simp only[rounds] at h⊢;cases a:f s with
   | none=>rw[a] at h;cases h
   | some x =>
     grind
open Classical in
def Vi{S R:Type}(f:S->Option (S⊕R))(s:S):Option R :=
 if h:∃n r,rounds f n s=aa r then aa (Classical.choose<|Su h) else af
def BZ{S R}{f:S->Option (S⊕R)}{n s r}(h:rounds f n s=aa r):Vi f s=aa r:=by
 have c:∃n r,rounds f n s=aa r:=⟨n,r,h⟩;unfold Vi;have a:=JS h (max n<|Classical.choose c) ah;have b:=JS (Su<|Su c) (max n<|Classical.choose c) ah
 grind
class Lp where
 loop:{S R:Type}->(S->Option (S⊕R))->S->Option R
 ok:∀{S R:Type} (f:S->Option (S⊕R)) (s:S),loop f s=Vi f s
def Lp.one(i j:Lp):i=j:=by
 obtain⟨l,h⟩:=i;obtain⟨m,k⟩:=j;have:@l=@m:=by funext S R f s;rw[h,k]
 grind
@[reducible] noncomputable def Lp.KL:Lp where
 loop:=λf s=>match rounds f 100000 s with|some r=>aa r|none=>Vi f s
 ok:=λf s=>by
  generalize 100000=k;cases a:rounds f k s with
  | some r=>exact(BZ a).symm
  | none=>rfl
section
variable [Lp]
def Loop{S R:Type}(f:S->Option (S⊕R))(s:S):Option R:=Lp.loop f s
def sR{S R}{f:S->Option (S⊕R)}{n s r}(h:rounds f n s=aa r):Loop f s=aa r:=(Lp.ok f s).trans (BZ h)
def sS{S R}{f:S->Option (S⊕R)}{s r}(h:Loop f s=aa r):∃n,rounds f n s=aa r:=by
 replace h:=(Lp.ok f s).symm.trans h;unfold Vi at h;split at h
 .grind
 .cases h
def aN{S R}(f:S->Option (S⊕R)) s:Loop f s=(f s).bind λx=>match x with|.inl s=>Loop f s|.inr r=>aa r:=by
 cases b:f s with
 | none =>
   cases a:Loop f s with
   | none=>rfl
   | some r =>
     obtain⟨n,hn⟩:=sS a;cases n with
     | zero=>cases hn
     | succ n=>simp[rounds,b] at hn
 | some x =>
   cases x with
   | inr r=>exact sR (n:=1) (by simp[rounds,b])
   | inl d =>
     show Loop f s=Loop f d
     cases a:Loop f d with
     | some r =>
       obtain⟨n,hn⟩:=sS a;exact sR (n:=n+1) (by simp[rounds,b,hn])
     | none =>
       cases c:Loop f s with
       | none=>rfl
       | some r =>
         obtain⟨n,hn⟩:=sS c;cases n with
         | zero=>cases hn
         | succ n =>
           simp[rounds,b] at hn;rw[sR hn] at a;cases a
end
inductive Sh where
 | d (t:Ty)
 | k (v:cw)
 | m (a b:Sh)
def Sh.ty:Sh->Ty
 | .d t=>t
 | .k _=>.unit
 | .m a b=>.pair a.ty b.ty
def LG:List Sel->List Sel->Bool
 | [],[]=>true
 | .gR k o::p,.gR a b::q=>Nat.beq k a&&Nat.beq o b&&LG p q
 | _,_=>false
def LH:List (Nat×Nat)->List (Nat×Nat)->Bool
 | [],[]=>true
 | (a,b)::r,(c,d)::s=>Nat.beq a c&&Nat.beq b d&&LH r s
 | _,_=>false
def Yf:∀{p q},LG p q=true->p=q:=by
 intro p;induction p with
 | nil=>intro q h;cases q<;>first|rfl|cases h
 | cons s p a =>
   intro q h;cases s with
   | idx i n=>cases q<;>cases h
   | gR k o =>
     cases q with
     | nil=>cases h
     | cons b q =>
       cases b with
       | idx i n=>cases h
       | gR c d =>
         simp only[LG,gO] at h;rw[gP h.1.1,gP h.1.2,a h.2]
def Yg:∀{p q},LH p q=true->p=q:=by
 intro p;induction p with
 | nil=>intro q h;cases q<;>first|rfl|cases h
 | cons s p c =>
   intro q h;obtain⟨a,b⟩:=s;cases q with
   | nil=>cases h
   | cons d q =>
     simp only[LH,gO] at h;rw[gP h.1.1,gP h.1.2,c h.2]
def Gw(V:Nat->Bool->Bool)(d g:St):cw->cw->Bool
 | .ptr b v p,.ptr e a h=>Nat.beq b e&&LG p h&&(bif V b false then(match d.mem b,g.mem b with|some x,aa y=>Nat.beq x.aR v&&Nat.beq y.aR a|_,_=>false) else Nat.beq v a)
 | .whole b v,.whole e a=>Nat.beq b e&&(match d.mem b,g.mem b with|some x,aa y=>Nat.beq x.aR v&&Nat.beq y.aR a&&y.buf|_,_=>false)
 | .fn f c,.fn i j=>Nat.beq f i&&LH c j
 | .vN,.vN=>true
 | .vO,.vO=>true
 | .za b v,.za e a=>Nat.beq b e&&Nat.beq v a
 | _,_=>false
def ahE:cw->Sh
 | .data t _=>.d t
 | .mix a b=>.m (ahE a) (ahE b)
 | v=>.k v
def Sh.out(V:Nat->Bool->Bool)(c e:St):(s:Sh)->cw->Option s.ty.den
 | .d t,v=>toD t v
 | .k u,v=>bif Gw V c e u v then aa () else af
 | .m a b,.mix v w=>match Sh.out V c e a v,Sh.out V c e b w with
   | some x,aa y=>aa (x,y)
   | _,_=>af
 | .m _ _,_=>af
def bump(M:Nat->Bool)(V:Nat->Bool->Bool):cw->cw
 | .whole b v=>bif M b&&V b true then .whole b (v+1) else .whole b v
 | .ptr b v p=>bif M b&&V b false then .ptr b (v+1) p else .ptr b v p
 | v=>v
def Sh.sH(M:Nat->Bool)(V:Nat->Bool->Bool):(s:Sh)->s.ty.den->cw
 | .d t,x=>.data t x
 | .k v,_=>bump M V v
 | .m a b,x=>.mix (a.sH M V x.1) (b.sH M V x.2)
structure SF where
 S:List (Nat×Nat)
 M:List Nat
 fz:Bool
structure Gx where
 marks:List (Option SF)
 ajP:List Nat
structure Carry where
 S:List (Nat×Sh)
 M:List (Nat×Sh×eF)
 V:Nat->Bool->Bool
def tyS:List (Nat×Sh)->Ty
 | []=>.unit
 | (_,s)::r=>.pair s.ty (tyS r)
def tyM:List (Nat×Sh×eF)->Ty
 | []=>.unit
 | (_,s,_)::r=>.pair s.ty (tyM r)
def Carry.ty(c:Carry):Ty:=.pair (tyS c.S) (tyM c.M)
def ahF(V:Nat->Bool->Bool)(a b:St):(l:List (Nat×Sh))->Option (tyS l).den
 | []=>aa ()
 | (i,s)::r=>match Sh.out V a b s (b.bj i),ahF V a b r with
   | some x,aa y=>aa (x,y)
   | _,_=>af
def JT(c d:Bool)(a b:eF):Bool:=(c||(a.ro==b.ro))&&Nat.beq a.tid b.tid&&(a.buf==b.buf)&&(d||Nat.beq a.aR b.aR)
def ahG(V:Nat->Bool->Bool)(d:Bool)(a c:St):(l:List (Nat×Sh×eF))->Option (tyM l).den
 | []=>aa ()
 | (i,s,b)::r=>match c.mem i with
   | some e=>bif JT d (V i b.buf) e b then(match Sh.out V a c s e.val,ahG V d a c r with
     | some x,aa y=>aa (x,y)
     | _,_=>af) else af
   | none=>af
def Carry.out(c:Carry)(fz:Bool)(a b:St):Option c.ty.den :=
 match ahF c.V a b c.S,ahG c.V fz a b c.M with
 | some x,aa y=>aa (x,y)
 | _,_=>af
def SG(M:Nat->Bool)(V:Nat->Bool->Bool):(l:List (Nat×Sh))->(tyS l).den->Nat->Option cw
 | [],_,_=>af
 | (i,s)::r,x,t=>bif Nat.beq t i then aa (s.sH M V x.1) else SG M V r x.2 t
def Mu(fz:Bool)(M:Nat->Bool)(V:Nat->Bool->Bool):(l:List (Nat×Sh×eF))->(tyM l).den->Nat->Option eF
 | [],_,_=>af
 | (i,s,b)::r,x,t=>bif Nat.beq t i then aa { b with val:=s.sH M V x.1,ro:=b.ro||fz,aR:=bif V t b.buf then b.aR+1 else b.aR } else Mu fz M V r x.2 t
def ED:List (Nat×Sh×eF)->Nat->Bool
 | [],_=>false
 | (i,_,_)::r,t=>Nat.beq t i||ED r t
def Carry.sH(c:Carry)(fz lock:Bool)(e:List Nat)(a:St)(x:c.ty.den):St :=
 { bj:=λt=>match SG (ED c.M) c.V c.S x.1 t with
    | some v=>v
    | none=>bif dm e t then .undef else a.bj t
   mem:=λb=>match Mu fz (ED c.M) c.V c.M x.2 b with
    | some d=>aa d
    | none=>match a.mem b with
      | some d=>aa { d with lk:=d.lk||lock }
      | none=>af }
def settle:List (Nat×Sh)->St->Option St
 | [],σ=>aa σ
 | (i,.d t)::r,σ=>match CA σ t (σ.bj i) with
   | some (x,σ)=>settle r (σ.put i<|.data t x)
   | none=>af
 | _::r,σ=>settle r σ
def Carry.Mv(c:Carry)(fz:Bool)(a b:St):Option c.ty.den :=
 bif fz then(match settle c.S b with
  | some b=>c.out true a b
  | none=>af)
 else c.out false a b
def Carry.lock(c:Carry)(σ:St):St :=
 { σ with mem:=λb=>match σ.mem b with
  | some a=>aa (bif ED c.M b then a else { a with lk:=true })
  | none=>af }
def sT:List Oper->List Nat
 | []=>[]
 | o::r=>match o.dst with|some d=>d::sT r|none=>sT r
def writes:Code->List Nat
 | .region _ ops _=>sT ops.toList
 | .seq a b=>writes a++writes b
 | .cond _ a b=>writes a++writes b
 | .block _ a=>writes a
 | .loop a=>writes a
 | .scope a=>writes a
 | _=>[]
def wS:Code->List Nat
 | .seq a b=>wS a++(wS b).filter λe=>!dm (wS a) e
 | .cond _ a b=>wS a++(wS b).filter λe=>!dm (wS a) e
 | .block i a=>(wS a).filter λe=>!Nat.beq e (i+2)
 | .loop a=>wS a
 | .scope a=>wS a
 | .ret=>[1]
 | .exit i=>[i+2]
 | _=>[]
def marks:Code->Nat
 | .seq a b=>marks a+marks b
 | .cond _ a b=>marks a+marks b+1
 | .block _ a=>marks a
 | .loop a=>marks a+1
 | .scope a=>marks a
 | _=>0
def KM:List Nat->Nat->Option Nat
 | [],_=>af
 | e::r,k=>bif Nat.beq e k then aa 0 else(KM r k).map (·+1)
def Yh:List Nat->List Nat->List Nat
 | [],l=>l
 | b::r,l=>bif dm l b then Yh r l else Yh r (l++[b])
section
variable (cx:Ctx)
def mkS(a:St):List (Nat×Nat)->Option (List<|Nat×Sh)
 | []=>aa []
 | (i,ty)::r=>match mkS a r with
   | none=>af
   | some l=>bif Nat.beq ty 999999 then(match a.bj i with
     | .whole b v=>aa ((i,.k (.whole b v))::l)
     | _=>aa l) else match a.bj i with
     | .data t _=>aa ((i,.d t)::l)
     | .undef|.qw=>match find cx.T ty with
       | some t=>aa ((i,.d t)::l)
       | none=>af
     | v=>aa ((i,.k v)::l)
def DN(a:St):List Nat->List Nat
 | []=>[]
 | b::r=>(match a.mem b with|some d=>(match d.val with|.mix u v=>An a (.mix u v)|.whole c _=>[c]|.fn f c=>An a (.fn f c)|_=>[])|none=>[])++DN a r
def SH(a:St):List Nat->List Nat
 | []=>[]
 | i::r =>
   let r0:=An a (a.bj i)
   let r1:=DN a r0
   let r2:=DN a r1
   Yh (r0++(r1++(r2++DN a r2))) (SH a r)
def aeN:cw->Bool
 | .mix a b=>aeN a||aeN b
 | .fn ..=>true
 | .undef=>true
 | _=>false
def ajn(a:eF):Bool:=a.lk||(match a.val with|.mix (.data _ _) b=>aeN b|_=>false)
def mkM(c:St):List Nat->Option (List<|Nat×Sh×eF)
 | []=>aa []
 | b::r=>match c.mem b,mkM c r with
   | some a,aa l=>bif ajn a then aa l else aa ((b,ahE a.val,a)::l)
   | _,_=>af
def ajQ:cw->Option Nat
 | .whole b _=>aa b
 | .part b _ _ _=>aa b
 | _=>af
def Gy:List Nat->St->Option St
 | [],σ=>aa σ
 | m::r,σ=>bif Nat.ble 2000000 m then(match ajQ (σ.bj<|m-2000000) with
  | some b=>match σ.mem b with
    | some a=>match a.val with
      | .data (.slice e) _=>match CA σ (.slice e) (σ.bj<|m-2000000) with
        | some (x,σ)=>Gy r (σ.put (m-2000000)<|.data (.slice e) x)
        | none=>af
      | _=>af
    | none=>af
  | none=>Gy r σ) else Gy r σ
def als(a:Nat)(c:List Nat)(d:St)(b:Nat):Bool:=dm (c.map (a+·)) b&&(match d.mem b with|some x=>!x.buf&&!sN x.val|none=>false)
def LI(d:Nat)(e:List Nat)(a:St)(p:SF):Option Carry :=
 match mkS cx a p.S,mkM a (SH a p.M) with
 | some s,aa m=>aa ⟨s,m,λb c=>bif c then !dm p.M 3999999 else als d e a b⟩
 | _,_=>af
variable (nb:Nat) (bf:List Nat) (inl:Nat->List cw->St->Tree (cw×St))
def Gz{a:Type}:List Nat->Nat->(Nat->Tree a)->Tree a
 | [],_,_=>.fail
 | [e],_,f=>f e
 | e::r,i,f=>.node (cm i 0) (f e) (Gz r (i-1) f)
variable [Lp]
def again{S:Type}(f:S->Tree (Nat×S)):Nat->S->Tree (Nat×S)
 | 0,_=>.fail
 | n+1,s=>(f s).bind λr=>bif Nat.beq r.1 0 then again f n r.2 else .ret r
def Yi(p:SF):Option Nat:=match p.M with
 | [m]=>bif Nat.ble 6000000 m then aa (m-6000000) else af
 | _=>af
def Ip(f:St->Tree (Nat×St))(c:Nat):Nat->Nat->St->Tree (Nat×St)
 | 0,_,_=>.fail
 | n+1,j,σ=>match σ.bj c with
   | .data (.int .i64) x=>.jU (aD x j) ((f<|σ.put c<|.data (.int .i64) (j:Int)).bind λr=>bif Nat.beq r.1 0 then Ip f c n (j+1) r.2 else .ret r)
   | _=>.fail
def jS:Code->List (Option SF)->St->Tree (Nat×St)
 | .skip,_,σ=>.ret (0,σ)
 | .label _,_,σ=>.ret (0,σ)
 | .ret,_,σ=>.ret (1,σ)
 | .exit i,_,σ=>.ret (i+2,σ)
 | .region _ ops f,_,σ=>(bif f then Aq cx nb bf inl ops σ else Ms cx nb bf inl ops σ).bind λσ=>.ret (0,σ)
 | .seq a b,pl,σ=>(jS a pl σ).bind λr=>bif Nat.beq r.1 0 then jS b (pl.drop<|marks a) r.2 else .ret r
 | .block i a,pl,σ=>(jS a pl σ).bind λr=>.ret (bif Nat.beq r.1 (i+2) then 0 else r.1,r.2)
 | .scope a,pl,σ=>jS a pl σ
 | .cond c a b,pl,σ=>match dd σ c,pl with
   | .data .bool c,none::pl=>.node c (jS a pl σ) (jS b (pl.drop<|marks a) σ)
   | .data .bool c,aa p::pl=>match Gy p.M σ with
    | none=>.fail
    | some σ=>match LI cx nb bf σ p with
     | none=>.fail
     | some k =>
       let t:=Tree.node c (jS a pl<|k.lock σ) (jS b (pl.drop<|marks a)<|k.lock σ)
       let wr:=writes a++writes b
       match wS a++(wS b).filter (λe=>!dm (wS a) e) with
       | []=>(t.bind λr=>bif Nat.beq r.1 0 then Tree.aeH (k.Mv p.fz σ r.2) else .fail).join λx=>.ret (0,k.sH p.fz false wr σ x)
       | es=>(t.bind λr=>match KM (0::es) r.1,k.Mv p.fz σ r.2 with
        | some i,aa x=>.ret (i,x)
        | _,_=>.fail).join λx=>Gz (0::es) x.1 λe=>.ret (e,k.sH p.fz false wr σ x.2)
   | _,_=>.fail
 | .loop a,pl,σ=>match pl with
   | some p::pl=>match Yi p with
    | some c=>Ip (λσ=>jS a pl σ) c 100 0 σ
    | none=>match Gy p.M σ with
    | none=>.fail
    | some σ=>match LI cx nb bf σ p with
     | none=>.fail
     | some k=>match k.out false σ σ with
       | none=>.fail
       | some d =>
         let wr:=writes a
         let es:=wS a
         let body (x:k.ty.den):Option (k.ty.den⊕(Nat×k.ty.den)):=((jS a pl<|k.sH false true wr σ x).bind λr=>bif Nat.beq r.1 0 then(match k.out false σ r.2 with
           | some y=>.ret (.inl y)
           | none=>.fail)
          else match KM es r.1,k.Mv p.fz σ r.2 with
           | some i,aa y=>.ret (.inr (i,y))
           | _,_=>.fail).run
         match es with
         | [e]=>.look (Loop (λx=>cr (body x)) d) λx=>.ret (e,k.sH p.fz false wr σ x)
         | es=>.look (Loop body d) λx=>Gz es x.1 λe=>.ret (e,k.sH p.fz false wr σ x.2)
   | none::pl=>again (λσ=>jS a pl σ) 100000 σ
   | _=>.fail
 | _,_,_=>.fail
end
variable [Lp]
def zb(mem:Nat->Option eF)(a:List cw):St:={ bj:=λt=>(a[t]?).getD .undef,mem }
def Iq(c:Ctx)(b:St):ResultVar->Tree cw
 | .tmp t=>.ret (b.bj t)
 | .cell a ty=>(na c (aa 0) ty (b.bj a) b).bind λτ=>.ret (τ.bj 0)
def GA(a:Ctx)(b:St):List ResultVar->Tree cw
 | []=>.ret .nl
 | r::rs=>(Iq a b r).bind λv=>(GA a b rs).bind λl=>.ret (.mix v l)
def results1(a:Ctx)(b:St):List ResultVar->Tree cw
 | [r]=>Iq a b r
 | rs=>(GA a b rs).bind λl=>.ret (.Ct l)
def ig(mem:Nat->Option eF):St:={ bj:=λ_=>.undef,mem }
def ajo(a:Ctx):List TypeId->Option (List Ty)
 | []=>aa []
 | t::r=>match find a.T t,ajo a r with
   | some u,aa l=>aa (u::l)
   | _,_=>af
def aeO(b:Ctx)(a:List TypeId):List Nat->Option (Bool×List Ty)
 | []=>af
 | m::r=>bif Nat.ble 7000000 m&&Nat.ble m 7999999 then(bif Nat.beq m 7999999 then(ajo b a).map λl=>(true,l) else(find b.T<|m-7000000).map λR=>(false,[R])) else aeO b a r
def spread(a:Bool)(v:cw):Nat->cw :=
 match a,v with
 | false,v=>λt=>bif Nat.beq t 0 then v else .undef
 | true,.Ct m=>λt=>match nth m t with|some u=>u|none=>.undef
 | true,_=>λ_=>.undef
def SI:cw->Nat
 | .mix _ b=>SI b+1
 | _=>0
def Vj(a:Bool)(v:cw)(n:Nat):Bool :=
 match a,v with
 | false,_=>Nat.beq n 1
 | true,.Ct m=>Nat.beq (SI m) n
 | true,_=>false
def ajR(a:Nat->cw):Nat->Nat->cw
 | _,0=>.nl
 | i,n+1=>.mix (a i) (ajR a (i+1) n)
def SJ(b:Bool)(n:Nat)(a:Nat->cw):cw :=
 match b with
 | false=>a 0
 | true=>.Ct (ajR a 0 n)
def aeP(a:Bool)(v:cw)(mem:Nat->Option eF):St:={ bj:=spread a v,mem }
def aaB:List Ty->Nat->List (Nat×Sh)
 | [],_=>[]
 | t::r,i=>(i,.d t)::aaB r (i+1)
def Yj:cw->cw
 | .whole _ _=>.undef
 | .mix a b=>.mix (Yj a) (Yj b)
 | v=>v
def GB:cw->List cw
 | .mix a b=>a::GB b
 | _=>[]
def Ar:(R:Ty)->cw->List cw
 | .pair _ .unit,v=>[v]
 | _,.Ct v=>GB v
 | _,v=>[v]
def chT:List Ty->Ty
 | t::r=>.pair t (chT r)
 | []=>.unit
def aeQ(R:List Ty)(F:(Nat->Option eF)->Tree (cw×(Nat->Option eF)))(a:Nat->Option eF):Tree (cw×(Nat->Option eF)) :=
 (F a).bind λr=>match gT (ig r.2) (chT R) (Ar (chT R) r.1) with
  | some (y,σ)=>.ret (sL (chT R) y,σ.mem)
  | none=>.fail
def aaC(R:Bool×List Ty)(args:List cw)(a:Nat->Option eF)(F:(Nat->Option eF)->Tree (cw×(Nat->Option eF))):Tree (cw×(Nat->Option eF)) :=
 match mkM (ig a) (SH (zb a<|args.map Yj)<|List.range args.length) with
 | none=>.fail
 | some m =>
   let k:Carry:=⟨aaB R.2 0,m,λ_ b=>b⟩
   let wr:=List.range R.2.length
   ((F (k.lock<|ig a).mem).bind λr=>bif Vj R.1 r.1 R.2.length then Tree.aeH (k.out false (ig a)<|aeP R.1 r.1 r.2) else .fail).join λx =>
    .ret (SJ R.1 R.2.length (k.sH false false wr (ig a) x).bj,(k.sH false false wr (ig a) x).mem)
def Mw(d:Ctx)(e:Nat)(p:Gx)(inl:Nat->List cw->St->Tree (cw×St))(f:Func)(c:Code)(a:List cw)(b:Nat->Option eF):Tree (cw×(Nat->Option eF)) :=
 (jS d e p.ajP inl c p.marks<|zb b a).bind λr =>
  bif Nat.beq r.1 0||Nat.beq r.1 1 then(results1 d r.2 f.results.toList).bind λv=>.ret (v,r.2.mem) else .fail
def EP(a:Ctx):Nat->(nb:Nat)->(ij:Nat->Gx)->Nat->List cw->(Nat->Option eF)->Tree (cw×(Nat->Option eF))
 | 0,_,_,_,_,_=>.fail
 | n+1,nb,ij,f,args,mem=>match find a.fns f with
   | some fn=>match fn.body with
     | some c=>match aeO a fn.resultTypes.toList (ij f).ajP with
       | none=>Mw a nb (ij f) (λg b σ=>(EP a n ((nb+g+1)*1000) ij g b σ.mem).bind λr=>.ret (r.1,{ σ with mem:=r.2 })) fn c args mem
       | some R=>aaC R args mem (aeQ R.2<|Mw a nb (ij f) (λg b σ=>(EP a n ((nb+g+1)*1000) ij g b σ.mem).bind λr=>.ret (r.1,{ σ with mem:=r.2 })) fn c args)
     | none=>.fail
   | none=>.fail
def Fu:(A:Ty)->A.den->List cw
 | .pair t r,x=>.data t x.1::Fu r x.2
 | _,_=>[]
def fk(k:Nat):Nat:=777000000+k
def JU:List Bool->(A U:Ty)->A.den->Nat->List cw
 | [],_,_,_,_=>[]
 | false::ps,A,U,x,k=>match A,x with
   | .pair t A,x=>.data t x.1::JU ps A U x.2 k
   | _,_=>[]
 | true::ps,A,U,x,k=>match U with
   | .pair _ U=>.ptr (fk k) 0 []::JU ps A U x (k+1)
   | _=>[]
def Ir:(U:Ty)->U.den->Nat->Nat->Option eF
 | .pair t U,u,k,b=>bif Nat.beq b (fk k) then aa { val:=.data t u.1,tid:=0,buf:=false,ro:=false,lk:=false,aR:=0 } else Ir U u.2 (k+1) b
 | _,_,_,_=>af
def GC(a:Nat->Option eF):(U:Ty)->Nat->Option U.den
 | .pair t U,k=>match a (fk k) with
   | some b=>bif Nat.beq b.aR 0&&!b.buf&&!b.ro then(match toS t b.val,GC a U (k+1) with
     | some x,aa u=>aa (x,u)
     | _,_=>af) else af
   | none=>af
 | .unit,_=>aa ()
 | _,_=>af
def alu(b:Ctx)(n:Nat)(a:Nat->Gx)(f:Nat)(c:List Bool)(A U R:Ty)(x:A.den×U.den):Option (R.den×U.den) :=
 ((EP b n 0 a f (JU c A U x.1 0)<|Ir U x.2 0).bind λr=>match gT (ig r.2) R (Ar R r.1) with
  | some (y,σ)=>(match GC σ.mem U 0 with
    | some u=>.ret (y,u)
    | none=>.fail)
  | none=>.fail).run
def ko:Nat:=776000000
def Mx:Ty->Nat->List (Nat×Nat)
 | .pair _ U,k=>(fk k,0)::Mx U (k+1)
 | _,_=>[]
def Yk(T F:Nat)(t U:Ty)(r:t.den):eF:={ val:=.mix (.data t r) (.mix (.fn F<|Mx U 0)<|.data .unit ()),tid:=T,buf:=false,ro:=false,lk:=true,aR:=0 }
def SK(T F:Nat)(t U:Ty)(r:t.den)(u:U.den)(b:Nat):Option eF:=bif Nat.beq b ko then aa (Yk T F t U r) else Ir U u 0 b
def alv(b:Ctx)(n:Nat)(a:Nat->Gx)(f:Nat)(T F:Nat)(t A U R:Ty)(x:(t.den×A.den)×U.den):Option (R.den×U.den) :=
 ((EP b n 0 a f (.ptr ko 0 []::Fu A x.1.2)<|SK T F t U x.1.1 x.2).bind λr=>match gT (ig r.2) R (Ar R r.1) with
  | some (y,σ)=>(match GC σ.mem U 0 with
    | some u=>.ret (y,u)
    | none=>.fail)
  | none=>.fail).run
def sem(b:Ctx)(n:Nat)(a:Nat->Gx)(f:Nat)(A R:Ty)(x:A.den):Option R.den :=
 ((EP b n 0 a f (Fu A x) λ_=>af).bind λr=>match jJ (ig r.2) R (Ar R r.1) with
  | some y=>.ret y
  | none=>.fail).run
end Go.Ge
