import Derived.WalkKit
set_option linter.unusedVariables false
set_option linter.unusedSectionVars false
set_option linter.unusedSimpArgs false
set_option linter.defProp false
open Option renaming some->aa,none->af
def ag{p:Prop}(h:p:=by omega):p:=h
def aD{p:Prop}(h:p:=by decide):p:=h
def aS{p:Prop}(h:p:=by simp):p:=h
def cJ{p:Prop}(h:p:=by simp;omega):p:=h
def xZ{p:Prop}(h:p:=by dsimp only;omega):p:=h
def cg{p:Prop}(h:p:=by intro k;cases k):p:=h
def Bz{p:Prop}(h:p:=by intro x k;cases k):p:=h
abbrev bg:=List UInt8
abbrev aj:=Unit
abbrev aF:=@Option.some.inj
abbrev aJ:=@if_neg
abbrev cm:=@decide_eq_false
abbrev aN:=@if_pos
abbrev fX:=@List.getElem?_eq_getElem
abbrev dn:=@decide_eq_true
abbrev gA:=@Nat.eq_of_beq_eq_true
abbrev gz:=@Bool.and_eq_true
abbrev jt:=@List.length_append
abbrev eh:=@Prod.mk.inj
abbrev dW:=@List.mem_of_getElem?
abbrev dk:=@List.length_take
abbrev bX:=@Nat.le_refl
abbrev hR:=@List.getElem?_eq_some_iff
abbrev gN:=@Nat.mul_le_mul_right
abbrev fU:=@of_decide_eq_true
abbrev jq:=@List.getElem?_take
abbrev gO:=@decide_eq_decide
abbrev fI:=@List.mem_cons
abbrev iE:=@List.length_cons
abbrev gi:=@Nat.le_trans
abbrev wL:=@Array.getElem?_eq_some_iff
abbrev vk:=@List.head_eq_of_cons_eq
abbrev qT:=@List.mem_cons_self
abbrev BA:=@List.takeWhile_append_dropWhile
abbrev iF:=@Nat.add_mul
abbrev qU:=@List.length_drop
abbrev tu:=@List.getElem?_drop
abbrev yG:=@List.length_eq_zero_iff
abbrev pM:=@List.length_nil
abbrev vK:=@List.mem_cons_of_mem
abbrev BB:=@Classical.byContradiction
abbrev yH:=@List.getElem?_eq_none
abbrev BK:=@List.drop_eq_getElem_cons
abbrev BC:=@Option.bind_eq_some_iff
abbrev wM:=@of_decide_eq_false
abbrev vL:=@List.append_assoc
abbrev vM:=@Int.toNat_natCast
abbrev zd:=@List.mem_append_left
abbrev Ad:=@List.mem_append_right
abbrev wN:=@List.take_add_one
abbrev vN:=@List.all_eq_true
abbrev vl:=@List.append_nil
abbrev pF:=@Nat.zero_le
abbrev zf:=@Nat.lt_of_lt_of_le
abbrev rR:=@Nat.lt_or_ge
abbrev wO:=@Nat.min_eq_left
abbrev yI:=@List.take_length
abbrev El:=@Option.map_eq_some_iff
abbrev Ae:=@decide_eq_true_eq
abbrev DC:=@List.mem_of_mem_take
abbrev yJ:=@List.length_map
abbrev tc:=@Int.le_refl
abbrev Fj:=@List.drop_of_length_le
abbrev zg:=@List.mem_filter
abbrev Fk:=@List.take_append_drop
abbrev DD:=@List.mem_singleton
abbrev DE:=@List.ext_getElem?
abbrev DF:=@Bool.not_eq_true'
abbrev BL:=@Array.toList_inj
abbrev Af:=@List.drop_drop
abbrev JG:=@List.take_of_length_le
abbrev Lc:=@Option.isSome_iff_exists
abbrev Em:=@List.getElem?_map
abbrev JH:=@Nat.le_of_ble_eq_true
abbrev Fl:=@List.pairwise_cons
abbrev WK:=@List.findIdx?_eq_some_iff_getElem
abbrev JI:=@List.getElem?_range
abbrev Q9:=@List.pairwise_iff_getElem
abbrev DG:=@List.drop_zero
abbrev BD:=@Nat.zero_add
abbrev Tt:=@Array.getD_eq_getD_getElem?
abbrev Ld:=@List.filter_eq_self
abbrev wP:=@cond_true
abbrev En:=@Nat.add_assoc
abbrev Ra:=@List.length_singleton
abbrev Lf:=@Option.some.injEq
abbrev Lg:=@List.size_toArray
abbrev BE:=@Nat.mod_lt
abbrev JJ:=@List.nil_append
abbrev BF:=@cond_false
abbrev Rb:=@List.getElem?_append
abbrev Rc:=@Bool.or_eq_false_iff
abbrev aau:=@List.find?_eq_some_iff_getElem
abbrev Lh:=@List.cons_append
abbrev aav:=@List.drop_append_of_le_length
abbrev WL:=@Bool.eq_false_or_eq_true
abbrev Li:=@Bool.or_eq_true
abbrev Hf:=@Nat.succ_mul
abbrev Lj:=@List.drop_left
abbrev Lk:=@List.mem_range
abbrev Re:=@List.length_range
abbrev Oi:=@List.mem_append
abbrev acQ:=@List.take_append_of_le_length
abbrev Rf:=@List.mem_flatMap
abbrev Tu:=@List.find?_eq_none
abbrev Oj:=@List.take_take
abbrev Rg:=@Bool.eq_iff_iff
abbrev Tv:=@List.any_eq_true
abbrev Tw:=@List.drop_length
abbrev PG:=@List.mem_iff_getElem?
abbrev Tz:=@List.getElem?_append_left
abbrev TA:=@List.mem_of_find?_eq_some
abbrev DT:=@Nat.le_of_eq
abbrev PH:=@List.mem_of_mem_drop
abbrev Ll:=@Nat.lt_trichotomy
abbrev PI:=@List.length_reverse
abbrev TB:=@Array.getElem?_eq_none
abbrev Fm:=@Nat.add_zero
abbrev TC:=@Array.getElem?_modify
abbrev TD:=@List.length_filter_le
abbrev TE:=@List.dropLast_eq_take
abbrev YS:=@List.findIdx?_eq_none_iff
abbrev Fo:=@Nat.mul_one
abbrev x9:=@if_true
abbrev PJ:=@Option.bind_some
abbrev TF:=@Array.length_toList
abbrev TG:=@List.dropWhile_cons
abbrev TH:=@List.length_pos_iff
abbrev YT:=@Int.eq_ofNat_of_zero_le
abbrev PK:=@Option.map_some
abbrev TI:=@decide_eq_true_iff
abbrev YU:=@List.length_eq_one_iff
abbrev TJ:=@Nat.le_succ_of_le
abbrev YV:=@Classical.choose_spec
abbrev YW:=@Nat.div_lt_iff_lt_mul
abbrev Lm:=@List.mem_map
abbrev YX:=@List.eq_nil_or_concat
abbrev acR:=@List.take_length_add_append
abbrev TK:=@Nat.lt_succ_self
abbrev YY:=@List.getElem?_set_ne
abbrev acS:=@List.getElem?_append_right
abbrev YZ:=@Array.toList_append
abbrev Y0:=@List.map_congr_left
abbrev Y1:=@List.takeWhile_cons
abbrev Y2:=@List.take_succ_cons
abbrev TL:=@Nat.div_add_mod
abbrev TM:=@UInt8.toNat_inj
abbrev TN:=@List.map_append
abbrev Y3:=@Nat.eq_zero_or_pos
abbrev Y4:=@BitVec.toNat_ofInt
abbrev TO:=@List.take_left
abbrev acT:=@List.getElem?_replicate
abbrev acU:=@List.getElem?_set_self
abbrev TP:=@List.map_cons
abbrev Y5:=@Nat.lt_of_not_le
abbrev Y6:=@List.not_mem_nil
abbrev ahV:=@List.length_filter_eq_length_iff
abbrev acV:=@List.length_replicate
abbrev acW:=@Array.getElem?_toList
abbrev acX:=@Array.mem_of_getElem?
abbrev acY:=@BitVec.eq_of_toNat_eq
abbrev acZ:=@List.concat_eq_append
abbrev ahW:=@List.mk_mem_zipIdx_iff_getElem?
abbrev TQ:=@Nat.mul_comm
abbrev Y7:=@List.length_set
abbrev Y8:=@List.find?_some
abbrev ac0:=@List.getElem_of_mem
abbrev ac1:=@Int.toNat_of_nonneg
abbrev Y9:=@List.drop_take
abbrev ahX:=@Array.getElem?_setIfInBounds
abbrev IM:=@Ne.symm
abbrev Za:=@List.mapM_cons
abbrev ahY:=@List.dropLast_concat_getLast
abbrev TR:=@Sum.inl.inj
abbrev TS:=@Nat.sub_mul
abbrev ac2:=@List.filter_append
abbrev ahZ:=@Int.fdiv_eq_ediv_of_nonneg
abbrev ah0:=@Array.getElem?_append_left
abbrev ah1:=@List.getD_eq_getElem?_getD
abbrev ac3:=@List.flatMap_cons
abbrev ac4:=@List.getElem_take
abbrev ah2:=@List.getElem?_zip_eq_some
abbrev Zb:=@Nat.add_comm
abbrev ac5:=@Array.toList_map
abbrev ah3:=@Array.setIfInBounds_comm
abbrev ac6:=@List.filter_cons
abbrev ac7:=@List.getElem_mem
abbrev ah4:=@List.getElem?_cons_zero
abbrev ah5:=@List.getElem?_cons_succ
abbrev ah6:=@List.filter_cons_of_pos
abbrev ac8:=@List.cons.injEq
abbrev ac9:=@List.foldl_cons
abbrev ada:=@List.nodup_cons
abbrev adb:=@List.range_succ
abbrev Zc:=@decide_true
abbrev ade:=@List.take_zero
abbrev adf:=@Nat.mul_le_mul
abbrev ah7:=@List.getElem?_toArray
abbrev adg:=@Bool.and_false
abbrev TT:=@and_true
abbrev TU:=@and_self
abbrev TV:=@Eq.trans
abbrev adh:=@List.cons.inj
abbrev adi:=@Bool.or_assoc
abbrev adj:=@Bool.false_or
abbrev adk:=@List.all_cons
abbrev adl:=@Bool.and_true
abbrev adm:=@Nat.beq_refl
abbrev adn:=@Nat.zero_mul
abbrev ado:=@Nat.min_self
abbrev adp:=@Int.sub_zero
noncomputable section
namespace Go.Ge
inductive Ty where
 | int (k:IntKind)|bool|str|slice (e:Ty)|arr (n:Nat) (e:Ty)|pair (a b:Ty)|unit
 | alt (u:Nat) (a r:Ty)|BM
def Ty.den:Ty->Type
 | .int _=>Int
 | .bool=>Bool
 | .str=>bg
 | .slice e=>List e.den
 | .arr _ e=>List e.den
 | .pair a b=>a.den×b.den
 | .unit=>aj
 | .alt _ a r=>a.den⊕r.den
 | .BM=>aj
def Ba:IntKind->Nat
 | .i8=>0|.i16=>1|.i32=>2|.i64=>3|.u8=>4|.u16=>5|.u32=>6|.u64=>7
def zh{a b:IntKind}(h:Nat.beq (Ba a) (Ba b)=true):a=b:=by
 cases a<;>cases b<;>first|rfl|(exact absurd h aD)
def Ty.beq:Ty->Ty->Bool
 | .int k,.int g=>Nat.beq (Ba k) (Ba g)
 | .bool,.bool=>true
 | .str,.str=>true
 | .slice e,.slice f=>Ty.beq e f
 | .arr n e,.arr m f=>Nat.beq n m&&Ty.beq e f
 | .pair a b,.pair c d=>Ty.beq a c&&Ty.beq b d
 | .unit,.unit=>true
 | .alt u a r,.alt v b s=>Nat.beq u v&&(Ty.beq a b&&Ty.beq r s)
 | .BM,.BM=>true
 | _,_=>false
def Ty.eq_of_beq:∀{a b:Ty},Ty.beq a b=true->a=b:=by
 intro a;induction a with
 | int k=>intro b h;cases b<;>first|(exact congrArg _<|zh h)|(cases h)
 | bool=>intro b h;cases b<;>first|rfl|(cases h)
 | str=>intro b h;cases b<;>first|rfl|(cases h)
 | slice e f=>intro b h;cases b<;>first|(exact congrArg _<|f h)|(cases h)
 | arr n e f =>
   intro b h;cases b<;>first|(cases h;done)|skip
   simp only[Ty.beq,gz] at h;rw[gA h.1,f h.2]
 | pair a b d g =>
   intro c h;cases c<;>first|(cases h;done)|skip
   simp only[Ty.beq,gz] at h;rw[d h.1,g h.2]
 | unit=>intro b h;cases b<;>first|rfl|(cases h)
 | alt u a r d i =>
   intro c h;cases c<;>first|(cases h;done)|skip
   simp only[Ty.beq,gz] at h;rw[gA h.1,d h.2.1,i h.2.2]
 | BM=>intro b h;cases b<;>first|rfl|(cases h)
def Ty.to(t u:Ty)(x:t.den):Option u.den :=
 if h:Ty.beq t u=true then aa ((Ty.eq_of_beq h)▸x) else af
def Ty.beq_refl(t:Ty):Ty.beq t t=true:=by
 induction t with
 | int k=>cases k<;>rfl
 | bool=>rfl
 | str=>rfl
 | slice e d=>exact d
 | arr n e d=>simp[Ty.beq,d]
 | pair a b c f=>simp[Ty.beq,c,f]
 | unit=>rfl
 | alt u a r c g=>simp[Ty.beq,c,g]
 | BM=>rfl
def Ty.lO{t u:Ty}{x:t.den}{y:u.den}(h:Ty.to t u x=aa y):∃e:t=u,y=e▸x:=by
 unfold Ty.to at h;split at h
 .rename_i a;exact⟨Ty.eq_of_beq a,by simpa using h.symm⟩
 .cases h
def toL(t u:Ty)(l:List t.den):Option (List u.den) :=
 if h:Ty.beq t u=true then aa ((Ty.eq_of_beq h)▸l) else af
def mn{t u:Ty}{l:List t.den}{m:List u.den}(h:toL t u l=aa m):∃e:t=u,m=e▸l:=by
 unfold toL at h;split at h
 .rename_i a;exact⟨Ty.eq_of_beq a,by simpa using h.symm⟩
 .cases h
def Ty.size:Ty->Nat
 | .int _|.bool|.str|.slice _=>1
 | .arr n e=>n*e.size
 | .pair a b=>a.size+b.size
 | .unit=>0
 | .alt _ _ r=>r.size
 | .BM=>1
def Ty.isAgg:Ty->Bool
 | .arr ..|.pair ..|.unit=>true
 | .alt _ _ r=>r.isAgg
 | _=>false
def Ty.zero:(t:Ty)->t.den
 | .int _=>(0:Int)
 | .bool=>false
 | .str=>([]:bg)
 | .slice _=>[]
 | .arr n e=>List.replicate n e.zero
 | .pair a b=>(a.zero,b.zero)
 | .unit=>()
 | .alt _ _ r=>.inr r.zero
 | .BM=>()
def ak{α:Type}(c:Bool)(x y:α):α:=bif c then x else y
def ae{a b:Type}(o:Option a)(f:a->Option b):Option b:=o.bind f
def nt(b:Bool):Bool:=!b
def an(a b:Bool):Bool:=a&&b
def oor(a b:Bool):Bool:=a||b
def aG(a b:Int):Bool:=decide (a=b)
def cK(a b:Nat):Bool:=Nat.beq a b
def aU(a b:Int):Bool:=decide (a<b)
def cw(a b:Int):Bool:=decide (a<=b)
def br(a b:bg):Bool:=decide (a=b)
def fM(a b:bg):Bool:=Op.bytesLess a b
def eqL(a b:List Int):Bool:=decide (a=b)
def eqB(a b:Bool):Bool:=a==b
def cl{S:Type}(o:Option (S⊕(Nat×S))):Option (S⊕S):=o.map λr=>match r with|.inl x=>.inl x|.inr y=>.inr y.2
def aw(k:IntKind)(a b:Int):Int:=k.wrap (a+b)
def cH(k:IntKind)(a b:Int):Int:=k.wrap (a-b)
def jr(k:IntKind)(a b:Int):Int:=k.wrap (a*b)
def Hg(k:IntKind)(a b:Int):Int:=k.wrap (a.tdiv b)
def eU(a b:Int):Int:=a.tmod b
def ju(k:IntKind)(a:Int):Int:=k.wrap a
def gP(k:IntKind)(x y:Int):Int:=k.wrap (BitVec.ofInt k.bits x &&& BitVec.ofInt k.bits y).toNat
def Ac(k:IntKind)(x y:Int):Int:=k.wrap (BitVec.ofInt k.bits x ||| BitVec.ofInt k.bits y).toNat
def fN(k:IntKind)(x y:Int):Int:=k.wrap (BitVec.ofInt k.bits x ^^^ BitVec.ofInt k.bits y).toNat
def aj6(k:IntKind)(x y:Int):Int:=k.wrap (BitVec.ofInt k.bits x &&& ~~~BitVec.ofInt k.bits y).toNat
def aiB(a b:Int):Int:=bif decide (b<a) then b else a
def imax(a b:Int):Int:=bif decide (a<b) then b else a
def nO(k:IntKind)(a b:Int):Int:=k.wrap (a*2 ^ (min b.toNat k.bits))
def jv(k:IntKind)(a b:Int):Int:=a.fdiv (2 ^ (min b.toNat k.bits))
def plus(a b:Int):Int:=a+b
def minus(a b:Int):Int:=a-b
def len{α:Type}(l:List α):Int:=l.length
def ef{p:Prop}(h:p:=by unfold len;omega):p:=h
def app{α:Type}(l m:List α):List α:=l++m
def one{a:Type}(x:a):List a:=[x]
def idx{α:Type}(l:List α)(i:Int):Option α:=if 0<=i then l[i.toNat]? else af
def ky{α:Type}(l:List α)(i:Int)(x:α):List α:=l.set i.toNat x
def lP{a:Type}(n:Int)(x:a):List a:=List.replicate n.toNat x
def sub{α:Type}(l:List α)(a n:Int):List α:=(l.drop a.toNat).take n.toNat
def mo{α:Type}(l:List α)(n:Int):List α:=l.take n.toNat
def over{α:Type}(l:List α)(a:Int)(c:List α):List α:=l.take a.toNat++c++l.drop (a.toNat+c.length)
def pick{d e c:Type}(f:d->c)(g:e->c)(x:d⊕e):c:=match x with|.inl a=>f a|.inr b=>g b
def u8(b:UInt8):Int:=(b.toNat:Int)
def ax(s:bg):List Int:=s.map λb=>(b.toNat:Int)
def bm(l:List Int):bg:=l.map λn=>UInt8.ofNat n.toNat
def fits(n:Int):Bool:=decide (n<=4294967296)
def inside(a b n:Int):Bool:=decide (0<=a)&&decide (a<=b)&&decide (b<=n)
def within(i n:Int):Bool:=decide (0<=i)&&decide (i<n)
inductive Tree (α:Type):Type 1 where
 | ret (a:α)
 | fail
 | node (c:Bool) (t e:Tree α)
 | look {T:Type} (o:Option T) (k:T->Tree α)
namespace Tree
def bind{α b:Type}:Tree α->(α->Tree b)->Tree b
 | .ret a,f=>f a
 | .fail,_=>.fail
 | .node c t e,f=>.node c (t.bind f) (e.bind f)
 | .look o k,f=>.look o λx=>(k x).bind f
def run{α:Type}:Tree α->Option α
 | .ret a=>aa a
 | .fail=>af
 | .node c t e=>ak c t.run e.run
 | .look o k=>ae o λx=>(k x).run
def join{T a:Type}(t:Tree T)(k:T->Tree a):Tree a :=
 match t with
 | .ret x=>k x
 | .node c (.ret x) (.ret y)=>k (ak c x y)
 | t=>.look t.run k
def jw{α:Type}(c:Bool)(t:Tree α):Tree α:=.node c t .fail
def adq{b:Type}:Option b->Tree b
 | some a=>.ret a
 | none=>.fail
end Tree
inductive Sel where
 | gB (k off:Nat)
 | idx (i:Int) (size:Nat)
inductive ch where
 | undef
 | data (t:Ty) (x:t.den)
 | pN
 | uO
 | uP
 | ya (b aM:Nat)
 | cell (t:Ty) (x:t.den)
 | ptr (b aM:Nat) (p:List Sel)
 | whole (b aM:Nat)
 | part (b aM:Nat) (lo n:Int)
 | win (b aM:Nat) (q:List Sel) (e:Ty) (k:Nat) (lo n:Int)
 | fn (f:Nat) (aax:List (Nat×Nat))
 | mix (a b:ch)
 | BI (vs:ch)
 | nl
structure Box where
 val:ch
 tid:TypeId
 buf:Bool
 ro:Bool
 lk:Bool
 aM:Nat
structure St where
 bb:Nat->ch
 mem:Nat->Option Box
structure Rh where
 A:Ty
 R:Ty
 spec:A.den->Option R.den
structure TW where
 ps:List Bool
 A:Ty
 U:Ty
 R:Ty
 spec:A.den×U.den->Option (R.den×U.den)
structure Fq where
 T:Nat
 t:Ty
 F:Nat
 A:Ty
 U:Ty
 R:Ty
 spec:(t.den×A.den)×U.den->Option (R.den×U.den)
inductive DH where
 | dat (t:Ty)
 | buf (e:Ty) (eid:Nat)
 | one
 | self
 | fnc
inductive Spc where
 | chk (T:Nat)
 | str (T E:Nat)
 | clone (e:Ty)
 | own (e A:Ty) (res:Bool) (spec:List e.den->A.den->Option (List e.den))
structure Ctx where
 T:List (Nat×Ty)
 uQ:List Nat
 DI:List Nat
 fns:List (Nat×Func)
 TX:List (Nat×Rh)
 Ol:List (Nat×TW)
 vO:List (Nat×List DH)
 PL:List (Nat×Spc)
 els:List (Nat×Nat)
 inv:List (String×Rh)
 Ri:List (Nat×Fq)
def PM{b:Type}:List (String×b)->String->Option b
 | [],_=>af
 | (i,a)::r,k=>bif decide (i=k) then aa a else PM r k
def find{α:Type}:List (Nat×α)->Nat->Option α
 | [],_=>af
 | (i,a)::r,k=>bif Nat.beq i k then aa a else find r k
def St.put(a:St)(d:Nat)(v:ch):St:={ a with bb:=λt=>bif Nat.beq t d then v else a.bb t }
def St.bt(a:St)(d:Option Nat)(v:ch):St:=match d with|some d=>a.put d v|none=>a
def St.cr(a:St)(b:Nat)(x:Box):St:={ a with mem:=λi=>bif Nat.beq i b then aa x else a.mem i }
def St.bu{c:Type}(a:St)(b:Nat)(val:ch)(tid:TypeId)(buf:Bool)(k:Nat->St->Tree c):Tree c :=
 match a.mem b with
 | some bx=>bif bx.lk then .fail else k (bx.aM+1) (a.cr b { val,tid,buf,ro:=false,lk:=false,aM:=bx.aM+1 })
 | none=>k 0 (a.cr b { val,tid,buf,ro:=false,lk:=false,aM:=0 })
def cU:List Nat->Nat->Bool
 | [],_=>false
 | i::r,t=>Nat.beq t i||cU r t
def Ln:Value->ch
 | .int k n=>bif decide (k.min<=n)&&decide (n<=k.max) then .data (.int k) n else .undef
 | .bool b=>.data .bool b
 | .string s=>bif Nat.ble s.data.toList.length 4294967296 then .data .str s.data.toList else .undef
 | .pointer af=>.uO
 | .nilIface=>.uP
 | .slice af 0 0=>.pN
 | _=>.undef
def cW(a:St):Operand->ch
 | .tmp t=>a.bb t
 | .const v=>Ln v
 | .func f=>.fn f []
 | .global _=>.undef
def iG:Ty->Nat->Option Nat
 | .pair _ _,0=>aa 0
 | .pair a b,k+1=>(iG b k).map (a.size+·)
 | _,_=>af
def dS:ch->Nat
 | .data t _=>t.size
 | .mix a b=>dS a+dS b
 | .nl=>0
 | _=>1
def yK:(t:Ty)->t.den->Nat->Option (Nat×ch)
 | .pair a _,x,0=>aa (0,.data a x.1)
 | .pair a b,x,k+1=>match yK b x.2 k with|some r=>aa (a.size+r.1,r.2)|none=>af
 | _,_,_=>af
def vB:ch->Nat->Option (Nat×ch)
 | .data t x,k=>yK t x k
 | .mix a _,0=>aa (0,a)
 | .mix a b,k+1=>match vB b k with|some r=>aa (dS a+r.1,r.2)|none=>af
 | _,_=>af
def toD(t:Ty):ch->Option t.den
 | .data u x=>Ty.to u t x
 | .pN=>match t with|.slice _=>aa []|_=>af
 | _=>af
def toS(t:Ty):ch->Option t.den
 | .data u x=>Ty.to u t x
 | _=>af
def Rj:(t:Ty)->t.den->Nat->(ch->Tree ch)->Tree t.den
 | .pair a b,x,0,f=>(f<|.data a x.1).bind λv=>match toS a v with
   | some y=>.ret (y,x.2)
   | none=>.fail
 | .pair a b,x,k+1,f=>(Rj b x.2 k f).bind λy=>.ret (x.1,y)
 | _,_,_,_=>.fail
def Eo:ch->Nat->(ch->Tree ch)->Tree ch
 | .data t x,k,f=>(Rj t x k f).bind λy=>.ret (.data t y)
 | .mix a b,0,f=>(f a).bind λv=>.ret (.mix v b)
 | .mix a b,k+1,f=>(Eo b k f).bind λv=>.ret (.mix a v)
 | _,_,_=>.fail
def nav:List Sel->ch->Tree ch
 | [],v=>.ret v
 | .gB k off::p,v=>match vB v k with
   | some (o,u)=>bif Nat.beq o off then nav p u else .fail
   | none=>.fail
 | .idx i size::p,v=>match v with
   | .data (.arr _ e) l=>bif Nat.beq size e.size then .look (idx (α:=e.den) l i) λx=>nav p (.data e x) else .fail
   | _=>.fail
def agn(a:Bool)(p:List Sel)(v:ch):Tree ch :=
 match a with
 | false=>nav p v
 | true=>match p,v with
   | .idx i size::p,.data (.slice e) l=>bif Nat.beq size e.size then .look (idx (α:=e.den) l i) λx=>nav p (.data e x) else .fail
   | _,_=>.fail
def Ag:List Sel->ch->ch->Tree ch
 | [],_,u=>.ret u
 | .gB k off::p,v,u=>Eo v k λw=>Ag p w u
 | .idx i size::p,v,u=>match v with
   | .data (.arr n e) l=>.look (idx (α:=e.den) l i) λx=>(Ag p (.data e x) u).bind λw=>match toS e w with
     | some y=>.ret (.data (.arr n e)<|ky (α:=e.den) l i y)
     | none=>.fail
   | _=>.fail
def Rk(a:Bool)(p:List Sel)(v u:ch):Tree ch :=
 match a with
 | false=>Ag p v u
 | true=>match p,v with
   | .idx i size::p,.data (.slice e) l=>.look (idx (α:=e.den) l i) λx=>(Ag p (.data e x) u).bind λw=>match toS e w with
     | some y=>.ret (.data (.slice e)<|ky (α:=e.den) l i y)
     | none=>.fail
   | _,_=>.fail
namespace Tree
def run_bind{α g:Type}(t:Tree α)(f:α->Tree g):(t.bind f).run=t.run.bind λa=>(f a).run:=by
 induction t with
 | ret a=>rfl
 | fail=>rfl
 | node c t e b d=>cases c<;>simp[bind,run,b,d,ak]
 | look o k h=>cases o<;>simp[bind,run,h,ae]
def wQ{T b:Type}(t:Tree T)(k:T->Tree b):(t.join k).run=t.run.bind λa=>(k a).run:=by
 unfold join;split
 .rfl
 .rename_i c x y;cases c<;>rfl
 .rfl
end Tree
def uR:Ty->Nat->Option Ty
 | .pair a _,0=>aa a
 | .pair _ b,k+1=>uR b k
 | _,_=>af
def Ty.flat:Ty->Bool
 | .slice _=>false
 | .arr _ e=>e.flat
 | .pair a b=>a.flat&&b.flat
 | .alt _ a r=>a.flat&&r.flat
 | _=>true
def Box.row(bx:Box):Option (Ty×Nat) :=
 match bx.buf,bx.val with
 | true,.data (.slice e) l=>aa (e,List.length (α:=e.den) l)
 | false,.data (.arr n e) _=>aa (e,n)
 | _,_=>af
def jx(e:Ty)(c:St):ch->Option (List e.den)
 | .data (.slice u) l=>toL u e l
 | .pN=>aa []
 | .whole b aM=>match c.mem b with
   | some a=>bif Nat.beq a.aM aM&&a.buf then(match a.val with|.data (.slice u) l=>toL u e l|_=>af) else af
   | none=>af
 | .part b aM lo n=>match c.mem b with
   | some a=>bif Nat.beq a.aM aM then(match a.buf,a.val with
     | true,.data (.slice u) l=>toL u e (sub (α:=u.den) l lo n)
     | false,.data (.arr _ u) l=>toL u e (sub (α:=u.den) l lo n)
     | _,_=>af) else af
   | none=>af
 | _=>af
def live(c:St)(b a:Nat):Bool:=match c.mem b with|some d=>Nat.beq d.aM a|none=>false
def td(c:St):(t:Ty)->ch->Option t.den
 | .slice e,v=>(jx e c v:Option (List e.den))
 | .pair a b,v=>match v with
   | .data u x=>Ty.to u (.pair a b) x
   | .mix p q=>(match td c a p,td c b q with
     | some x,aa y=>aa (x,y)
     | _,_=>af)
   | _=>af
 | .alt n a r,v=>match v with
   | .data u x=>Ty.to u (.alt n a r) x
   | .uP=>match td c r .uP with
     | some x=>aa (.inr x)
     | none=>af
   | _=>af
 | .BM,v=>match v with
   | .data u x=>Ty.to u .BM x
   | .uP=>aa ()
   | _=>af
 | t,v=>match v with
   | .data u x=>Ty.to u t x
   | _=>af
def freeze(a:St)(b:Nat):Option St :=
 match a.mem b with
 | some c=>bif c.ro then aa a else bif c.lk then af else aa (a.cr b { c with ro:=true })
 | none=>af
def jj(a:St):ch->Option St
 | .whole b _=>freeze a b
 | .part b _ _ _=>freeze a b
 | .mix v w=>match jj a v with
   | some a=>jj a w
   | none=>af
 | _=>aa a
def BN(a:St)(t:Ty)(v:ch):Option (t.den×St) :=
 match v with
 | .data u x=>match Ty.to u t x with|some y=>aa (y,a)|none=>af
 | v=>match td a t v,jj a v with
   | some x,aa a=>aa (x,a)
   | _,_=>af
def jk(σ:St):(A:Ty)->List ch->Option A.den
 | .unit,[]=>aa ()
 | .pair t r,v::vs=>match td σ t v,jk σ r vs with
   | some x,aa y=>aa (x,y)
   | _,_=>af
 | _,_=>af
def gD(a:St):(A:Ty)->List ch->Option (A.den×St)
 | .unit,[]=>aa ((),a)
 | .pair t r,v::vs=>match BN a t v with
   | some (x,a)=>match gD a r vs with
     | some (y,a)=>aa ((x,y),a)
     | none=>af
   | none=>af
 | _,_=>af
def BO:(R:Ty)->R.den->ch
 | .pair t r,x=>.mix (.data t x.1) (BO r x.2)
 | _,_=>.nl
def rS(R:Ty)(x:R.den):ch :=
 match R,x with
 | .pair t .unit,x=>.data t x.1
 | R,x=>.BI (BO R x)
def nth:ch->Nat->Option ch
 | .mix a _,0=>aa a
 | .mix _ b,k+1=>nth b k
 | _,_=>af
def bitsOf(a:BinOp)(k:IntKind)(x y:Int):Option Int :=
 match a with
 | .and=>aa (gP k x y)
 | .or=>aa (Ac k x y)
 | .xor=>aa (fN k x y)
 | .andNot=>aa (aj6 k x y)
 | _=>af
def Ty.eqv:(t:Ty)->t.den->t.den->Option Bool
 | .int _,x,y=>aa (aG x y)
 | .bool,x,y=>aa (eqB x y)
 | .str,x,y=>aa (br x y)
 | .pair a b,x,y=>match Ty.eqv a x.1 y.1,Ty.eqv b x.2 y.2 with
   | some p,aa q=>aa (an p q)
   | _,_=>af
 | .unit,_,_=>aa true
 | .arr _ e,x,y=>match e,x,y with
   | .int _,x,y=>aa (eqL x y)
   | _,_,_=>af
 | _,_,_=>af
def Ty.JK:Ty->Nat
 | .pair a b=>a.JK+b.JK+1
 | .arr _ e=>e.JK+1
 | _=>1
def WM(d:BinOp)(k:IntKind)(a b:Int):Tree ch :=
 match d with
 | .add=>.ret (.data (.int k)<|aw k a b)
 | .sub=>.ret (.data (.int k)<|cH k a b)
 | .mul=>.ret (.data (.int k)<|jr k a b)
 | .quo=>.node (aG b 0) .fail (.ret<|.data (.int k)<|Hg k a b)
 | .rem=>.node (aG b 0) .fail (.ret<|.data (.int k)<|eU a b)
 | .eql=>.ret (.data .bool<|aG a b)
 | .neq=>.ret (.data .bool<|nt<|aG a b)
 | .lss=>.ret (.data .bool<|aU a b)
 | .leq=>.ret (.data .bool<|cw a b)
 | .gtr=>.ret (.data .bool<|aU b a)
 | .geq=>.ret (.data .bool<|cw b a)
 | d=>match bitsOf d k a b with
   | some c=>.ret (.data (.int k) c)
   | none=>.fail
def WN(a:BinOp)(x y:bg):Tree ch :=
 match a with
 | .add=>.jw (fits<|plus (len x)<|len y) (.ret<|.data .str<|app x y)
 | .eql=>.ret (.data .bool<|br x y)
 | .neq=>.ret (.data .bool<|nt<|br x y)
 | .lss=>.ret (.data .bool<|fM x y)
 | .leq=>.ret (.data .bool<|oor (fM x y)<|br x y)
 | .gtr=>.ret (.data .bool<|nt<|oor (fM x y)<|br x y)
 | .geq=>.ret (.data .bool<|nt<|fM x y)
 | _=>.fail
def isEq:BinOp->Option Bool
 | .eql=>aa true
 | .neq=>aa false
 | _=>af
def Fs:BinOp->Option Bool
 | .shl=>aa true
 | .shr=>aa false
 | _=>af
def Hh(o:Option Ty)(t:Ty):Bool:=match o with|some u=>Ty.beq u t|none=>false
def bin(f:Option Ty)(g:Bool)(d:BinOp)(x y:ch):Tree ch :=
 match x,y with
 | .data (.int k) a,.data (.int h) b =>
   match Fs d with
   | some left=>.node (aU b 0) .fail (.ret<|.data (.int k)<|bif left then nO k a b else jv k a b)
   | none=>bif Nat.beq (Ba k) (Ba h) then WM d k a b else .fail
 | .data .str a,.data .str b=>WN d a b
 | .data .bool a,.data .bool b=>bif Hh f .bool then(match isEq d with
   | some true=>.ret (.data .bool<|eqB a b)
   | some false=>.ret (.data .bool<|nt<|eqB a b)
   | none=>.fail) else .fail
 | .data (.pair a b) x,.data t y=>bif Hh f (.pair a b)&&Nat.ble (Ty.pair a b).JK 9000 then(match Ty.to t (.pair a b) y,isEq d with
   | some y,aa e=>match Ty.eqv (.pair a b) x y with
     | some c=>.ret (.data .bool<|bif e then c else nt c)
     | none=>.fail
   | _,_=>.fail) else .fail
 | .data (.arr n e) x,.data t y=>bif Hh f (.arr n e)&&Nat.ble (Ty.arr n e).JK 9000 then(match Ty.to t (.arr n e) y,isEq d with
   | some y,aa q=>match Ty.eqv (.arr n e) x y with
     | some c=>.ret (.data .bool<|bif q then c else nt c)
     | none=>.fail
   | _,_=>.fail) else .fail
 | .uO,.uO=>match g,isEq d with|true,aa e=>.ret (.data .bool e)|_,_=>.fail
 | _,_=>.fail
def adr(d:St)(f:Option Ty)(a:Bool)(c:BinOp)(x y:ch):Tree ch :=
 match x,y with
 | .ptr b aM _,.uO=>bif live d b aM&&a then(match isEq c with|some e=>.ret (.data .bool<|!e)|none=>.fail) else .fail
 | .uO,.ptr b aM _=>bif live d b aM&&a then(match isEq c with|some e=>.ret (.data .bool<|!e)|none=>.fail) else .fail
 | x,y=>bin f a c x y
def Rl(c:Bool)(x y:ch):Tree ch :=
 match x,y with
 | .data (.int k) a,.data (.int d) b=>bif Nat.beq (Ba k) (Ba d) then .ret (.data (.int k)<|bif c then aiB a b else imax a b) else .fail
 | _,_=>.fail
def un(a:UnOp)(x:ch):Tree ch :=
 match a,x with
 | .not,.data .bool b=>.ret (.data .bool<|nt b)
 | .neg,.data (.int k) n=>.ret (.data (.int k)<|cH k 0 n)
 | .xor,.data (.int k) n=>.ret (.data (.int k)<|fN k (bif k.signed then -1 else k.max) n)
 | _,_=>.fail
def Lo:(t:Ty)->t.den->Nat->(u:Ty)->u.den->Option t.den
 | .pair a b,x,0,u,y=>match Ty.to u a y with|some y=>aa (y,x.2)|none=>af
 | .pair a b,x,k+1,u,y=>match Lo b x.2 k u y with|some z=>aa (x.1,z)|none=>af
 | _,_,_,_,_=>af
def iH(a:St)(t:Ty)(x:t.den):List (Nat×Operand)->Option (t.den×St)
 | []=>aa (x,a)
 | (k,o)::r=>match uR t k with
   | some u=>match BN a u (cW a o) with
     | some (y,a)=>match Lo t x k u y with
       | some x=>iH a t x r
       | none=>af
     | none=>af
   | none=>af
def fG(a:St)(e:Ty)(l:List e.den):List (Nat×Operand)->Option (List e.den×St)
 | []=>aa (l,a)
 | (k,o)::r=>match BN a e (cW a o) with
   | some (y,a)=>bif Nat.blt k l.length then fG a e (l.set k y) r else af
   | none=>af
def lenOf(c:St):ch->Option Int
 | .data .str s=>aa (len (α:=UInt8) s)
 | .data (.slice e) l=>aa (len (α:=e.den) l)
 | .data (.arr n _) _=>bif Nat.ble n 4294967296 then aa n else af
 | .pN=>aa 0
 | .whole b aM=>match c.mem b with
   | some a=>bif Nat.beq a.aM aM&&a.buf then(match a.val with|.data (.slice u) l=>aa (len (α:=u.den) l)|_=>af) else af
   | none=>af
 | .part b aM _ n=>bif live c b aM then aa n else af
 | _=>af
def Zd(o:Option Ty):ch->Bool
 | .data .str _=>Hh o .str
 | .data (.slice e) _=>Hh o (.slice e)
 | .data (.arr n e) _=>Hh o (.arr n e)
 | .pN|.whole ..|.part ..=>match o with|some (.slice _)=>true|_=>false
 | _=>false
def bounds(c:St)(n:Int)(d e:Option Operand):Option (Int×Int) :=
 match d,e with
 | none,af=>aa (0,n)
 | some a,af=>match cW c a with|.data (.int _) x=>aa (x,n)|_=>af
 | none,aa b=>match cW c b with|.data (.int _) y=>aa (0,y)|_=>af
 | some a,aa b=>match cW c a,cW c b with|.data (.int _) x,.data (.int _) y=>aa (x,y)|_,_=>af
def isRef:ch->Bool
 | .ptr ..|.whole ..|.part ..|.fn ..|.uO|.uP|.ya ..|.mix ..|.cell ..|.pN=>true
 | _=>false
section
variable (cx:Ctx) (nb:Nat) (bf:List Nat) (inl:Nat->List ch->St->Tree (ch×St))
def kk(d:Option Nat)(c:TypeId)(v:ch)(a:St):Tree St :=
 match v with
 | .undef=>bif cU cx.uQ c then .ret (a.bt d .undef) else .fail
 | .pN=>match d,find cx.T c with
   | some d,aa (.slice e)=>bif cU bf d then a.bu (nb+d) (.data (.slice e) []) 0 true λb a=>.ret (a.put d<|.whole (nb+d) b)
     else .ret (a.put d<|.data (.slice e) [])
   | _,_=>.ret (a.bt d .pN)
 | v=>.ret (a.bt d v)
def pO(d:Option Nat)(c a b:ch)(e:St):Tree St :=
 match c with
 | .data .bool c=>match a,b with
   | .data t x,.data u y=>match Ty.to u t y with
     | some y=>.ret (e.bt d<|.data t<|ak c x y)
     | none=>.fail
   | a,b=>.node c (.ret<|e.bt d a) (.ret<|e.bt d b)
 | _=>.fail
def TY:(t:Ty)->t.den->ch
 | .pair a b,x=>.mix (.data a x.1) (TY b x.2)
 | t,x=>.data t x
def ads:ch->ch
 | .data t x=>TY t x
 | v=>v
def TZ:Ty->ch->Bool
 | .slice _,.whole ..=>true
 | t,.data u _=>Ty.beq u t
 | _,_=>false
def Ze:Ty->ch->Bool
 | .pair a b,.mix p q=>TZ a p&&Ze b q
 | t,.data u _=>Ty.beq u t
 | _,_=>false
def adt(u:Ty):ch->Bool
 | .whole b aM=>TZ u (.whole b aM)
 | .mix p q=>Ze u (.mix p q)
 | _=>false
def adu:ch->Bool
 | .data (.pair _ _) _=>true
 | .mix ..=>true
 | _=>false
def CU(a:TypeId):ch->Bool
 | .mix p q=>match find cx.T a with|some u=>Ze u (.mix p q)|none=>false
 | _=>false
def Ah(a:TypeId):ch->Bool
 | .data u _=>Hh (find cx.T a) u
 | .whole ..=>match find cx.T a with|some (.slice _)=>true|_=>false
 | .ptr ..|.uO|.fn ..=>cU cx.uQ a
 | _=>false
def mq(d:Option Nat)(c:TypeId)(a:ch)(e:St):Tree St :=
 match a with
 | .cell u x=>bif Hh (find cx.T c) u then .ret (e.bt d<|.data u x) else .fail
 | .ptr b aM p=>match e.mem b with
   | some f=>bif Nat.beq f.aM aM then(agn f.buf p f.val).bind λv=>bif Ah cx c v||CU cx c v then .ret (e.bt d v) else .fail else .fail
   | none=>.fail
 | _=>.fail
def storeAt(b d:Nat)(p:List Sel)(e:ch->Bool)(v:ch)(g:St):Tree St :=
 match g.mem b with
 | some a=>bif Nat.beq a.aM d&&!a.lk&&!a.ro then
    (agn a.buf p a.val).bind λf=>bif e f then(Rk a.buf p a.val v).bind λc=>.ret (g.cr b { a with val:=c }) else .fail
   else .fail
 | none=>.fail
def tY(b a:Nat)(p:List Sel)(n:Nat)(v:ch)(e:St):Tree St :=
 match e.mem b with
 | some bx=>bif Nat.beq bx.aM a&&!bx.lk&&!bx.ro&&!bx.buf&&adu bx.val then
    (nav p<|ads bx.val).bind λd=>bif Nat.beq (dS d) n then(Ag p (ads bx.val) v).bind λc=>bif adu c then .ret (e.cr b { bx with val:=c }) else .fail else .fail
   else .fail
 | none=>.fail
def aiC(u:Ty):ch->Bool
 | .data t _=>Ty.beq t u
 | _=>false
def Zf:ch->Bool
 | .undef=>true
 | _=>false
def mP(e:TypeId)(a v:ch)(d:St):Tree St :=
 match a with
 | .ptr b aM p=>match d.mem b with
   | some f=>bif Nat.beq f.aM aM then(agn f.buf p f.val).bind λc=>match c with
      | .data u _=>bif Hh (find cx.T e) u then(bif cU bf 8000000&&adt u v then tY b aM p u.size v d else match BN d u v with
       | some (y,d)=>storeAt b aM p (aiC u) (.data u y) d
       | none=>.fail) else .fail
      | _=>bif Ah cx e v&&isRef v then storeAt b aM p (λc=>(Ah cx e c&&isRef c)||Zf c) v d else .fail
     else .fail
   | none=>.fail
 | _=>.fail
def adv(d:Nat):List Nat->Option Nat
 | []=>af
 | m::r=>bif Nat.ble 8500000 m&&Nat.blt m 8999999&&Nat.beq ((m-8500000) / 10) d then aa ((m-8500000) % 10) else adv d r
def aiD:Ty->Nat->ch->ch
 | .pair _ b,0,v=>.mix v (TY b b.zero)
 | .pair a b,k+1,v=>.mix (.data a a.zero) (aiD b k v)
 | t,_,_=>.data t t.zero
def wR(d:Nat)(t:Ty)(k:Nat)(a:St):Tree St :=
 match uR t k with
 | some (.slice e)=>bif Nat.blt 0 e.size then a.bu (nb+d) (.data (.slice e) []) 0 true λb a=>.ret (a.put d<|aiD t k<|.whole (nb+d) b) else .fail
 | _=>.fail
def zeroAt(d:Option Nat)(a:List (Nat×Operand)):Option (Nat×Nat):=match d,a with
 | some d,[]=>match adv d bf with|some k=>aa (d,k)|none=>af
 | _,_=>af
def mQ(d:Option Nat)(i:TypeId)(x:ch)(lo h:Option Operand)(f:St):Tree St :=
 match find cx.T i,x with
 | some .str,.data .str s=>match bounds f (len (α:=UInt8) s) lo h with
   | some (a,b)=>.jw (inside a b<|len (α:=UInt8) s) (.ret<|f.bt d<|.data .str<|sub (α:=UInt8) s a<|minus b a)
   | none=>.fail
 | some (.slice u),.data (.slice e) l=>bif Ty.beq u e then(match bounds f (len (α:=e.den) l) lo h with
   | some (a,b)=>.jw (inside a b<|len (α:=e.den) l) (.ret<|f.bt d<|.data (.slice e)<|sub (α:=e.den) l a<|minus b a)
   | none=>.fail) else .fail
 | some (.slice u),.part c aM l n=>match f.mem c with
   | some g=>bif Nat.beq g.aM aM&&(match g.row with|some (e,_)=>Ty.beq u e|none=>false) then(match bounds f n lo h with
     | some (a,b)=>.jw (inside a b n) (.ret<|f.bt d<|.part c aM (plus l a)<|minus b a)
     | none=>.fail) else .fail
   | none=>.fail
 | some (.slice u),.whole c aM=>match f.mem c with
   | some g=>bif Nat.beq g.aM aM&&g.buf then(match g.val with
     | .data (.slice e) l=>bif Ty.beq u e then(match lo,h with
       | none,af=>.ret (f.bt d<|.whole c aM)
       | lo,h=>match bounds f (len (α:=e.den) l) lo h with
         | some (a,b)=>.jw (inside a b<|len (α:=e.den) l) (.ret<|f.bt d<|.part c aM a<|minus b a)
         | none=>.fail) else .fail
     | _=>.fail) else .fail
   | none=>.fail
 | some (.arr m u),.ptr c aM (s::q)=>bif live f c aM&&Nat.ble m 4294967296 then(match bounds f m lo h with
   | some (a,b)=>.jw (inside a b m) (.ret<|f.bt d<|.win c aM (s::q) u m a<|minus b a)
   | none=>.fail) else .fail
 | some (.arr m u),.ptr c aM []=>match f.mem c with
   | some g=>bif Nat.beq g.aM aM&&!g.buf then(match g.val with
     | .data (.arr n e) _=>bif Nat.beq m n&&Ty.beq u e&&Nat.ble n 4294967296 then(match bounds f n lo h with
       | some (a,b)=>.jw (inside a b n) (.ret<|f.bt d<|.part c aM a<|minus b a)
       | none=>.fail) else .fail
     | _=>.fail) else .fail
   | none=>.fail
 | _,_=>.fail
def Ai(d:St)(b a:Nat):Option (Ty×Int):=match d.mem b with
 | some c=>bif Nat.beq c.aM a then(match c.buf,c.val with
   | true,.data (.slice e) l=>aa (e,len (α:=e.den) l)
   | false,.data (.arr n e) _=>aa (e,n)
   | _,_=>af) else af
 | none=>af
def PN(a:TypeId):Option Nat :=
 match find cx.T a with
 | some _=>af
 | none=>match find cx.els a with
   | some e=>bif cU cx.uQ e then aa e else af
   | none=>af
def Lq(d:Option Nat)(b a:Nat)(c:St)(i:Int):Nat->Nat->Tree St
 | 0,_=>.fail
 | m+1,k=>.node (aG i k) (.ret<|c.bt d<|.ptr b a [.gB k k]) (Lq d b a c i m<|k+1)
def KA:List Sel->Bool
 | [.gB _ off]=>Nat.beq off 0
 | _=>false
def eE(d:Option Nat)(c:TypeId)(x:ch)(i:Int)(a:St):Tree St :=
 match find cx.T c,x with
 | some (.slice u),.data (.slice e) l=>bif Ty.beq u e then .look (idx (l:List e.den) i) λy=>.ret (a.bt d<|.cell e y) else .fail
 | some (.arr m u),.cell (.arr n e) l=>bif Ty.beq u e&&Nat.beq m n then .look (idx (l:List e.den) i) λy=>.ret (a.bt d<|.cell e y) else .fail
 | some (.slice u),.whole b aM=>match Ai a b aM with
   | some (e,n)=>bif Ty.beq u e then .jw (within i n) (.ret<|a.bt d<|.ptr b aM [.idx i e.size]) else .fail
   | none=>.fail
 | some (.slice u),.part b aM lo n=>match Ai a b aM with
   | some (e,_)=>bif Ty.beq u e then .jw (within i n) (.ret<|a.bt d<|.ptr b aM [.idx (plus lo i) e.size]) else .fail
   | none=>.fail
 | some (.arr m u),.ptr b aM p=>bif live a b aM then .jw (within i m) (.ret<|a.bt d<|.ptr b aM<|p++[.idx i u.size]) else .fail
 | none,.win b aM q _ _ lo n=>match PN cx c with
   | some _=>bif KA q&&decide (lo=0)&&live a b aM then Lq d b aM a i n.toNat 0 else .fail
   | none=>.fail
 | _,_=>.fail
def mR(d:Option Nat)(c:TypeId)(x:ch)(i:Int)(a:St):Tree St :=
 match x,PN cx c with
 | .win b aM q _ _ lo n,aa _=>bif KA q&&decide (lo=0)&&live a b aM then(match i with
  | .ofNat k=>bif decide ((k:Int)<n) then .ret (a.bt d<|.ptr b aM [.gB k k]) else .fail
  | .negSucc _=>.fail) else .fail
 | x,_=>eE cx d c x i a
def mS(d:Option Nat)(c:TypeId)(x:ch)(i:Int)(a:St):Tree St :=
 match find cx.T c,x with
 | some .str,.data .str s=>.look (idx (s:bg) i) λb=>.ret (a.bt d<|.data (.int .u8)<|u8 b)
 | some (.arr m u),.data (.arr n e) l=>bif Ty.beq u e&&Nat.beq m n then .look (idx (l:List e.den) i) λy=>.ret (a.bt d<|.data e y) else .fail
 | _,_=>.fail
def DH.size:DH->Nat
 | .dat t=>t.size
 | _=>1
def wS:List DH->Nat->Option Nat
 | [],_=>af
 | _::_,0=>aa 0
 | f::r,k+1=>match wS r k with|some o=>aa (f.size+o)|none=>af
def fc(d:Option Nat)(s:TypeId)(x:ch)(k:Nat)(a:St):Tree St :=
 match x with
 | .cell u y=>bif Hh (find cx.T s) u then(match vB (.data u y) k with
   | some (_,.data t z)=>.ret (a.bt d<|.cell t z)
   | _=>.fail) else .fail
 | .ptr b aM p=>bif live a b aM then(match find cx.T s with
   | some t=>match iG t k,uR t k with
     | some off,aa _=>.ret (a.bt d<|.ptr b aM<|p++[.gB k off])
     | _,_=>.fail
   | none=>match find cx.vO s with
     | some c=>match wS c k with
       | some off=>.ret (a.bt d<|.ptr b aM<|p++[.gB k off])
       | none=>.fail
     | none=>.fail) else .fail
 | _=>.fail
def iv(d:Option Nat)(b c:TypeId)(x:ch)(a:St):Tree St :=
 match find cx.T b,find cx.T c,x with
 | some (.int _),aa (.int k),.data (.int _) n=>.ret (a.bt d<|.data (.int k)<|ju k n)
 | some .str,aa .str,.data .str s=>.ret (a.bt d<|.data .str s)
 | some .str,aa (.slice<|.int .u8),.data .str s=>match d with
   | some d=>.jw (fits<|len (α:=UInt8) s) (a.bu (nb+d) (.data (.slice<|.int .u8)<|ax s) 0 true λe a=>.ret (a.put d<|.whole (nb+d) e))
   | none=>.fail
 | some (.slice<|.int .u8),aa .str,x=>match jx (.int .u8) a x with
   | some l=>.ret (a.bt d<|.data .str<|bm l)
   | none=>.fail
 | _,_,_=>.fail
def yL(e:Ty)(a:St)(x:ch):Option (List e.den):=match x with
 | .data .str t=>toL (.int .u8) e (ax t)
 | x=>jx e a x
def aiE(a t:Nat):Bool:=Nat.beq t 0||(match find cx.els a with|some e=>Nat.beq e t|none=>false)
def iI(d:Option Nat)(f:TypeId)(s x:ch)(a:St):Tree St :=
 match d,find cx.T f with
 | some d,aa (.slice e) =>
   match yL e a x with
   | some m=>match s with
     | .pN=>.jw (fits<|len (α:=e.den) m) (a.bu (nb+d) (.data (.slice e) m) 0 true λaM a=>.ret (a.put d<|.whole (nb+d) aM))
     | .whole b aM=>match a.mem b,jx e a (.whole b aM) with
       | some c,aa l=>bif c.lk||!aiE cx f c.tid then .fail else
         .jw (fits<|plus (len (α:=e.den) l)<|len (α:=e.den) m) (.ret<|(a.cr b { c with val:=.data (.slice e) (app (α:=e.den) l m),aM:=aM+1 }).put d<|.whole b<|aM+1)
       | _,_=>.fail
     | _=>.fail
   | none=>.fail
 | _,_=>.fail
def kP(e:Ty)(m:List e.den)(b d:Nat)(q:List Sel)(f:Nat->Ty->Bool)(i:Int)(g:St):Tree St :=
 match g.mem b with
 | some a=>bif Nat.beq a.aM d&&!a.lk&&!a.ro then
    (match a.buf with
    | true=>match q,a.val with
      | [],.data (.slice u) l=>match toL e u m with
        | some m=>.ret (g.cr b { a with val:=.data (.slice u) (over (α:=u.den) l i m) })
        | none=>.fail
      | _,_=>.fail
    | false=>(nav q a.val).bind λh=>match h with
      | .data (.arr k u) l=>bif f k u then(match toL e u m with
        | some m=>(Ag q a.val<|.data (.arr k u)<|over (α:=u.den) l i m).bind λc=>.ret (g.cr b { a with val:=c })
        | none=>.fail) else .fail
      | _=>.fail)
   else .fail
 | none=>.fail
def Hi(e:Ty)(m:Int->List e.den)(t:ch)(a:St):Tree (Int×St) :=
 match t with
 | .part b aM lo n=>(kP e (m n) b aM [] (λ_ _=>true) lo a).bind λa=>.ret (n,a)
 | .whole b aM=>match lenOf a t with|some n=>(kP e (m n) b aM [] (λ_ _=>true) 0 a).bind λa=>.ret (n,a)|none=>.fail
 | .win b aM q u k lo n=>(kP e (m n) b aM q (λc d=>Nat.beq k c&&Ty.beq u d) lo a).bind λa=>.ret (n,a)
 | _=>.fail
def zi(d:Option Nat)(b:TypeId)(t x:ch)(a:St):Tree St :=
 match find cx.T b with
 | some (.slice e)=>match yL e a x with
   | none=>.fail
   | some m=>(Hi e (λn=>mo (α:=e.den) m n) t a).bind λr=>.ret (r.2.bt d<|.data (.int .i64)<|len<|mo (α:=e.den) m r.1)
 | _=>.fail
def zj(a:TypeId)(t:ch)(b:St):Tree St :=
 match find cx.T a with
 | some (.slice e)=>(Hi e (λn=>lP n e.zero) t b).bind λr=>.ret r.2
 | _=>.fail
def nS:(U:Ty)->U.den->List Nat->Nat->Option ch
 | .pair t U,u,a,c=>match a with
   | b::a=>bif Nat.beq c b then aa (.data t u.1) else nS U u.2 a c
   | []=>af
 | _,_,_,_=>af
def tZ(U:Ty)(u:U.den)(b:List Nat)(a:St):St :=
 { a with mem:=λc=>match nS U u b c with
  | some v=>(match a.mem c with|some d=>aa { d with val:=v }|none=>af)
  | none=>a.mem c }
def rT(d:St):List Bool->(A U:Ty)->List ch->Option (A.den×U.den×List Nat)
 | [],A,U,vs=>match A,U,vs with
   | .unit,.unit,[]=>aa ((),(),[])
   | _,_,_=>af
 | false::ps,A,U,vs=>match A,vs with
   | .pair t A,v::vs=>match toD t v,rT d ps A U vs with
     | some x,aa (y,u,c)=>aa ((x,y),u,c)
     | _,_=>af
   | _,_=>af
 | true::ps,A,U,vs=>match U,vs with
   | .pair t U,.ptr b aM []::vs=>match d.mem b with
     | some a=>bif Nat.beq a.aM aM&&!a.buf&&!a.lk&&!a.ro&&Nat.beq a.tid 0 then(match toS t a.val,rT d ps A U vs with
       | some x,aa (y,u,c)=>bif cU c b then af else aa (y,(x,u),b::c)
       | _,_=>af) else af
     | none=>af
   | _,_=>af
def rU:ch->Bool
 | .whole ..=>true
 | _=>false
def CV(s:Spc)(d:Option Nat)(c:List ch)(e:St):Tree St :=
 match s,c with
 | .chk T,[.ptr b aM []]=>match e.mem b with
   | some a=>match a.val with
     | .mix (.ya f g) (.mix u<|.data .unit _)=>bif Nat.beq a.aM aM&&!a.buf&&!a.lk&&!a.ro&&Nat.beq a.tid T&&Nat.blt 0 T&&Nat.beq f b&&Nat.beq g aM&&rU u then .ret (e.bt d<|.BI .nl) else .fail
     | _=>.fail
   | none=>.fail
 | .str T E,[.ptr b aM []]=>match e.mem b with
   | some a=>match a.val with
     | .mix (.ya _ _) (.mix (.whole h hv)<|.data .unit _)=>bif Nat.beq a.aM aM&&!a.buf&&Nat.beq a.tid T&&Nat.blt 0 T&&!Nat.beq h b then(match e.mem h with
       | some hx=>bif Nat.beq hx.aM hv&&hx.buf&&!hx.lk&&Nat.beq hx.tid E&&Nat.blt 0 E then(match hx.val with
         | .data (.slice<|.int .u8) l=>.ret ((e.cr h { hx with val:=.data (.slice<|.int .u8) [],aM:=hx.aM+1 }).bt d<|.data .str<|bm l)
         | _=>.fail) else .fail
       | none=>.fail) else .fail
     | _=>.fail
   | none=>.fail
 | _,_=>.fail
def ownRow(d:Option Nat):Option Nat:=match d with|some d=>bif cU bf (4000000+d) then aa d else af|none=>af
def T0(d:Option Nat):Option Nat:=match d with|some d=>bif cU bf d then aa d else af|none=>af
def mT(e:Ty)(d:Option Nat)(a:List ch)(b:St):Tree St :=
 match d,a with
 | some d,[x]=>match BN b (.slice e) x with
   | some (l,b)=>bif Nat.blt 0 e.size then .jw (fits<|len (α:=e.den) l) (b.bu (nb+d) (.data (.slice e) l) 0 true λc b=>.ret (b.put d<|.whole (nb+d) c)) else .fail
   | none=>.fail
 | _,_=>.fail
def Aj(e:Ty)(c:St):ch->Option (Nat×Nat×Box×List e.den)
 | .whole b aM=>match c.mem b with
   | some a=>bif Nat.beq a.aM aM&&a.buf&&!a.lk&&!a.ro&&Nat.beq a.tid 0 then(match a.val with
     | .data (.slice u) l=>(match toL u e l with|some l=>aa (b,aM,a,l)|none=>af)
     | _=>af) else af
   | none=>af
 | .part b aM lo n=>match c.mem b with
   | some a=>bif Nat.beq a.aM aM&&a.buf&&!a.lk&&!a.ro&&Nat.beq a.tid 0&&decide (lo=0) then(match a.val with
     | .data (.slice u) l=>(match toL u e l with|some l=>aa (b,aM,a,sub (α:=e.den) l lo n)|none=>af)
     | _=>af) else af
   | none=>af
 | _=>af
def ua(e A:Ty)(g:Bool)(a:List e.den->A.den->Option (List e.den))(d:Option Nat)(c:List ch)(f:St):Tree St :=
 match c with
 | v::vs=>match gD f A vs with
   | some (x,f)=>match Aj e f v with
     | some (b,aM,h,l)=>.look (a l x) λi=>match g,d with
       | true,aa d=>.ret ((f.cr b { h with val:=.data (.slice e) i,aM:=aM+1 }).put d<|.whole b<|aM+1)
       | false,d=>bif rU v then .ret ((f.cr b { h with val:=.data (.slice e) i }).bt d<|.BI .nl) else .fail
       | _,_=>.fail
     | none=>.fail
   | none=>.fail
 | []=>.fail
def yM(d:Option Nat)(f:Nat):Option Spc :=
 match find cx.PL f with
 | some (.clone e)=>match T0 bf d with|some _=>aa (.clone e)|none=>af
 | some (.own e A r s)=>aa (.own e A r s)
 | _=>af
def T1(c:Fq)(d:Option Nat)(f:List ch)(e:St):Tree St :=
 match f with
 | .ptr b aM []::vs=>match gD e c.A vs with
   | some (x,e)=>match e.mem b with
     | some g=>match g.val with
       | .mix r (.mix (.fn F a)<|.data .unit _)=>bif Nat.beq g.aM aM&&!g.buf&&!g.ro&&Nat.beq g.tid c.T&&Nat.beq F c.F&&a.all (λb=>live e b.1 b.2) then(match toS c.t r,rT e (a.map λ_=>true) .unit c.U (a.map λp=>.ptr p.1 p.2 []) with
         | some r,aa (_,u,h)=>bif cU h b then .fail else .look (c.spec ((r,x),u)) λy=>.ret ((tZ c.U y.2 h e).bt d<|rS c.R y.1)
         | _,_=>.fail) else .fail
       | _=>.fail
     | none=>.fail
   | none=>.fail
 | _=>.fail
def yN(d:Option Nat)(f:Nat)(a:List ch)(b:St):Tree St :=
 match find cx.TX f with
 | some c=>match c.R.flat with
   | true=>match jk b c.A a with
     | some x=>.look (c.spec x) λy=>.ret (b.bt d<|rS c.R y)
     | none=>.fail
   | false=>match gD b c.A a with
     | some (x,b)=>.look (c.spec x) λy=>.ret (b.bt d<|rS c.R y)
     | none=>.fail
 | none=>match find cx.PL f with
  | some s=>CV s d a b
  | none=>match find cx.Ol f with
   | some c=>(match rT b c.ps c.A c.U a with
     | some (x,u,e)=>.look (c.spec (x,u)) λy=>.ret ((tZ c.U y.2 e b).bt d<|rS c.R y.1)
     | none=>(inl f a b).bind λr=>.ret (r.2.bt d r.1))
   | none=>match find cx.Ri f with
     | some c=>T1 c d a b
     | none=>(inl f a b).bind λr=>.ret (r.2.bt d r.1)
def vP(d:Option Nat)(f:Nat)(a:List ch)(b:St):Tree St :=
 match yM cx bf d f with
 | some (.clone e)=>mT nb e d a b
 | some (.own e A r s)=>ua e A r s d a b
 | _=>yN cx inl d f a b
def T2:(t:Ty)->(u:Nat)->Option ((a:Ty)×(a.den->t.den))
 | .alt n a r,u=>bif Nat.beq n u then aa ⟨a,.inl⟩ else match T2 r u with
   | some ⟨b,f⟩=>aa ⟨b,λx=>.inr (f x)⟩
   | none=>af
 | _,_=>af
def tw(d:Option Nat)(c u:TypeId)(x:ch)(b:St):Tree St :=
 match find cx.T c with
 | some t=>match T2 t u with
   | some ⟨a,f⟩=>match BN b a x with
     | some (y,b)=>.ret (b.bt d<|.data t<|f y)
     | none=>.fail
   | none=>.fail
 | none=>.fail
def tz(d:Option Nat)(a:String)(b:List ch)(e:St):Tree St :=
 match PM cx.inv a with
 | some c=>match gD e c.A b with
   | some (x,e)=>.look (c.spec x) λy=>.ret (e.bt d<|rS c.R y)
   | none=>.fail
 | none=>.fail
def wT(d:Option Nat)(h:TypeId)(c:Call)(a:St):Tree St :=
 match c.callee with
 | .builtin b=>match b,c.args.toList.map (cW a),c.argTypes.toList with
   | .len,[x],[t]=>bif Zd (find cx.T t) x then(match lenOf a x with
     | some n=>.ret (a.bt d<|.data (.int .i64) n)
     | none=>.fail) else(match PN cx t,x with
     | some _,.win b aM _ _ _ _ n=>bif live a b aM&&decide (n<=64) then .ret (a.bt d<|.data (.int .i64) n) else .fail
     | _,_=>.fail)
   | .append,[s,x],[t,u]=>match find cx.T u with
     | some .str|some (.slice _)=>iI cx nb d t s x a
     | _=>.fail
   | .copy,[t,x],[g,tx]=>match find cx.T tx with
     | some .str|some (.slice _)=>zi cx d g t x a
     | _=>.fail
   | .clear,[t],[g]=>match d with|none=>zj cx g t a|some _=>.fail
   | .min,[x,y],_=>Rl true x y |>.bind λv=>.ret (a.bt d v)
   | .max,[x,y],_=>Rl false x y |>.bind λv=>.ret (a.bt d v)
   | _,_,_=>.fail
 | .value f=>match cW a f with
   | .fn f e=>bif e.all (λb=>live a b.1 b.2) then vP cx nb bf inl d f (c.args.toList.map (cW a)++e.map λb=>.ptr b.1 b.2 []) a else .fail
   | _=>.fail
 | .invoke r name=>tz cx d name (cW a r::c.args.toList.map (cW a)) a
def Hj:List ch->Option (List<|Nat×Nat)
 | []=>aa []
 | .ptr b aM []::r=>(Hj r).map ((b,aM)::·)
 | _=>af
def KB(a:St)(b:Nat):Nat:=match a.mem b with|some bx=>bx.aM+1|none=>0
def mkObj(b a:Nat):List DH->Nat->St->Tree (ch×St)
 | [],_,σ=>.ret (.data .unit (),σ)
 | .dat t::r,j,σ=>(mkObj b a r (j+1) σ).bind λx=>.ret (.mix (.data t t.zero) x.1,x.2)
 | .one::r,j,σ=>(mkObj b a r (j+1) σ).bind λx=>.ret (.mix .uO x.1,x.2)
 | .fnc::r,j,σ=>(mkObj b a r (j+1) σ).bind λx=>.ret (.mix .undef x.1,x.2)
 | .self::r,j,σ=>(mkObj b a r (j+1) σ).bind λx=>.ret (.mix (.ya b a) x.1,x.2)
 | .buf e c::r,j,σ=>bif Nat.blt 0 e.size then σ.bu (b*1000+999-j) (.data (.slice e) []) c true λv σ=>(mkObj b a r (j+1) σ).bind λx=>.ret (.mix (.whole (b*1000+999-j) v) x.1,x.2) else .fail
def qh:List DH->Option ch
 | []=>aa (.data .unit ())
 | .dat t::r=>match qh r with|some v=>aa (.mix (.data t t.zero) v)|none=>af
 | .buf _ _::r=>match qh r with|some v=>aa (.mix .pN v)|none=>af
 | .one::r=>match qh r with|some v=>aa (.mix .uO v)|none=>af
 | .fnc::r=>match qh r with|some v=>aa (.mix .undef v)|none=>af
 | .self::_=>af
def mr(a:St)(b:List DH):ch->List (Nat×Operand)->Option ch
 | v,[]=>aa v
 | v,(k,x)::r=>match vB v k,wS b k,b[k]? with
   | some (o,.data t _),aa d,aa f=>bif Nat.beq o d&&Nat.beq t.size f.size then(match toS t (cW a x) with
     | some y=>match(Eo v k λ_=>.ret (.data t y)).run with
       | some v=>mr a b v r
       | none=>af
     | none=>bif TZ t (cW a x) then(match(Eo v k λ_=>.ret (cW a x)).run with
       | some v=>mr a b v r
       | none=>af) else af) else af
   | some (o,.undef),aa d,aa f=>bif Nat.beq o d&&Nat.beq 1 f.size then(match cW a x with
     | .fn g c=>match(Eo v k λ_=>.ret (.fn g c)).run with
       | some v=>mr a b v r
       | none=>af
     | _=>af) else af
   | _,_,_=>af
def Hk:Ty->List DH
 | .pair a b=>.dat a::Hk b
 | _=>[]
def pP(b:St)(t:Ty)(a:List (Nat×Operand)):Option (ch×St) :=
 bif cU bf 8600000&&a.any (λp=>rU (cW b p.2)) then(match mr b (Hk t) (TY t t.zero) a with
  | some (.mix p q)=>aa (.mix p q,b)
  | _=>af)
 else match iH b t t.zero a with
  | some (x,b)=>aa (.data t x,b)
  | none=>af
def oE(b:Nat):List DH->Nat->ch->St->Tree (ch×St)
 | [],_,.data .unit x,σ=>.ret (.data .unit x,σ)
 | .dat _::r,j,.mix (.data u y) v,σ=>(oE b r (j+1) v σ).bind λx=>.ret (.mix (.data u y) x.1,x.2)
 | .fnc::r,j,.mix .undef v,σ=>(oE b r (j+1) v σ).bind λx=>.ret (.mix .undef x.1,x.2)
 | .fnc::r,j,.mix (.fn g c) v,σ=>(oE b r (j+1) v σ).bind λx=>.ret (.mix (.fn g c) x.1,x.2)
 | .one::r,j,.mix .uO v,σ=>(oE b r (j+1) v σ).bind λx=>.ret (.mix .uO x.1,x.2)
 | .buf e a::r,j,.mix .pN v,σ=>bif Nat.blt 0 e.size then σ.bu (b*1000+999-j) (.data (.slice e) []) a true λd σ=>(oE b r (j+1) v σ).bind λx=>.ret (.mix (.whole (b*1000+999-j) d) x.1,x.2) else .fail
 | _,_,_,_=>.fail
def BP(a:St):Nat->List (Nat×Operand)->Option ch
 | _,[]=>aa (.data .unit ())
 | k,(j,x)::r=>bif Nat.beq j k then(match cW a x,BP a (k+1) r with
   | .uO,aa v=>aa (.mix .uO v)
   | .ptr b aM p,aa v=>aa (.mix (.ptr b aM p) v)
   | .fn f c,aa v=>aa (.mix (.fn f c) v)
   | _,_=>af) else af
def CW(d:Option Nat)(t:TypeId)(a:Nat)(b:List (Nat×Operand))(c:St):Tree St :=
 match d,PN cx t,BP c 0 b with
 | some d,aa _,aa v=>bif Nat.beq a b.length&&Nat.blt 0 a&&Nat.ble a 64 then
  c.bu (nb+d) v 0 false λe c=>.ret (c.put d<|.win (nb+d) e [.gB 0 0] .bool a 0 a) else .fail
 | _,_,_=>.fail
def Ft(d:Option Nat)(a:TypeId)(x:ch)(c:St):Tree St :=
 match d,x with
 | some _,.undef=>.fail
 | some _,.BI _=>.fail
 | some d,v=>match find cx.vO a with
   | some e=>(oE (nb+d) e 0 v c).bind λr=>r.2.bu (nb+d) r.1 a false λb c=>.ret (c.put d<|.ptr (nb+d) b [])
   | none=>c.bu (nb+d) v 0 false λb c=>.ret (c.put d<|.ptr (nb+d) b [])
 | none,_=>.fail
def wF(d:Nat)(t:Ty)(a:St):Tree St :=
 match T0 bf (aa d),t with
 | some _,.slice e=>bif Nat.blt 0 e.size then a.bu ((nb+d)*1000+999) (.data (.slice e) []) 0 true λv a =>
  a.bu (nb+d) (.whole ((nb+d)*1000+999) v) 0 false λb a=>.ret (a.put d<|.ptr (nb+d) b []) else .fail
 | _,t=>a.bu (nb+d) (.data t t.zero) 0 false λb a=>.ret (a.put d<|.ptr (nb+d) b [])
def rV(o:Oper)(g:St):Tree St :=
 match o.op with
 | .move x|.assign x=>kk cx nb bf o.dst o.type (cW g x) g
 | .pick c a b=>pO o.dst (cW g c) (cW g a) (cW g b) g
 | .alloc elem=>match o.dst,find cx.T elem with
   | some d,aa t=>wF nb bf d t g
   | some d,af=>match find cx.vO elem with
     | some m=>(mkObj (nb+d) (KB g<|nb+d) m 0 g).bind λr=>r.2.bu (nb+d) r.1 elem false λh g=>.ret (g.put d<|.ptr (nb+d) h [])
     | none=>bif cU cx.uQ elem then g.bu (nb+d) .undef 0 false λh g=>.ret (g.put d<|.ptr (nb+d) h []) else .fail
   | _,_=>.fail
 | .box elem x=>Ft cx nb o.dst elem (cW g x) g
 | .build t parts=>match find cx.T t with
   | some (.pair a b)=>match zeroAt bf o.dst parts.toList with
     | some (d,k)=>wR nb d (.pair a b) k g
     | none=>match pP bf g (.pair a b) parts.toList with
       | some (v,g)=>.ret (g.bt o.dst v)
       | none=>.fail
   | some (.arr n e)=>match fG g e (List.replicate n e.zero) parts.toList with
     | some (l,g)=>.ret (g.bt o.dst<|.data (.arr n e) l)
     | none=>.fail
   | none=>match find cx.vO t with
     | some m=>match qh m with
       | some z=>match mr g m z parts.toList with
         | some (.mix p q)=>.ret (g.bt o.dst<|.mix p q)
         | some (.data .unit _)=>.ret (g.bt o.dst<|.data .unit ())
         | _=>.fail
       | none=>.fail
     | none=>.fail
   | _=>.fail
 | .buildSlice t len parts=>match find cx.T t with
   | some (.slice e)=>match T0 bf o.dst,len,parts.toList with
     | some d,0,[]=>g.bu (nb+d) (.data (.slice e) []) 0 true λh g=>.ret (g.put d<|.whole (nb+d) h)
     | _,_,_=>bif Nat.ble (len*e.size) 65536 then(match fG g e (List.replicate len e.zero) parts.toList with
     | some (l,g)=>(match ownRow bf o.dst with
       | some d=>g.bu (nb+d) (.data (.slice e) l) 0 true λh g=>.ret (g.put d<|.whole (nb+d) h)
       | none=>.ret (g.bt o.dst<|.data (.slice e) l))
     | none=>.fail) else .fail
   | none=>CW cx nb o.dst t len parts.toList g
   | _=>.fail
 | .load t a=>mq cx o.dst t (cW g a) g
 | .store t a x=>match o.dst with|none=>mP cx bf t (cW g a) (cW g x) g|some _=>.fail
 | .nilCheck x=>match cW g x with
   | .ptr b h p=>bif live g b h then .ret (g.bt o.dst<|.ptr b h p) else .fail
   | .cell t x=>.ret (g.bt o.dst<|.cell t x)
   | .fn f c=>.ret (g.bt o.dst<|.fn f c)
   | _=>.fail
 | .binOp op w x y _=>(adr g (find cx.T w) (cU cx.DI w) op (cW g x)<|cW g y).bind λv=>.ret (g.bt o.dst v)
 | .unOp op _ x=>(un op<|cW g x).bind λv=>.ret (g.bt o.dst v)
 | .convert src dst x=>iv cx nb o.dst src dst (cW g x) g
 | .makeFunc (.func f) first j=>match first.toList,Hj (j.toList.map<|cW g) with
   | [],aa cs=>.ret (g.bt o.dst<|.fn f cs)
   | _,_=>.fail
 | .slice t x lo hi af=>mQ cx o.dst t (cW g x) lo hi g
 | .fieldAddr s x k=>fc cx o.dst s (cW g x) k g
 | .field w x k=>match cW g x with
   | .data u y=>bif Hh (find cx.T w) u then(match vB (.data u y) k with
     | some (_,v)=>.ret (g.bt o.dst v)
     | none=>.fail) else .fail
   | _=>.fail
 | .indexAddr t x i=>match cW g i with
   | .data (.int _) i=>bif cU bf 5000000 then mR cx o.dst t (cW g x) i g else eE cx o.dst t (cW g x) i g
   | _=>.fail
 | .index t x i=>match cW g i with
   | .data (.int _) i=>mS cx o.dst t (cW g x) i g
   | _=>.fail
 | .makeSlice t l c=>match o.dst,find cx.T t,cW g l,cW g c with
   | some d,aa (.slice e),.data (.int _) l,.data (.int _) c =>
     .jw (inside 0 l c) (.jw (fits c)
      (g.bu (nb+d) (.data (.slice e)<|lP l e.zero) 0 true λh g=>.ret (g.put d<|.whole (nb+d) h)))
   | _,_,_,_=>.fail
 | .extract t k=>match cW g t with
   | .BI vs=>match nth vs k with
     | some v=>.ret (g.bt o.dst v)
     | none=>.fail
   | _=>.fail
 | .call c=>wT cx nb bf inl o.dst o.type c g
 | .makeInterface u x=>tw cx o.dst o.type u (cW g x) g
 | _=>.fail
def Ak(g:Option (Nat×Bool))(j:Nat)(a:Bool):Bool :=
 match g with|some (i,b)=>Nat.beq i j&&(b==a)|none=>false
def under(j:Nat)(a:Bool):(inner:List Nat)->List (Nat×Oper)->List (Nat×Oper)×List (Nat×Oper)
 | _,[]=>([],[])
 | inner,(i,o)::r =>
   bif Ak o.guard j a then let x:=under j a (i::inner) r;((i,{ o with guard:=af })::x.1,x.2)
   else bif (match o.guard with|some (k,_)=>inner.any (Nat.beq k)|none=>false) then let x:=under j a (i::inner) r;((i,o)::x.1,x.2)
   else([],(i,o)::r)
def KC(a:Ctx):List (Nat×Oper)->Bool
 | []=>false
 | (_,o)::r=>(match o.op with
   | .call c=>match c.callee with
     | .value (.func f)=>match find a.TX f with|some _=>false|none=>true
     | .value _=>true
     | .builtin .append=>true
     | _=>false
   | .store ..=>true
   | _=>false)||KC a r
def St.gE(a:St):St:={ a with mem:=λi=>match a.mem i with|some b=>aa { b with lk:=true }|none=>af }
def St.undef(a:St):List (Nat×Oper)->St
 | []=>a
 | (_,o)::r=>(a.undef r).bt o.dst .undef
def oF(d:Nat):List (Nat×Oper)->Bool
 | []=>false
 | (_,o)::r=>(match o.dst with|some k=>Nat.beq k d|none=>false)||oF d r
def Al(e:St)(f:Oper)(g:Nat)(d:Bool):Option ch :=
 match f.op with
 | .pick (.tmp c) a b=>bif Nat.beq c g then aa (cW e<|bif d then a else b) else af
 | _=>af
def rW(a:Array Oper):Nat->List (Nat×Oper)->St->Tree St
 | 0,_,_=>.fail
 | n+1,[],σ=>.ret σ
 | n+1,(i,o)::r,σ =>
   match o.guard with
   | none=>(rV cx nb bf inl o σ).bind λσ=>rW a n r σ
   | some (j,want) =>
     let g:=under j want [] ((i,o)::r)
     match(a[j]?).bind (·.dst) with
     | none=>.fail
     | some d=>match σ.bb d,g.2 with
       | .data .bool c,(_,b)::rest=>bif oF d g.1 then .fail else match b.guard with
         | some _=>.fail
         | none =>
           let e:=bif want then c else nt c
           bif KC cx g.1 then
            (Tree.node e ((rW a n g.1 σ).bind λσ=>match Al σ b d want with
              | some v=>.ret (σ.bt b.dst v)
              | none=>.fail)
             (match Al (σ.undef g.1) b d (!want) with
              | some v=>.ret ((σ.undef g.1).bt b.dst v)
              | none=>.fail)).bind λσ=>rW a n rest σ
           else match find cx.T b.type,b.dst with
            | some t,aa f=>(Tree.node e ((rW a n g.1 σ.gE).bind λτ=>match(Al τ b d want).bind (toD t) with
              | some x=>.ret x
              | none=>.fail)
             (match(Al (σ.undef g.1) b d<|!want).bind (toD t) with
              | some x=>.ret x
              | none=>.fail)).join λx=>rW a n rest ((σ.undef g.1).put f<|.data t x)
            | _,_=>.fail
       | _,_=>.fail
def number:Nat->List Oper->List (Nat×Oper)
 | _,[]=>[]
 | k,o::r=>(k,o)::number (k+1) r
def Lr(a:Array Oper)(b:St):Tree St:=rW cx nb bf inl a (2*a.size+1) (number 0 a.toList) b
def iw:Op->List Operand
 | .move x|.assign x|.box _ x|.load _ x|.nilCheck x|.unOp _ _ x|.convert _ _ x|.fieldAddr _ x _|.field _ x _|.extract x _=>[x]
 | .pick c a b=>[c,a,b]
 | .build _ ps|.buildSlice _ _ ps=>ps.toList.map (·.2)
 | .store _ a x=>[a,x]
 | .binOp _ _ x y _=>[x,y]
 | .makeFunc _ f c=>f.toList++c.toList
 | .slice _ x lo hi _=>x::(lo.toList++hi.toList)
 | .indexAddr _ x i|.index _ x i=>[x,i]
 | .makeSlice _ l c=>[l,c]
 | .call c=>(match c.callee with|.value f=>[f]|.invoke r _=>[r]|_=>[])++c.args.toList
 | .makeInterface _ x=>[x]
 | _=>[]
def tmpsOf:List Operand->List Nat
 | []=>[]
 | .tmp t::r=>t::tmpsOf r
 | _::r=>tmpsOf r
def rX(o:Oper)(a:St):Option Nat:=match o.op with
 | .call c=>match c.callee with
   | .value x=>match cW a x with
     | .fn f _=>aa f
     | _=>af
   | _=>af
 | _=>af
def aj8:Option Nat->Option Nat->Bool
 | some a,aa b=>Nat.beq a b
 | none,af=>true
 | _,_=>false
def cls(g:Option Nat)(o:Oper):Nat:=match o.op with
 | .assign _|.move _|.makeSlice ..|.convert ..=>1
 | .box e _=>match find cx.vO e with
   | some _=>3
   | none=>1
 | .alloc e=>match find cx.T e with
   | some (.slice _)=>3
   | some _=>1
   | none=>match find cx.vO e with
     | some _=>3
     | none=>1
 | .build ..|.buildSlice ..|.store ..=>2
 | .call c=>match c.callee with
   | .builtin .len|.builtin .min|.builtin .max=>0
   | .builtin .append=>2
   | .builtin _=>3
   | .value _=>match g with
     | some f=>match find cx.PL f with
       | some (.clone _)=>2
       | some (.own _ _ _ _)=>2
       | _=>match find cx.TX f with
         | some c=>bif c.R.flat then 0 else 2
         | none=>3
     | none=>3
   | .invoke ..=>2
 | .makeInterface ..=>2
 | _=>0
structure Fp where
 rd:List Nat
 wr:List Nat
 KD:Bool
 fn:Option Nat
def zk(d:St):ch->List Nat
 | .ptr b _ _=>[b]
 | .whole b _=>[b]
 | .part b _ _ _=>[b]
 | .win b _ _ _ _ _ _=>[b]
 | .fn _ c=>c.map (·.1)
 | .mix a b=>zk d a++zk d b
 | _=>[]
def refsOf(a:St):List Operand->List Nat
 | []=>[]
 | x::r=>zk a (cW a x)++refsOf a r
def aj9(o:Oper)(a:St):List Nat:=match o.op with
 | .move _|.assign _=>[]
 | _=>refsOf a (iw o.op)
def own(o:Oper):List Nat:=match o.dst with|some d=>[nb+d]|none=>[]
def BQ(o:Oper)(a:St):Fp :=
 let rd:=own nb o++aj9 o a
 let g:=rX o a
 match cls cx g o with
 | 0=>⟨rd,[],false,g⟩
 | 1=>⟨rd,own nb o,false,g⟩
 | 2=>⟨rd,rd,false,g⟩
 | _=>⟨[],[],true,g⟩
def St.only(a:St)(ts c:List Nat):St:={ bb:=λt=>bif cU ts t then a.bb t else .undef,mem:=λb=>bif cU c b then a.mem b else af }
def lay(a:St)(d:Option Nat)(e:List Nat)(c:St):St :=
 { bb:=match d with|some d=>λt=>bif Nat.beq t d then c.bb d else a.bb t|none=>a.bb
   mem:=λb=>bif cU e b then c.mem b else a.mem b }
def zl(_:Nat)(_:List ch)(_:St):Tree (ch×St):=.fail
def adw(b:Fp)(o:Oper)(a:St):Tree St:=bif aj8 (rX o a) b.fn then rV cx nb bf zl o a else .fail
def jl(a:Fp)(o:Oper)(b:St):Tree St :=
 bif a.KD then rV cx nb bf inl o b
 else(adw cx nb bf a o<|b.only (tmpsOf<|iw o.op) a.rd).bind λτ=>.ret (lay b o.dst a.wr τ)
abbrev T3:=Nat×Oper×Fp×Nat
def maskAt:List T3->Nat->Nat
 | [],_=>0
 | (i,_,_,m)::r,k=>bif Nat.beq i k then m else maskAt r k
def wG(a:List T3):List Edge->Nat
 | []=>0
 | e::r=>bif Region.binds .any e then(wG a r ||| 2 ^ e.on) ||| maskAt a e.on else wG a r
def mask(a:List T3)(o:Oper):Nat:=wG a o.after.toList
def aaA(a b:List Nat):Bool:=a.all λx=>!cU b x
def apart(x y:Oper)(f g:Fp):Bool :=
 !f.KD&&!g.KD&&aaA f.wr g.rd&&aaA g.wr f.rd &&
 (match x.dst with|some d=>!cU (tmpsOf<|iw y.op) d&&(match y.dst with|some e=>!Nat.beq d e|none=>true)|none=>true) &&
 (match y.dst with|some e=>!cU (tmpsOf<|iw x.op) e|none=>true)
def loose(o:Oper)(f:Fp)(m:Nat):List T3->Bool
 | []=>true
 | (k,ok,a,_)::r=>(Nat.testBit m k||apart ok o a f)&&loose o f m r
def Ls:List (Nat×Oper)->List T3->St->Tree St
 | [],_,σ=>.ret σ
 | (i,o)::r,done,σ=>match o.guard with
   | some _=>.fail
   | none =>
     let f:=BQ cx nb o σ
     let m:=mask done o
     bif loose o f m done&&(o.after.all λe=>!Region.binds .any e||Nat.blt e.on i) then
      (jl cx nb bf inl f o σ).bind λσ=>Ls r ((i,o,f,m)::done) σ
     else .fail
def PQ(a:Array Oper)(o:Oper):List Nat:=match o.guard with
 | some (g,_)=>match(a[g]?).bind (·.dst) with|some d=>[d]|none=>[]
 | none=>[]
def Ep(a:Array Oper)(o:Oper):List Nat:=PQ a o++tmpsOf (iw o.op)
def zm(o:Oper)(k:Nat):Bool:=match o.guard with|some (g,_)=>!Nat.beq g k|none=>true
def BR(a:Array Oper)(i j:Nat)(x y:Oper)(f g:Fp):Bool :=
 !f.KD&&!g.KD&&aaA f.wr g.rd&&aaA g.wr f.rd&&zm x j&&zm y i &&
 (match x.dst with|some d=>!cU (Ep a y) d&&(match y.dst with|some e=>!Nat.beq d e|none=>true)|none=>true) &&
 (match y.dst with|some e=>!cU (Ep a x) e|none=>true)
def Er(a:Array Oper)(i:Nat)(o:Oper)(f:Fp)(m:Nat):List T3->Bool
 | []=>true
 | (k,ok,b,_)::r=>(Nat.testBit m k||BR a k i ok o b f)&&Er a i o f m r
def kz(i:Nat)(a:Nat->Bool):Nat->Bool:=λk=>Nat.beq k i||a k
def wU(a:Array Oper):List (Nat×Oper)->List T3->St->(Nat->Bool)->Tree St
 | [],_,σ,_=>.ret σ
 | (i,o)::r,done,σ,b =>
   let f:=BQ cx nb o σ
   let m:=mask done o
   bif Er a i o f m done&&(o.after.all λe=>!Region.binds .any e||Nat.blt e.on i) then
    match o.guard with
    | none=>(jl cx nb bf inl f o σ).bind λσ=>wU a r ((i,o,f,m)::done) σ b
    | some (g,want)=>match(a[g]?).bind (·.dst) with
      | none=>.fail
      | some dg=>bif b g then wU a r ((i,o,f,m)::done) (σ.bt o.dst .undef) (kz i b)
        else match σ.bb dg with
         | .data .bool c=>.node c
          (bif want then(jl cx nb bf inl f o<|σ.put dg<|.data .bool true).bind λσ=>wU a r ((i,o,f,m)::done) σ b
           else wU a r ((i,o,f,m)::done) ((σ.put dg<|.data .bool true).bt o.dst .undef) (kz i b))
          (bif want then wU a r ((i,o,f,m)::done) ((σ.put dg<|.data .bool false).bt o.dst .undef) (kz i b)
           else(jl cx nb bf inl f o<|σ.put dg<|.data .bool false).bind λσ=>wU a r ((i,o,f,m)::done) σ b)
         | _=>.fail
   else .fail
def oG:List Oper->Bool
 | []=>true
 | o::r=>(match o.dst with|some d=>!cU (Hl r) d|none=>true)&&oG r
where Hl:List Oper->List Nat
 | []=>[]
 | o::r=>match o.dst with|some d=>d::Hl r|none=>Hl r
def T4(a:Array Oper):Option (Nat×Ty):=match a.back? with
 | some o=>match o.dst,find cx.T o.type with
   | some d,aa t=>bif cU bf (8700000+d) then aa (d,t) else af
   | _,_=>af
 | none=>af
def zn(a:Array Oper)(b:St):Tree St :=
 bif a.any λo=>o.guard.isSome then(bif oG a.toList then(match T4 cx bf a with
  | none=>wU cx nb bf inl a (number 0 a.toList) [] b (λ_=>false)
  | some (d,t)=>((wU cx nb bf inl a (number 0 a.toList) [] b.gE λ_=>false).bind λτ=>match toD t (cW τ<|.tmp d) with
    | some x=>.ret x
    | none=>.fail).join λx=>.ret ((b.undef<|number 0 a.toList).bt (aa d)<|.data t x)) else .fail)
 else Ls cx nb bf inl (number 0 a.toList) [] b
end
def rounds{S R:Type}(f:S->Option (S⊕R)):Nat->S->Option R
 | 0,_=>af
 | n+1,s=>(f s).bind λx=>match x with|.inl s=>rounds f n s|.inr r=>aa r
def IP{S R}{f:S->Option (S⊕R)}:∀{n s r},rounds f n s=aa r->∀m,n<=m->rounds f m s=aa r:=by
 intro n;induction n with
 | zero=>intro s r h;cases h
 | succ n b =>
   intro s r h m c;obtain⟨k,rfl⟩:∃k,m=k+1:=⟨m-1,ag⟩;simp only[rounds] at h⊢;cases a:f s with
   | none=>rw[a] at h;cases h
   | some x =>
     grind
open Classical in
def T5{S R:Type}(f:S->Option (S⊕R))(s:S):Option R :=
 if h:∃n r,rounds f n s=aa r then aa (Classical.choose<|YV h) else af
def Bb{S R}{f:S->Option (S⊕R)}{n s r}(h:rounds f n s=aa r):T5 f s=aa r:=by
 have c:∃n r,rounds f n s=aa r:=⟨n,r,h⟩;unfold T5;have a:=IP h (max n<|Classical.choose c) ag;have b:=IP (YV<|YV c) (max n<|Classical.choose c) ag
 grind
class Lp where
 loop:{S R:Type}->(S->Option (S⊕R))->S->Option R
 ok:∀{S R:Type} (f:S->Option (S⊕R)) (s:S),loop f s=T5 f s
def Lp.one(i j:Lp):i=j:=by
 obtain⟨l,h⟩:=i;obtain⟨m,k⟩:=j;have:@l=@m:=by funext S R f s;rw[h,k]
 grind
@[reducible] noncomputable def Lp.JL:Lp where
 loop:=λf s=>match rounds f 100000 s with|some r=>aa r|none=>T5 f s
 ok:=λf s=>by
  generalize 100000=k;cases a:rounds f k s with
  | some r=>exact(Bb a).symm
  | none=>rfl
section
variable [Lp]
def Loop{S R:Type}(f:S->Option (S⊕R))(s:S):Option R:=Lp.loop f s
def rY{S R}{f:S->Option (S⊕R)}{n s r}(h:rounds f n s=aa r):Loop f s=aa r:=(Lp.ok f s).trans (Bb h)
def rZ{S R}{f:S->Option (S⊕R)}{s r}(h:Loop f s=aa r):∃n,rounds f n s=aa r:=by
 replace h:=(Lp.ok f s).symm.trans h;unfold T5 at h;split at h
 .grind
 .cases h
def aO{S R}(f:S->Option (S⊕R)) s:Loop f s=(f s).bind λx=>match x with|.inl s=>Loop f s|.inr r=>aa r:=by
 cases b:f s with
 | none =>
   cases a:Loop f s with
   | none=>rfl
   | some r =>
     obtain⟨n,hn⟩:=rZ a;cases n with
     | zero=>cases hn
     | succ n=>simp[rounds,b] at hn
 | some x =>
   cases x with
   | inr r=>exact rY (n:=1) (by simp[rounds,b])
   | inl d =>
     show Loop f s=Loop f d
     cases a:Loop f d with
     | some r =>
       obtain⟨n,hn⟩:=rZ a;exact rY (n:=n+1) (by simp[rounds,b,hn])
     | none =>
       cases c:Loop f s with
       | none=>rfl
       | some r =>
         obtain⟨n,hn⟩:=rZ c;cases n with
         | zero=>cases hn
         | succ n =>
           simp[rounds,b] at hn;rw[rY hn] at a;cases a
end
inductive Sh where
 | d (t:Ty)
 | k (v:ch)
 | m (a b:Sh)
def Sh.ty:Sh->Ty
 | .d t=>t
 | .k _=>.unit
 | .m a b=>.pair a.ty b.ty
def KE:List Sel->List Sel->Bool
 | [],[]=>true
 | .gB k o::p,.gB a b::q=>Nat.beq k a&&Nat.beq o b&&KE p q
 | _,_=>false
def KF:List (Nat×Nat)->List (Nat×Nat)->Bool
 | [],[]=>true
 | (a,b)::r,(c,d)::s=>Nat.beq a c&&Nat.beq b d&&KF r s
 | _,_=>false
def WO:∀{p q},KE p q=true->p=q:=by
 intro p;induction p with
 | nil=>intro q h;cases q<;>first|rfl|cases h
 | cons s p a =>
   intro q h;cases s with
   | idx i n=>cases q<;>cases h
   | gB k o =>
     cases q with
     | nil=>cases h
     | cons b q =>
       cases b with
       | idx i n=>cases h
       | gB c d =>
         simp only[KE,gz] at h;rw[gA h.1.1,gA h.1.2,a h.2]
def WQ:∀{p q},KF p q=true->p=q:=by
 intro p;induction p with
 | nil=>intro q h;cases q<;>first|rfl|cases h
 | cons s p c =>
   intro q h;obtain⟨a,b⟩:=s;cases q with
   | nil=>cases h
   | cons d q =>
     simp only[KF,gz] at h;rw[gA h.1.1,gA h.1.2,c h.2]
def Fu(V:Nat->Bool->Bool)(d g:St):ch->ch->Bool
 | .ptr b v p,.ptr e a h=>Nat.beq b e&&KE p h&&(bif V b false then(match d.mem b,g.mem b with|some x,aa y=>Nat.beq x.aM v&&Nat.beq y.aM a|_,_=>false) else Nat.beq v a)
 | .whole b v,.whole e a=>Nat.beq b e&&(match d.mem b,g.mem b with|some x,aa y=>Nat.beq x.aM v&&Nat.beq y.aM a&&y.buf|_,_=>false)
 | .fn f c,.fn i j=>Nat.beq f i&&KF c j
 | .uO,.uO=>true
 | .uP,.uP=>true
 | .ya b v,.ya e a=>Nat.beq b e&&Nat.beq v a
 | _,_=>false
def ago:ch->Sh
 | .data t _=>.d t
 | .mix a b=>.m (ago a) (ago b)
 | v=>.k v
def Sh.out(V:Nat->Bool->Bool)(c e:St):(s:Sh)->ch->Option s.ty.den
 | .d t,v=>toD t v
 | .k u,v=>bif Fu V c e u v then aa () else af
 | .m a b,.mix v w=>match Sh.out V c e a v,Sh.out V c e b w with
   | some x,aa y=>aa (x,y)
   | _,_=>af
 | .m _ _,_=>af
def bump(M:Nat->Bool)(V:Nat->Bool->Bool):ch->ch
 | .whole b v=>bif M b&&V b true then .whole b (v+1) else .whole b v
 | .ptr b v p=>bif M b&&V b false then .ptr b (v+1) p else .ptr b v p
 | v=>v
def Sh.rQ(M:Nat->Bool)(V:Nat->Bool->Bool):(s:Sh)->s.ty.den->ch
 | .d t,x=>.data t x
 | .k v,_=>bump M V v
 | .m a b,x=>.mix (a.rQ M V x.1) (b.rQ M V x.2)
structure Rm where
 S:List (Nat×Nat)
 M:List Nat
 fz:Bool
structure Fv where
 marks:List (Option Rm)
 adx:List Nat
structure Carry where
 S:List (Nat×Sh)
 M:List (Nat×Sh×Box)
 V:Nat->Bool->Bool
def tyS:List (Nat×Sh)->Ty
 | []=>.unit
 | (_,s)::r=>.pair s.ty (tyS r)
def tyM:List (Nat×Sh×Box)->Ty
 | []=>.unit
 | (_,s,_)::r=>.pair s.ty (tyM r)
def Carry.ty(c:Carry):Ty:=.pair (tyS c.S) (tyM c.M)
def agp(V:Nat->Bool->Bool)(a b:St):(l:List (Nat×Sh))->Option (tyS l).den
 | []=>aa ()
 | (i,s)::r=>match Sh.out V a b s (b.bb i),agp V a b r with
   | some x,aa y=>aa (x,y)
   | _,_=>af
def IQ(c d:Bool)(a b:Box):Bool:=(c||(a.ro==b.ro))&&Nat.beq a.tid b.tid&&(a.buf==b.buf)&&(d||Nat.beq a.aM b.aM)
def agq(V:Nat->Bool->Bool)(d:Bool)(a c:St):(l:List (Nat×Sh×Box))->Option (tyM l).den
 | []=>aa ()
 | (i,s,b)::r=>match c.mem i with
   | some e=>bif IQ d (V i b.buf) e b then(match Sh.out V a c s e.val,agq V d a c r with
     | some x,aa y=>aa (x,y)
     | _,_=>af) else af
   | none=>af
def Carry.out(c:Carry)(fz:Bool)(a b:St):Option c.ty.den :=
 match agp c.V a b c.S,agq c.V fz a b c.M with
 | some x,aa y=>aa (x,y)
 | _,_=>af
def Rn(M:Nat->Bool)(V:Nat->Bool->Bool):(l:List (Nat×Sh))->(tyS l).den->Nat->Option ch
 | [],_,_=>af
 | (i,s)::r,x,t=>bif Nat.beq t i then aa (s.rQ M V x.1) else Rn M V r x.2 t
def Lt(fz:Bool)(M:Nat->Bool)(V:Nat->Bool->Bool):(l:List (Nat×Sh×Box))->(tyM l).den->Nat->Option Box
 | [],_,_=>af
 | (i,s,b)::r,x,t=>bif Nat.beq t i then aa { b with val:=s.rQ M V x.1,ro:=b.ro||fz,aM:=bif V t b.buf then b.aM+1 else b.aM } else Lt fz M V r x.2 t
def DJ:List (Nat×Sh×Box)->Nat->Bool
 | [],_=>false
 | (i,_,_)::r,t=>Nat.beq t i||DJ r t
def Carry.rQ(c:Carry)(fz lock:Bool)(e:List Nat)(a:St)(x:c.ty.den):St :=
 { bb:=λt=>match Rn (DJ c.M) c.V c.S x.1 t with
    | some v=>v
    | none=>bif cU e t then .undef else a.bb t
   mem:=λb=>match Lt fz (DJ c.M) c.V c.M x.2 b with
    | some d=>aa d
    | none=>match a.mem b with
      | some d=>aa { d with lk:=d.lk||lock }
      | none=>af }
def settle:List (Nat×Sh)->St->Option St
 | [],σ=>aa σ
 | (i,.d t)::r,σ=>match BN σ t (σ.bb i) with
   | some (x,σ)=>settle r (σ.put i<|.data t x)
   | none=>af
 | _::r,σ=>settle r σ
def Carry.Lu(c:Carry)(fz:Bool)(a b:St):Option c.ty.den :=
 bif fz then(match settle c.S b with
  | some b=>c.out true a b
  | none=>af)
 else c.out false a b
def Carry.lock(c:Carry)(σ:St):St :=
 { σ with mem:=λb=>match σ.mem b with
  | some a=>aa (bif DJ c.M b then a else { a with lk:=true })
  | none=>af }
def r4:List Oper->List Nat
 | []=>[]
 | o::r=>match o.dst with|some d=>d::r4 r|none=>r4 r
def writes:Code->List Nat
 | .region _ ops _=>r4 ops.toList
 | .seq a b=>writes a++writes b
 | .cond _ a b=>writes a++writes b
 | .block _ a=>writes a
 | .loop a=>writes a
 | .scope a=>writes a
 | _=>[]
def vC:Code->List Nat
 | .seq a b=>vC a++(vC b).filter λe=>!cU (vC a) e
 | .cond _ a b=>vC a++(vC b).filter λe=>!cU (vC a) e
 | .block i a=>(vC a).filter λe=>!Nat.beq e (i+2)
 | .loop a=>vC a
 | .scope a=>vC a
 | .ret=>[1]
 | .exit i=>[i+2]
 | _=>[]
def marks:Code->Nat
 | .seq a b=>marks a+marks b
 | .cond _ a b=>marks a+marks b+1
 | .block _ a=>marks a
 | .loop a=>marks a+1
 | .scope a=>marks a
 | _=>0
def JM:List Nat->Nat->Option Nat
 | [],_=>af
 | e::r,k=>bif Nat.beq e k then aa 0 else(JM r k).map (·+1)
def WR:List Nat->List Nat->List Nat
 | [],l=>l
 | b::r,l=>bif cU l b then WR r l else WR r (l++[b])
section
variable (cx:Ctx)
def mkS(a:St):List (Nat×Nat)->Option (List<|Nat×Sh)
 | []=>aa []
 | (i,ty)::r=>match mkS a r with
   | none=>af
   | some l=>bif Nat.beq ty 999999 then(match a.bb i with
     | .whole b v=>aa ((i,.k (.whole b v))::l)
     | _=>aa l) else match a.bb i with
     | .data t _=>aa ((i,.d t)::l)
     | .undef|.pN=>match find cx.T ty with
       | some t=>aa ((i,.d t)::l)
       | none=>af
     | v=>aa ((i,.k v)::l)
def CX(a:St):List Nat->List Nat
 | []=>[]
 | b::r=>(match a.mem b with|some d=>(match d.val with|.mix u v=>zk a (.mix u v)|.whole c _=>[c]|.fn f c=>zk a (.fn f c)|_=>[])|none=>[])++CX a r
def Ro(a:St):List Nat->List Nat
 | []=>[]
 | i::r =>
   let r0:=zk a (a.bb i)
   let r1:=CX a r0
   let r2:=CX a r1
   WR (r0++(r1++(r2++CX a r2))) (Ro a r)
def ady:ch->Bool
 | .mix a b=>ady a||ady b
 | .fn ..=>true
 | .undef=>true
 | _=>false
def ah8(a:Box):Bool:=a.lk||(match a.val with|.mix (.data _ _) b=>ady b|_=>false)
def mkM(c:St):List Nat->Option (List<|Nat×Sh×Box)
 | []=>aa []
 | b::r=>match c.mem b,mkM c r with
   | some a,aa l=>bif ah8 a then aa l else aa ((b,ago a.val,a)::l)
   | _,_=>af
def aiF:ch->Option Nat
 | .whole b _=>aa b
 | .part b _ _ _=>aa b
 | _=>af
def Fw:List Nat->St->Option St
 | [],σ=>aa σ
 | m::r,σ=>bif Nat.ble 2000000 m then(match aiF (σ.bb<|m-2000000) with
  | some b=>match σ.mem b with
    | some a=>match a.val with
      | .data (.slice e) _=>match BN σ (.slice e) (σ.bb<|m-2000000) with
        | some (x,σ)=>Fw r (σ.put (m-2000000)<|.data (.slice e) x)
        | none=>af
      | _=>af
    | none=>af
  | none=>Fw r σ) else Fw r σ
def akd(a:Nat)(c:List Nat)(d:St)(b:Nat):Bool:=cU (c.map (a+·)) b&&(match d.mem b with|some x=>!x.buf&&!rU x.val|none=>false)
def KG(d:Nat)(e:List Nat)(a:St)(p:Rm):Option Carry :=
 match mkS cx a p.S,mkM a (Ro a p.M) with
 | some s,aa m=>aa ⟨s,m,λb c=>bif c then !cU p.M 3999999 else akd d e a b⟩
 | _,_=>af
variable (nb:Nat) (bf:List Nat) (inl:Nat->List ch->St->Tree (ch×St))
def Fx{a:Type}:List Nat->Nat->(Nat->Tree a)->Tree a
 | [],_,_=>.fail
 | [e],_,f=>f e
 | e::r,i,f=>.node (cK i 0) (f e) (Fx r (i-1) f)
variable [Lp]
def again{S:Type}(f:S->Tree (Nat×S)):Nat->S->Tree (Nat×S)
 | 0,_=>.fail
 | n+1,s=>(f s).bind λr=>bif Nat.beq r.1 0 then again f n r.2 else .ret r
def WS(p:Rm):Option Nat:=match p.M with
 | [m]=>bif Nat.ble 6000000 m then aa (m-6000000) else af
 | _=>af
def Hm(f:St->Tree (Nat×St))(c:Nat):Nat->Nat->St->Tree (Nat×St)
 | 0,_,_=>.fail
 | n+1,j,σ=>match σ.bb c with
   | .data (.int .i64) x=>.jw (aG x j) ((f<|σ.put c<|.data (.int .i64) (j:Int)).bind λr=>bif Nat.beq r.1 0 then Hm f c n (j+1) r.2 else .ret r)
   | _=>.fail
def yO(a:Nat->Option Box):Nat->Option Box:=λi=>match a i with|some b=>aa { b with ro:=true,lk:=true }|none=>af
def St.still(a:St):St:={ a with mem:=yO a.mem }
def ah9:ch->Bool
 | .data t _=>t.flat
 | _=>false
def St.back(a:St)(c:List Nat)(b:St):St:={ bb:=λt=>bif cU c t then(bif ah9 (b.bb t) then b.bb t else .undef) else a.bb t,mem:=a.mem }
def yb(a:List Nat):Code->Bool
 | .seq (.region i _ _) _=>cU a (8900000+i)
 | _=>false
def three(a:List Nat):Code->Option (Code×Code×Code)
 | .seq (.region j p e) (.seq c r)=>bif yb a c then af else aa (.region j p e,c,r)
 | _=>af
def WT(a:List Nat):Code->Code
 | .seq (.region i o d) y=>bif cU a (8900000+i) then(match three a y with
    | some (b,c,r)=>.seq (.seq (.region i o d)<|.seq b c) r
    | none=>.seq (.region i o d) y)
   else .seq (.region i o d) (WT a y)
 | .seq x y=>.seq x (WT a y)
 | c=>c
def eF:Code->List (Option Rm)->St->Tree (Nat×St)
 | .skip,_,σ=>.ret (0,σ)
 | .label _,_,σ=>.ret (0,σ)
 | .ret,_,σ=>.ret (1,σ)
 | .exit i,_,σ=>.ret (i+2,σ)
 | .region _ ops f,_,σ=>(bif f then zn cx nb bf inl ops σ else Lr cx nb bf inl ops σ).bind λσ=>.ret (0,σ)
 | .seq a b,pl,σ=>bif yb bf a then(eF a pl σ.still).bind λr=>bif Nat.beq r.1 0 then eF b (pl.drop<|marks a) (σ.back (writes a) r.2) else .ret (r.1,σ.back (writes a) r.2)
   else(eF a pl σ).bind λr=>bif Nat.beq r.1 0 then eF b (pl.drop<|marks a) r.2 else .ret r
 | .block i a,pl,σ=>(eF a pl σ).bind λr=>.ret (bif Nat.beq r.1 (i+2) then 0 else r.1,r.2)
 | .scope a,pl,σ=>eF a pl σ
 | .cond c a b,pl,σ=>match cW σ c,pl with
   | .data .bool c,none::pl=>.node c (eF a pl σ) (eF b (pl.drop<|marks a) σ)
   | .data .bool c,aa p::pl=>match Fw p.M σ with
    | none=>.fail
    | some σ=>match KG cx nb bf σ p with
     | none=>.fail
     | some k =>
       let t:=Tree.node c (eF a pl<|k.lock σ) (eF b (pl.drop<|marks a)<|k.lock σ)
       let wr:=writes a++writes b
       match vC a++(vC b).filter (λe=>!cU (vC a) e) with
       | []=>(t.bind λr=>bif Nat.beq r.1 0 then Tree.adq (k.Lu p.fz σ r.2) else .fail).join λx=>.ret (0,k.rQ p.fz false wr σ x)
       | es=>(t.bind λr=>match JM (0::es) r.1,k.Lu p.fz σ r.2 with
        | some i,aa x=>.ret (i,x)
        | _,_=>.fail).join λx=>Fx (0::es) x.1 λe=>.ret (e,k.rQ p.fz false wr σ x.2)
   | _,_=>.fail
 | .loop a,pl,σ=>match pl with
   | some p::pl=>match WS p with
    | some c=>Hm (λσ=>eF a pl σ) c 100 0 σ
    | none=>match Fw p.M σ with
    | none=>.fail
    | some σ=>match KG cx nb bf σ p with
     | none=>.fail
     | some k=>match k.out false σ σ with
       | none=>.fail
       | some d =>
         let wr:=writes a
         let es:=vC a
         let body (x:k.ty.den):Option (k.ty.den⊕(Nat×k.ty.den)):=((eF a pl<|k.rQ false true wr σ x).bind λr=>bif Nat.beq r.1 0 then(match k.out false σ r.2 with
           | some y=>.ret (.inl y)
           | none=>.fail)
          else match JM es r.1,k.Lu p.fz σ r.2 with
           | some i,aa y=>.ret (.inr (i,y))
           | _,_=>.fail).run
         match es with
         | [e]=>.look (Loop (λx=>cl (body x)) d) λx=>.ret (e,k.rQ p.fz false wr σ x)
         | es=>.look (Loop body d) λx=>Fx es x.1 λe=>.ret (e,k.rQ p.fz false wr σ x.2)
   | none::pl=>again (λσ=>eF a pl σ) 100000 σ
   | _=>.fail
 | _,_,_=>.fail
end
variable [Lp]
def yc(mem:Nat->Option Box)(a:List ch):St:={ bb:=λt=>(a[t]?).getD .undef,mem }
def Hn(c:Ctx)(b:St):ResultVar->Tree ch
 | .tmp t=>.ret (b.bb t)
 | .cell a ty=>(mq c (aa 0) ty (b.bb a) b).bind λτ=>.ret (τ.bb 0)
def Fy(a:Ctx)(b:St):List ResultVar->Tree ch
 | []=>.ret .nl
 | r::rs=>(Hn a b r).bind λv=>(Fy a b rs).bind λl=>.ret (.mix v l)
def results1(a:Ctx)(b:St):List ResultVar->Tree ch
 | [r]=>Hn a b r
 | rs=>(Fy a b rs).bind λl=>.ret (.BI l)
def gY(mem:Nat->Option Box):St:={ bb:=λ_=>.undef,mem }
def aia(a:Ctx):List TypeId->Option (List Ty)
 | []=>aa []
 | t::r=>match find a.T t,aia a r with
   | some u,aa l=>aa (u::l)
   | _,_=>af
def adz(b:Ctx)(a:List TypeId):List Nat->Option (Bool×List Ty)
 | []=>af
 | m::r=>bif Nat.ble 7000000 m&&Nat.ble m 7999999 then(bif Nat.beq m 7999999 then(aia b a).map λl=>(true,l) else(find b.T<|m-7000000).map λR=>(false,[R])) else adz b a r
def spread(a:Bool)(v:ch):Nat->ch :=
 match a,v with
 | false,v=>λt=>bif Nat.beq t 0 then v else .undef
 | true,.BI m=>λt=>match nth m t with|some u=>u|none=>.undef
 | true,_=>λ_=>.undef
def Rp:ch->Nat
 | .mix _ b=>Rp b+1
 | _=>0
def T6(a:Bool)(v:ch)(n:Nat):Bool :=
 match a,v with
 | false,_=>Nat.beq n 1
 | true,.BI m=>Nat.beq (Rp m) n
 | true,_=>false
def aiG(a:Nat->ch):Nat->Nat->ch
 | _,0=>.nl
 | i,n+1=>.mix (a i) (aiG a (i+1) n)
def Rq(b:Bool)(n:Nat)(a:Nat->ch):ch :=
 match b with
 | false=>a 0
 | true=>.BI (aiG a 0 n)
def adA(a:Bool)(v:ch)(mem:Nat->Option Box):St:={ bb:=spread a v,mem }
def Zg:List Ty->Nat->List (Nat×Sh)
 | [],_=>[]
 | t::r,i=>(i,.d t)::Zg r (i+1)
def WU:ch->ch
 | .whole _ _=>.undef
 | .mix a b=>.mix (WU a) (WU b)
 | v=>v
def Fz:ch->List ch
 | .mix a b=>a::Fz b
 | _=>[]
def zo:(R:Ty)->ch->List ch
 | .pair _ .unit,v=>[v]
 | _,.BI v=>Fz v
 | _,v=>[v]
def chT:List Ty->Ty
 | t::r=>.pair t (chT r)
 | []=>.unit
def adB(R:List Ty)(F:(Nat->Option Box)->Tree (ch×(Nat->Option Box)))(a:Nat->Option Box):Tree (ch×(Nat->Option Box)) :=
 (F a).bind λr=>match gD (gY r.2) (chT R) (zo (chT R) r.1) with
  | some (y,σ)=>.ret (rS (chT R) y,σ.mem)
  | none=>.fail
def Zh(R:Bool×List Ty)(args:List ch)(a:Nat->Option Box)(F:(Nat->Option Box)->Tree (ch×(Nat->Option Box))):Tree (ch×(Nat->Option Box)) :=
 match mkM (gY a) (Ro (yc a<|args.map WU)<|List.range args.length) with
 | none=>.fail
 | some m =>
   let k:Carry:=⟨Zg R.2 0,m,λ_ b=>b⟩
   let wr:=List.range R.2.length
   ((F (k.lock<|gY a).mem).bind λr=>bif T6 R.1 r.1 R.2.length then Tree.adq (k.out false (gY a)<|adA R.1 r.1 r.2) else .fail).join λx =>
    .ret (Rq R.1 R.2.length (k.rQ false false wr (gY a) x).bb,(k.rQ false false wr (gY a) x).mem)
def Lv(d:Ctx)(e:Nat)(p:Fv)(inl:Nat->List ch->St->Tree (ch×St))(f:Func)(c:Code)(a:List ch)(b:Nat->Option Box):Tree (ch×(Nat->Option Box)) :=
 (eF d e p.adx inl (WT p.adx c) p.marks<|yc b a).bind λr =>
  bif Nat.beq r.1 0||Nat.beq r.1 1 then(results1 d r.2 f.results.toList).bind λv=>.ret (v,r.2.mem) else .fail
def DU(a:Ctx):Nat->(nb:Nat)->(gZ:Nat->Fv)->Nat->List ch->(Nat->Option Box)->Tree (ch×(Nat->Option Box))
 | 0,_,_,_,_,_=>.fail
 | n+1,nb,gZ,f,args,mem=>match find a.fns f with
   | some fn=>match fn.body with
     | some c=>match adz a fn.resultTypes.toList (gZ f).adx with
       | none=>Lv a nb (gZ f) (λg b σ=>(DU a n ((nb+g+1)*1000) gZ g b σ.mem).bind λr=>.ret (r.1,{ σ with mem:=r.2 })) fn c args mem
       | some R=>Zh R args mem (adB R.2<|Lv a nb (gZ f) (λg b σ=>(DU a n ((nb+g+1)*1000) gZ g b σ.mem).bind λr=>.ret (r.1,{ σ with mem:=r.2 })) fn c args)
     | none=>.fail
   | none=>.fail
def Es:(A:Ty)->A.den->List ch
 | .pair t r,x=>.data t x.1::Es r x.2
 | _,_=>[]
def eZ(k:Nat):Nat:=777000000+k
def IU:List Bool->(A U:Ty)->A.den->Nat->List ch
 | [],_,_,_,_=>[]
 | false::ps,A,U,x,k=>match A,x with
   | .pair t A,x=>.data t x.1::IU ps A U x.2 k
   | _,_=>[]
 | true::ps,A,U,x,k=>match U with
   | .pair _ U=>.ptr (eZ k) 0 []::IU ps A U x (k+1)
   | _=>[]
def Ho:(U:Ty)->U.den->Nat->Nat->Option Box
 | .pair t U,u,k,b=>bif Nat.beq b (eZ k) then aa { val:=.data t u.1,tid:=0,buf:=false,ro:=false,lk:=false,aM:=0 } else Ho U u.2 (k+1) b
 | _,_,_,_=>af
def FA(a:Nat->Option Box):(U:Ty)->Nat->Option U.den
 | .pair t U,k=>match a (eZ k) with
   | some b=>bif Nat.beq b.aM 0&&!b.buf&&!b.ro then(match toS t b.val,FA a U (k+1) with
     | some x,aa u=>aa (x,u)
     | _,_=>af) else af
   | none=>af
 | .unit,_=>aa ()
 | _,_=>af
def ake(b:Ctx)(n:Nat)(a:Nat->Fv)(f:Nat)(c:List Bool)(A U R:Ty)(x:A.den×U.den):Option (R.den×U.den) :=
 ((DU b n 0 a f (IU c A U x.1 0)<|Ho U x.2 0).bind λr=>match gD (gY r.2) R (zo R r.1) with
  | some (y,σ)=>(match FA σ.mem U 0 with
    | some u=>.ret (y,u)
    | none=>.fail)
  | none=>.fail).run
def jR:Nat:=776000000
def Lw:Ty->Nat->List (Nat×Nat)
 | .pair _ U,k=>(eZ k,0)::Lw U (k+1)
 | _,_=>[]
def WV(T F:Nat)(t U:Ty)(r:t.den):Box:={ val:=.mix (.data t r) (.mix (.fn F<|Lw U 0)<|.data .unit ()),tid:=T,buf:=false,ro:=false,lk:=true,aM:=0 }
def Rr(T F:Nat)(t U:Ty)(r:t.den)(u:U.den)(b:Nat):Option Box:=bif Nat.beq b jR then aa (WV T F t U r) else Ho U u 0 b
def akf(b:Ctx)(n:Nat)(a:Nat->Fv)(f:Nat)(T F:Nat)(t A U R:Ty)(x:(t.den×A.den)×U.den):Option (R.den×U.den) :=
 ((DU b n 0 a f (.ptr jR 0 []::Es A x.1.2)<|Rr T F t U x.1.1 x.2).bind λr=>match gD (gY r.2) R (zo R r.1) with
  | some (y,σ)=>(match FA σ.mem U 0 with
    | some u=>.ret (y,u)
    | none=>.fail)
  | none=>.fail).run
def sem(b:Ctx)(n:Nat)(a:Nat->Fv)(f:Nat)(A R:Ty)(x:A.den):Option R.den :=
 ((DU b n 0 a f (Es A x) λ_=>af).bind λr=>match jk (gY r.2) R (zo R r.1) with
  | some y=>.ret y
  | none=>.fail).run
end Go.Ge
