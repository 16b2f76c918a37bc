import Derived.WalkKit
set_option linter.unusedVariables false
set_option linter.unusedSectionVars false
set_option linter.unusedSimpArgs false
set_option linter.defProp false
open Option renaming some->aa,none->af
def ai{p:Prop}(h:p:=by omega):p:=h
def aI{p:Prop}(h:p:=by decide):p:=h
def aW{p:Prop}(h:p:=by simp):p:=h
def dW{p:Prop}(h:p:=by simp;omega):p:=h
def xv{p:Prop}(h:p:=by dsimp only;omega):p:=h
def ch{p:Prop}(h:p:=by intro k;cases k):p:=h
def Ak{p:Prop}(h:p:=by intro x k;cases k):p:=h
abbrev bj:=List UInt8
abbrev al:=Unit
abbrev aU:=@Option.some.inj
abbrev aK:=@if_neg
abbrev aN:=@if_pos
abbrev cj:=@decide_eq_false
abbrev cT:=@decide_eq_true
abbrev gQ:=@List.getElem?_eq_getElem
abbrev iN:=@Nat.eq_of_beq_eq_true
abbrev gR:=@List.length_append
abbrev kG:=@List.mem_of_getElem?
abbrev gC:=@Bool.and_eq_true
abbrev cY:=@List.length_take
abbrev ga:=@List.getElem?_eq_some_iff
abbrev b8:=@Nat.le_refl
abbrev b9:=@Prod.mk.inj
abbrev hL:=@Nat.mul_le_mul_right
abbrev fk:=@decide_eq_decide
abbrev gb:=@of_decide_eq_true
abbrev nF:=@Classical.byContradiction
abbrev eK:=@List.mem_cons
abbrev kh:=@List.getElem?_take
abbrev iG:=@List.length_cons
abbrev Al:=@List.takeWhile_append_dropWhile
abbrev gS:=@Nat.le_trans
abbrev pg:=@List.mem_cons_self
abbrev zm:=@List.drop_eq_getElem_cons
abbrev rO:=@List.append_assoc
abbrev A9:=@Array.getElem?_eq_some_iff
abbrev iO:=@Nat.add_mul
abbrev qo:=@List.length_drop
abbrev wG:=@List.mem_cons_of_mem
abbrev qg:=@List.length_map
abbrev Am:=@List.length_eq_zero_iff
abbrev qp:=@List.length_nil
abbrev xw:=@List.getElem?_drop
abbrev D3:=@List.pairwise_iff_getElem
abbrev Ba:=@List.take_append_drop
abbrev ym:=@List.pairwise_cons
abbrev wH:=@List.all_eq_true
abbrev Bb:=@List.mem_of_mem_take
abbrev D4:=@List.head_eq_of_cons_eq
abbrev yn:=@List.take_add_one
abbrev zn:=@decide_eq_true_eq
abbrev Gl:=@Option.bind_eq_some_iff
abbrev qh:=@Nat.zero_le
abbrev An:=@Int.toNat_natCast
abbrev yo:=@Nat.min_eq_left
abbrev Ao:=@List.take_length
abbrev zo:=@List.append_nil
abbrev sK:=@Int.le_refl
abbrev Ho:=@Option.map_eq_some_iff
abbrev B7:=@List.getElem?_map
abbrev Gm:=@List.mem_append_left
abbrev Is:=@List.take_of_length_le
abbrev Iu:=@List.drop_of_length_le
abbrev D5:=@List.mem_singleton
abbrev Ap:=@List.drop_drop
abbrev xy:=@Nat.lt_or_ge
abbrev B8:=@List.mem_filter
abbrev Hp:=@List.filter_eq_self
abbrev Hq:=@Nat.lt_of_lt_of_le
abbrev Pb:=@Option.isSome_iff_exists
abbrev XZ:=@List.findIdx?_eq_some_iff_getElem
abbrev Hr:=@Bool.not_eq_true'
abbrev M7:=@Nat.le_of_ble_eq_true
abbrev M8:=@List.mem_append_right
abbrev Gn:=@List.nil_append
abbrev Gp:=@List.mem_append
abbrev Bc:=@List.mem_map
abbrev Hs:=@List.mem_flatMap
abbrev D6:=@List.drop_zero
abbrev Iv:=@Array.toList_inj
abbrev Pc:=@Bool.or_eq_false_iff
abbrev SK:=@List.getElem?_eq_none
abbrev Iw:=@Bool.or_eq_true
abbrev Pd:=@List.map_congr_left
abbrev M9:=@List.flatMap_cons
abbrev abn:=@List.drop_append_of_le_length
abbrev X0:=@List.mem_of_find?_eq_some
abbrev Pe:=@decide_eq_true_iff
abbrev Pf:=@List.find?_eq_none
abbrev Ht:=@Nat.add_assoc
abbrev Gq:=@Nat.zero_add
abbrev Na:=@List.cons_append
abbrev SL:=@List.getElem?_range
abbrev abo:=@Array.getD_eq_getD_getElem?
abbrev VL:=@List.length_singleton
abbrev Pg:=@List.ext_getElem?
abbrev Ph:=@Option.some.injEq
abbrev Pj:=@List.size_toArray
abbrev VM:=@List.getElem?_append
abbrev Nb:=@List.foldl_cons
abbrev B9:=@cond_true
abbrev D7:=@Nat.mod_lt
abbrev Nc:=@List.drop_left
abbrev SM:=@List.any_eq_true
abbrev X1:=@List.mem_of_mem_drop
abbrev Bd:=@Eq.trans
abbrev X2:=@List.dropWhile_cons
abbrev ahw:=@List.find?_eq_some_iff_getElem
abbrev ahx:=@List.take_append_of_le_length
abbrev Dq:=@Nat.succ_mul
abbrev Ix:=@List.drop_length
abbrev GH:=@List.take_take
abbrev zw:=@cond_false
abbrev Pk:=@List.pairwise_append
abbrev L9:=@List.length_range
abbrev Ma:=@Nat.lt_trichotomy
abbrev Iy:=@Bool.eq_iff_iff
abbrev Pm:=@List.takeWhile_cons
abbrev Iz:=@List.mem_range
abbrev Ur:=@List.mem_iff_getElem?
abbrev Us:=@List.singleton_append
abbrev X3:=@List.getElem?_append_left
abbrev Mb:=@Option.map_some
abbrev GI:=@Nat.le_of_eq
abbrev Ut:=@List.length_reverse
abbrev X4:=@Array.getElem?_eq_none
abbrev IA:=@Nat.add_zero
abbrev X5:=@Array.getElem?_modify
abbrev X6:=@List.length_filter_le
abbrev Pn:=@List.find?_some
abbrev Po:=@List.map_append
abbrev X7:=@List.dropLast_eq_take
abbrev Uu:=@List.pairwise_map
abbrev adG:=@List.findIdx?_eq_none_iff
abbrev zx:=@if_true
abbrev X8:=@Array.length_toList
abbrev X9:=@List.length_pos_iff
abbrev Ya:=@List.mem_map_of_mem
abbrev Pp:=@List.map_cons
abbrev Yb:=@of_decide_eq_false
abbrev Yc:=@List.filter_append
abbrev adH:=@List.length_eq_one_iff
abbrev Yd:=@List.nodup_append
abbrev adI:=@Classical.choose_spec
abbrev adJ:=@Nat.div_lt_iff_lt_mul
abbrev adK:=@List.length_replicate
abbrev adL:=@List.eq_nil_or_concat
abbrev ahy:=@List.take_length_add_append
abbrev Ye:=@Nat.lt_of_not_le
abbrev Yf:=@Nat.lt_succ_self
abbrev ahz:=@List.getElem?_append_right
abbrev Pq:=@Nat.mul_one
abbrev adM:=@Array.toList_append
abbrev adN:=@List.take_succ_cons
abbrev Yg:=@Nat.div_add_mod
abbrev Yh:=@UInt8.toNat_inj
abbrev ahA:=@List.getElem?_zip_eq_some
abbrev adO:=@Nat.eq_zero_or_pos
abbrev Yi:=@List.take_left
abbrev Yj:=@List.nodup_nil
abbrev ahB:=@Int.eq_ofNat_of_zero_le
abbrev adP:=@List.Sublist.refl
abbrev amP:=@List.set_eq_take_append_cons_drop
abbrev adQ:=@Option.bind_some
abbrev adR:=@List.mem_reverse
abbrev adS:=@List.filter_cons
abbrev adT:=@List.getElem_map
abbrev adU:=@List.not_mem_nil
abbrev ahC:=@Array.getElem?_toList
abbrev ahD:=@Array.mem_of_getElem?
abbrev ahE:=@BitVec.eq_of_toNat_eq
abbrev ahF:=@List.concat_eq_append
abbrev amQ:=@List.mk_mem_zipIdx_iff_getElem?
abbrev Yk:=@Nat.mul_comm
abbrev Yl:=@List.map_map
abbrev adV:=@List.take_left'
abbrev ahG:=@List.getElem_of_mem
abbrev ahH:=@Int.toNat_of_nonneg
abbrev adW:=@List.drop_take
abbrev amR:=@Array.getElem?_setIfInBounds
abbrev adX:=@List.mapM_cons
abbrev amS:=@List.dropLast_concat_getLast
abbrev Ym:=@Sum.inl.inj
abbrev Yn:=@Nat.sub_mul
abbrev ahI:=@BitVec.toNat_ofInt
abbrev ahJ:=@List.Nodup.sublist
abbrev amT:=@Int.fdiv_eq_ediv_of_nonneg
abbrev adY:=@Bool.or_assoc
abbrev amU:=@Array.getElem?_append_left
abbrev amV:=@List.getD_eq_getElem?_getD
abbrev ahK:=@List.flatten_cons
abbrev ahL:=@List.getElem?_set
abbrev ahM:=@List.getElem_take
abbrev amW:=@List.getElem?_eq_none_iff
abbrev Pr:=@Ne.symm
abbrev adZ:=@Nat.add_comm
abbrev ahN:=@Array.toList_map
abbrev amX:=@Array.setIfInBounds_comm
abbrev amY:=@Bool.eq_false_or_eq_true
abbrev ahO:=@List.getElem_mem
abbrev ahP:=@List.length_tail
abbrev amZ:=@List.getElem?_replicate
abbrev am0:=@List.getElem?_cons_zero
abbrev am1:=@List.getElem?_cons_succ
abbrev am2:=@List.filter_cons_of_pos
abbrev ahQ:=@List.length_set
abbrev ahR:=@List.nodup_cons
abbrev ahS:=@List.drop_left'
abbrev ahT:=@List.length_zip
abbrev ad0:=@decide_true
abbrev ahU:=@List.take_zero
abbrev ahV:=@Nat.mul_le_mul
abbrev am3:=@List.getElem?_toArray
abbrev ahW:=@Bool.and_false
abbrev am4:=@List.Pairwise.sublist
abbrev Yo:=@and_self
abbrev ahX:=@List.cons.inj
abbrev ahY:=@Bool.false_or
abbrev ahZ:=@Bool.and_true
abbrev ah0:=@Nat.beq_refl
abbrev ah1:=@Nat.zero_mul
abbrev ah2:=@Nat.min_self
abbrev ah3:=@Bool.not_not
noncomputable section
namespace Go.Ge
inductive Ty where
 | int (k:IntKind)|bool|str|slice (e:Ty)|arr (n:Nat) (e:Ty)|pair (a b:Ty)|unit
 | alt (u:Nat) (a r:Ty)|DV
def Ty.den:Ty->Type|.int _=>Int|.bool=>Bool|.str=>bj|.slice e=>List e.den|.arr _ e=>List e.den|.pair a b=>a.den×b.den|.unit=>al|.alt _ a r=>a.den⊕r.den|.DV=>al
def Dr:IntKind->Nat|.i8=>0|.i16=>1|.i32=>2|.i64=>3|.u8=>4|.u16=>5|.u32=>6|.u64=>7
def Be{a b:IntKind}(h:Nat.beq (Dr a) (Dr b)=true):a=b:=by cases a<;>cases b<;>first|rfl|(exact absurd h aI)
def Ty.beq:Ty->Ty->Bool|.int k,.int g=>Nat.beq (Dr k) (Dr g)|.bool,.bool=>true|.str,.str=>true|.slice e,.slice f=>Ty.beq e f|.arr n e,.arr m f=>Nat.beq n m&&Ty.beq e f|.pair a b,.pair c d=>Ty.beq a c&&Ty.beq b d|.unit,.unit=>true|.alt u a r,.alt v b s=>Nat.beq u v&&(Ty.beq a b&&Ty.beq r s)|.DV,.DV=>true|_,_=>false
def Ty.eq_of_beq:∀{a b:Ty},Ty.beq a b=true->a=b:=by intro a;induction a with|int k=>(intro b h;cases b<;>first|(exact congrArg _<|Be h)|(cases h))|bool=>(intro b h;cases b<;>first|rfl|(cases h))|str=>(intro b h;cases b<;>first|rfl|(cases h))|slice e f=>(intro b h;cases b<;>first|(exact congrArg _<|f h)|(cases h))|arr n e f =>(intro b h;cases b<;>first|(cases h;done)|skip);simp only[Ty.beq,gC] at h;rw[iN h.1,f h.2]|pair a b d g =>(intro c h;cases c<;>first|(cases h;done)|skip);simp only[Ty.beq,gC] at h;rw[d h.1,g h.2]|unit=>(intro b h;cases b<;>first|rfl|(cases h))|alt u a r d i =>(intro c h;cases c<;>first|(cases h;done)|skip);simp only[Ty.beq,gC] at h;rw[iN h.1,d h.2.1,i h.2.2]|DV=>intro b h;cases b<;>first|rfl|(cases h)
def Ty.to(t u:Ty)(x:t.den):Option u.den :=if h:Ty.beq t u=true then aa ((Ty.eq_of_beq h)▸x) else af
def Ty.beq_refl(t:Ty):Ty.beq t t=true:=by induction t with|int k=>cases k<;>rfl|bool=>rfl|str=>rfl|slice e d=>exact d|arr n e d=>simp[Ty.beq,d]|pair a b c f=>simp[Ty.beq,c,f]|unit=>rfl|alt u a r c g=>simp[Ty.beq,c,g]|DV=>rfl
def Ty.lZ{t u:Ty}{x:t.den}{y:u.den}(h:Ty.to t u x=aa y):∃e:t=u,y=e▸x:=by
 unfold Ty.to at h;split at h
 {rename_i a;exact⟨Ty.eq_of_beq a,by simpa using h.symm⟩};cases h
def toL(t u:Ty)(l:List t.den):Option (List u.den) :=if h:Ty.beq t u=true then aa ((Ty.eq_of_beq h)▸l) else af
def mE{t u:Ty}{l:List t.den}{m:List u.den}(h:toL t u l=aa m):∃e:t=u,m=e▸l:=by
 unfold toL at h;split at h
 {rename_i a;exact⟨Ty.eq_of_beq a,by simpa using h.symm⟩};cases h
def Ty.size:Ty->Nat|.int _|.bool|.str|.slice _=>1|.arr n e=>n*e.size|.pair a b=>a.size+b.size|.unit=>0|.alt _ _ r=>r.size|.DV=>1
def Ty.isAgg:Ty->Bool|.arr ..|.pair ..|.unit=>true|.alt _ _ r=>r.isAgg|_=>false
def Ty.zero:(t:Ty)->t.den|.int _=>(0:Int)|.bool=>false|.str=>([]:bj)|.slice _=>[]|.arr n e=>List.replicate n e.zero|.pair a b=>(a.zero,b.zero)|.unit=>()|.alt _ _ r=>.inr r.zero|.DV=>()
def ao{α:Type}(c:Bool)(x y:α):α:=bif c then x else y
def ae{a b:Type}(o:Option a)(f:a->Option b):Option b:=o.bind f
def nt(b:Bool):Bool:=!b
def an(a b:Bool):Bool:=a&&b
def oor(a b:Bool):Bool:=a||b
def aR(a b:Int):Bool:=decide (a=b)
def cF(a b:Nat):Bool:=Nat.beq a b
def ba(a b:Int):Bool:=decide (a<b)
def cm(a b:Int):Bool:=decide (a<=b)
def bA(a b:bj):Bool:=decide (a=b)
def dK(a b:bj):Bool:=Op.bytesLess a b
def eqL(a b:List Int):Bool:=decide (a=b)
def eqB(a b:Bool):Bool:=a==b
def cf{S:Type}(o:Option (S⊕(Nat×S))):Option (S⊕S):=o.map λr=>match r with|.inl x=>.inl x|.inr y=>.inr y.2
def aC(k:IntKind)(a b:Int):Int:=k.wrap (a+b)
def cR(k:IntKind)(a b:Int):Int:=k.wrap (a-b)
def jt(k:IntKind)(a b:Int):Int:=k.wrap (a*b)
def KB(k:IntKind)(a b:Int):Int:=k.wrap (a.tdiv b)
def fX(a b:Int):Int:=a.tmod b
def kg(k:IntKind)(a:Int):Int:=k.wrap a
def gT(k:IntKind)(x y:Int):Int:=k.wrap (BitVec.ofInt k.bits x &&& BitVec.ofInt k.bits y).toNat
def B6(k:IntKind)(x y:Int):Int:=k.wrap (BitVec.ofInt k.bits x ||| BitVec.ofInt k.bits y).toNat
def gD(k:IntKind)(x y:Int):Int:=k.wrap (BitVec.ofInt k.bits x ^^^ BitVec.ofInt k.bits y).toNat
def aoN(k:IntKind)(x y:Int):Int:=k.wrap (BitVec.ofInt k.bits x &&& ~~~BitVec.ofInt k.bits y).toNat
def ann(a b:Int):Int:=bif decide (b<a) then b else a
def imax(a b:Int):Int:=bif decide (a<b) then b else a
def om(k:IntKind)(a b:Int):Int:=k.wrap (a*2 ^ (min b.toNat k.bits))
def jv(k:IntKind)(a b:Int):Int:=a.fdiv (2 ^ (min b.toNat k.bits))
def plus(a b:Int):Int:=a+b
def minus(a b:Int):Int:=a-b
def len{α:Type}(l:List α):Int:=l.length
def ep{p:Prop}(h:p:=by unfold len;omega):p:=h
def app{α:Type}(l m:List α):List α:=l++m
def one{a:Type}(x:a):List a:=[x]
def idx{α:Type}(l:List α)(i:Int):Option α:=if 0<=i then l[i.toNat]? else af
def oo{α:Type}(l:List α)(i:Int)(x:α):List α:=l.set i.toNat x
def oq{a:Type}(n:Int)(x:a):List a:=List.replicate n.toNat x
def sub{α:Type}(l:List α)(a n:Int):List α:=(l.drop a.toNat).take n.toNat
def kD{α:Type}(l:List α)(n:Int):List α:=l.take n.toNat
def over{α:Type}(l:List α)(a:Int)(c:List α):List α:=l.take a.toNat++c++l.drop (a.toNat+c.length)
def pick{d e c:Type}(f:d->c)(g:e->c)(x:d⊕e):c:=match x with|.inl a=>f a|.inr b=>g b
def u8(b:UInt8):Int:=(b.toNat:Int)
def aB(s:bj):List Int:=s.map λb=>(b.toNat:Int)
def br(l:List Int):bj:=l.map λn=>UInt8.ofNat n.toNat
def fits(n:Int):Bool:=decide (n<=4294967296)
def inside(a b n:Int):Bool:=decide (0<=a)&&decide (a<=b)&&decide (b<=n)
def within(i n:Int):Bool:=decide (0<=i)&&decide (i<n)
inductive Tree (α:Type):Type 1 where
 | ret (a:α)
 | fail
 | node (c:Bool) (t e:Tree α)
 | look {T:Type} (o:Option T) (k:T->Tree α)
namespace Tree
def bind{α b:Type}:Tree α->(α->Tree b)->Tree b|.ret a,f=>f a|.fail,_=>.fail|.node c t e,f=>.node c (t.bind f) (e.bind f)|.look o k,f=>.look o λx=>(k x).bind f
def run{α:Type}:Tree α->Option α|.ret a=>aa a|.fail=>af|.node c t e=>ao c t.run e.run|.look o k=>ae o λx=>(k x).run
def join{T a:Type}(t:Tree T)(k:T->Tree a):Tree a :=match t with|.ret x=>k x|.node c (.ret x) (.ret y)=>k (ao c x y)|t=>.look t.run k
def jw{α:Type}(c:Bool)(t:Tree α):Tree α:=.node c t .fail
def ah4{b:Type}:Option b->Tree b|some a=>.ret a|none=>.fail
end Tree
inductive Sel where
 | gE (k off:Nat)
 | idx (i:Int) (size:Nat)
inductive cw where
 | undef
 | data (t:Ty) (x:t.den)
 | qq
 | vM
 | vN
 | zy (b aY:Nat)
 | cell (t:Ty) (x:t.den)
 | ptr (b aY:Nat) (p:List Sel)
 | whole (b aY:Nat)
 | part (b aY:Nat) (lo n:Int)
 | win (b aY:Nat) (q:List Sel) (e:Ty) (k:Nat) (lo n:Int)
 | fn (f:Nat) (aoO:List (Nat×Nat))
 | mix (a b:cw)
 | D0 (vs:cw)
 | nl
structure Box where
 val:cw
 tid:TypeId
 buf:Bool
 ro:Bool
 lk:Bool
 aY:Nat
structure St where
 bw:Nat->cw
 mem:Nat->Option Box
structure D1 where
 A:Ty
 R:Ty
 spec:A.den->Option R.den
structure D8 where
 ps:List Bool
 A:Ty
 U:Ty
 R:Ty
 spec:A.den×U.den->Option (R.den×U.den)
inductive Gr where
 | dat (t:Ty)
 | buf (e:Ty) (eid:Nat)
 | one
 | self
inductive Spc where
 | chk (T:Nat)
 | str (T E:Nat)
 | clone (e:Ty)
 | own (e A:Ty) (res:Bool) (spec:List e.den->A.den->Option (List e.den))
structure Ctx where
 T:List (Nat×Ty)
 sL:List Nat
 Bf:List Nat
 fns:List (Nat×Func)
 con:List (Nat×D1)
 ah6:List (Nat×D8)
 uu:List (Nat×List Gr)
 XY:List (Nat×Spc)
 Yp:List (Nat×Nat)
 inv:List (String×D1)
def Yq{b:Type}:List (String×b)->String->Option b|[],_=>af|(i,a)::r,k=>bif decide (i=k) then aa a else Yq r k
def find{α:Type}:List (Nat×α)->Nat->Option α|[],_=>af|(i,a)::r,k=>bif Nat.beq i k then aa a else find r k
def St.put(a:St)(d:Nat)(v:cw):St:={ a with bw:=λt=>bif Nat.beq t d then v else a.bw t }
def St.bF(a:St)(d:Option Nat)(v:cw):St:=match d with|some d=>a.put d v|none=>a
def St.cd(a:St)(b:Nat)(x:Box):St:={ a with mem:=λi=>bif Nat.beq i b then aa x else a.mem i }
def St.bH{c:Type}(a:St)(b:Nat)(val:cw)(tid:TypeId)(buf:Bool)(k:Nat->St->Tree c):Tree c :=match a.mem b with|some bx=>bif bx.lk then .fail else k (bx.aY+1) (a.cd b { val,tid,buf,ro:=false,lk:=false,aY:=bx.aY+1 })|none=>k 0 (a.cd b { val,tid,buf,ro:=false,lk:=false,aY:=0 })
def du:List Nat->Nat->Bool|[],_=>false|i::r,t=>Nat.beq t i||du r t
def Ps:Value->cw|.int k n=>bif decide (k.min<=n)&&decide (n<=k.max) then .data (.int k) n else .undef|.bool b=>.data .bool b|.string s=>bif Nat.ble s.data.toList.length 4294967296 then .data .str s.data.toList else .undef|.pointer af=>.vM|.nilIface=>.vN|.slice af 0 0=>.qq|_=>.undef
def dm(a:St):Operand->cw|.tmp t=>a.bw t|.const v=>Ps v|.func f=>.fn f []|.global _=>.undef
def kj:Ty->Nat->Option Nat|.pair _ _,0=>aa 0|.pair a b,k+1=>(kj b k).map (a.size+·)|_,_=>af
def dX:cw->Nat|.data t _=>t.size|.mix a b=>dX a+dX b|.nl=>0|_=>1
def Aq:(t:Ty)->t.den->Nat->Option (Nat×cw)|.pair a _,x,0=>aa (0,.data a x.1)|.pair a b,x,k+1=>(match Aq b x.2 k with|some r=>aa (a.size+r.1,r.2)|none=>af)|_,_,_=>af
def xa:cw->Nat->Option (Nat×cw)|.data t x,k=>Aq t x k|.mix a _,0=>aa (0,a)|.mix a b,k+1=>(match xa b k with|some r=>aa (dX a+r.1,r.2)|none=>af)|_,_=>af
def toD(t:Ty):cw->Option t.den|.data u x=>Ty.to u t x|.qq=>(match t with|.slice _=>aa []|_=>af)|_=>af
def toS(t:Ty):cw->Option t.den|.data u x=>Ty.to u t x|_=>af
def VN:(t:Ty)->t.den->Nat->(cw->Tree cw)->Tree t.den|.pair a b,x,0,f=>((f<|.data a x.1).bind λv=>match toS a v with|some y=>.ret (y,x.2)|none=>.fail)|.pair a b,x,k+1,f=>(VN b x.2 k f).bind λy=>.ret (x.1,y)|_,_,_,_=>.fail
def Pu:cw->Nat->(cw->Tree cw)->Tree cw|.data t x,k,f=>(VN t x k f).bind λy=>.ret (.data t y)|.mix a b,0,f=>(f a).bind λv=>.ret (.mix v b)|.mix a b,k+1,f=>(Pu b k f).bind λv=>.ret (.mix a v)|_,_,_=>.fail
def nav:List Sel->cw->Tree cw|[],v=>.ret v|.gE k off::p,v=>(match xa v k with|some (o,u)=>bif Nat.beq o off then nav p u else .fail|none=>.fail)|.idx i size::p,v=>match v with|.data (.arr _ e) l=>bif Nat.beq size e.size then .look (idx (α:=e.den) l i) λx=>nav p (.data e x) else .fail|_=>.fail
def akY(a:Bool)(p:List Sel)(v:cw):Tree cw :=match a with|false=>nav p v|true=>match p,v with|.idx i size::p,.data (.slice e) l=>bif Nat.beq size e.size then .look (idx (α:=e.den) l i) λx=>nav p (.data e x) else .fail|_,_=>.fail
def Ca:List Sel->cw->cw->Tree cw|[],_,u=>.ret u|.gE k off::p,v,u=>Pu v k λw=>Ca p w u|.idx i size::p,v,u=>match v with|.data (.arr n e) l=>(.look (idx (α:=e.den) l i) λx=>(Ca p (.data e x) u).bind λw=>match toS e w with|some y=>.ret (.data (.arr n e)<|oo (α:=e.den) l i y)|none=>.fail)|_=>.fail
def VO(a:Bool)(p:List Sel)(v u:cw):Tree cw :=match a with|false=>Ca p v u|true=>match p,v with|.idx i size::p,.data (.slice e) l=>(.look (idx (α:=e.den) l i) λx=>(Ca p (.data e x) u).bind λw=>match toS e w with|some y=>.ret (.data (.slice e)<|oo (α:=e.den) l i y)|none=>.fail)|_,_=>.fail
namespace Tree
def run_bind{α g:Type}(t:Tree α)(f:α->Tree g):(t.bind f).run=t.run.bind λa=>(f a).run:=by induction t with|ret a=>rfl|fail=>rfl|node c t e b d=>cases c<;>simp[bind,run,b,d,ao]|look o k h=>cases o<;>simp[bind,run,h,ae]
def D9{T b:Type}(t:Tree T)(k:T->Tree b):(t.join k).run=t.run.bind λa=>(k a).run:=by
 unfold join;split
 .rfl
 {rename_i c x y;cases c<;>rfl};rfl
end Tree
def zz:Ty->Nat->Option Ty|.pair a _,0=>aa a|.pair _ b,k+1=>zz b k|_,_=>af
def Ty.flat:Ty->Bool|.slice _=>false|.arr _ e=>e.flat|.pair a b=>a.flat&&b.flat|.alt _ a r=>a.flat&&r.flat|_=>true
def Box.row(bx:Box):Option (Ty×Nat) :=match bx.buf,bx.val with|true,.data (.slice e) l=>aa (e,List.length (α:=e.den) l)|false,.data (.arr n e) _=>aa (e,n)|_,_=>af
def jx(e:Ty)(c:St):cw->Option (List e.den)|.data (.slice u) l=>toL u e l|.qq=>aa []|.whole b aY=>(match c.mem b with|some a=>bif Nat.beq a.aY aY&&a.buf then(match a.val with|.data (.slice u) l=>toL u e l|_=>af) else af|none=>af)|.part b aY lo n=>(match c.mem b with|some a=>bif Nat.beq a.aY aY then(match a.buf,a.val with|true,.data (.slice u) l=>toL u e (sub (α:=u.den) l lo n)|false,.data (.arr _ u) l=>toL u e (sub (α:=u.den) l lo n)|_,_=>af) else af|none=>af)|_=>af
def live(c:St)(b a:Nat):Bool:=match c.mem b with|some d=>Nat.beq d.aY a|none=>false
def uv(c:St):(t:Ty)->cw->Option t.den|.slice e,v=>(jx e c v:Option (List e.den))|.pair a b,v=>(match v with|.data u x=>Ty.to u (.pair a b) x|.mix p q=>(match uv c a p,uv c b q with|some x,aa y=>aa (x,y)|_,_=>af)|_=>af)|.alt n a r,v=>(match v with|.data u x=>Ty.to u (.alt n a r) x|.vN=>(match uv c r .vN with|some x=>aa (.inr x)|none=>af)|_=>af)|.DV,v=>(match v with|.data u x=>Ty.to u .DV x|.vN=>aa ()|_=>af)|t,v=>match v with|.data u x=>Ty.to u t x|_=>af
def freeze(a:St)(b:Nat):Option St :=match a.mem b with|some c=>bif c.ro then aa a else bif c.lk then af else aa (a.cd b { c with ro:=true })|none=>af
def jl(a:St):cw->Option St|.whole b _=>freeze a b|.part b _ _ _=>freeze a b|.mix v w=>(match jl a v with|some a=>jl a w|none=>af)|_=>aa a
def Ea(a:St)(t:Ty)(v:cw):Option (t.den×St) :=match v with|.data u x=>(match Ty.to u t x with|some y=>aa (y,a)|none=>af)|v=>match uv a t v,jl a v with|some x,aa a=>aa (x,a)|_,_=>af
def jm(σ:St):(A:Ty)->List cw->Option A.den|.unit,[]=>aa ()|.pair t r,v::vs=>(match uv σ t v,jm σ r vs with|some x,aa y=>aa (x,y)|_,_=>af)|_,_=>af
def l4(a:St):(A:Ty)->List cw->Option (A.den×St)|.unit,[]=>aa ((),a)|.pair t r,v::vs=>(match Ea a t v with|some (x,a)=>(match l4 a r vs with|some (y,a)=>aa ((x,y),a)|none=>af)|none=>af)|_,_=>af
def Eb:(R:Ty)->R.den->cw|.pair t r,x=>.mix (.data t x.1) (Eb r x.2)|_,_=>.nl
def yp(R:Ty)(x:R.den):cw :=match R,x with|.pair t .unit,x=>.data t x.1|R,x=>.D0 (Eb R x)
def nth:cw->Nat->Option cw|.mix a _,0=>aa a|.mix _ b,k+1=>nth b k|_,_=>af
def bitsOf(a:BinOp)(k:IntKind)(x y:Int):Option Int :=match a with|.and=>aa (gT k x y)|.or=>aa (B6 k x y)|.xor=>aa (gD k x y)|.andNot=>aa (aoN k x y)|_=>af
def Ty.eqv:(t:Ty)->t.den->t.den->Option Bool|.int _,x,y=>aa (aR x y)|.bool,x,y=>aa (eqB x y)|.str,x,y=>aa (bA x y)|.pair a b,x,y=>(match Ty.eqv a x.1 y.1,Ty.eqv b x.2 y.2 with|some p,aa q=>aa (an p q)|_,_=>af)|.unit,_,_=>aa true|.arr _ e,x,y=>(match e,x,y with|.int _,x,y=>aa (eqL x y)|_,_,_=>af)|_,_,_=>af
def Ty.Nf:Ty->Nat|.pair a b=>a.Nf+b.Nf+1|.arr _ e=>e.Nf+1|_=>1
def abp(d:BinOp)(k:IntKind)(a b:Int):Tree cw :=match d with|.add=>.ret (.data (.int k)<|aC k a b)|.sub=>.ret (.data (.int k)<|cR k a b)|.mul=>.ret (.data (.int k)<|jt k a b)|.quo=>.node (aR b 0) .fail (.ret<|.data (.int k)<|KB k a b)|.rem=>.node (aR b 0) .fail (.ret<|.data (.int k)<|fX a b)|.eql=>.ret (.data .bool<|aR a b)|.neq=>.ret (.data .bool<|nt<|aR a b)|.lss=>.ret (.data .bool<|ba a b)|.leq=>.ret (.data .bool<|cm a b)|.gtr=>.ret (.data .bool<|ba b a)|.geq=>.ret (.data .bool<|cm b a)|d=>match bitsOf d k a b with|some c=>.ret (.data (.int k) c)|none=>.fail
def abq(a:BinOp)(x y:bj):Tree cw :=match a with|.add=>.jw (fits<|plus (len x)<|len y) (.ret<|.data .str<|app x y)|.eql=>.ret (.data .bool<|bA x y)|.neq=>.ret (.data .bool<|nt<|bA x y)|.lss=>.ret (.data .bool<|dK x y)|.leq=>.ret (.data .bool<|oor (dK x y)<|bA x y)|.gtr=>.ret (.data .bool<|nt<|oor (dK x y)<|bA x y)|.geq=>.ret (.data .bool<|nt<|dK x y)|_=>.fail
def isEq:BinOp->Option Bool|.eql=>aa true|.neq=>aa false|_=>af
def IB:BinOp->Option Bool|.shl=>aa true|.shr=>aa false|_=>af
def KC(o:Option Ty)(t:Ty):Bool:=match o with|some u=>Ty.beq u t|none=>false
def bin(f:Option Ty)(g:Bool)(d:BinOp)(x y:cw):Tree cw :=match x,y with|.data (.int k) a,.data (.int h) b =>(match IB d with|some left=>.node (ba b 0) .fail (.ret<|.data (.int k)<|bif left then om k a b else jv k a b)|none=>bif Nat.beq (Dr k) (Dr h) then abp d k a b else .fail)|.data .str a,.data .str b=>abq d a b|.data .bool a,.data .bool b=>bif KC f .bool then(match isEq d with|some true=>.ret (.data .bool<|eqB a b)|some false=>.ret (.data .bool<|nt<|eqB a b)|none=>.fail) else .fail|.data (.pair a b) x,.data t y=>bif KC f (.pair a b)&&Nat.ble (Ty.pair a b).Nf 9000 then(match Ty.to t (.pair a b) y,isEq d with|some y,aa e=>(match Ty.eqv (.pair a b) x y with|some c=>.ret (.data .bool<|bif e then c else nt c)|none=>.fail)|_,_=>.fail) else .fail|.data (.arr n e) x,.data t y=>bif KC f (.arr n e)&&Nat.ble (Ty.arr n e).Nf 9000 then(match Ty.to t (.arr n e) y,isEq d with|some y,aa q=>(match Ty.eqv (.arr n e) x y with|some c=>.ret (.data .bool<|bif q then c else nt c)|none=>.fail)|_,_=>.fail) else .fail|.vM,.vM=>(match g,isEq d with|true,aa e=>.ret (.data .bool e)|_,_=>.fail)|_,_=>.fail
def ah7(d:St)(f:Option Ty)(a:Bool)(c:BinOp)(x y:cw):Tree cw :=match x,y with|.ptr b aY _,.vM=>bif live d b aY&&a then(match isEq c with|some e=>.ret (.data .bool<|!e)|none=>.fail) else .fail|.vM,.ptr b aY _=>bif live d b aY&&a then(match isEq c with|some e=>.ret (.data .bool<|!e)|none=>.fail) else .fail|x,y=>bin f a c x y
def VP(c:Bool)(x y:cw):Tree cw :=match x,y with|.data (.int k) a,.data (.int d) b=>bif Nat.beq (Dr k) (Dr d) then .ret (.data (.int k)<|bif c then ann a b else imax a b) else .fail|_,_=>.fail
def un(a:UnOp)(x:cw):Tree cw :=match a,x with|.not,.data .bool b=>.ret (.data .bool<|nt b)|.neg,.data (.int k) n=>.ret (.data (.int k)<|cR k 0 n)|.xor,.data (.int k) n=>.ret (.data (.int k)<|gD k (bif k.signed then -1 else k.max) n)|_,_=>.fail
def Pv:(t:Ty)->t.den->Nat->(u:Ty)->u.den->Option t.den|.pair a b,x,0,u,y=>(match Ty.to u a y with|some y=>aa (y,x.2)|none=>af)|.pair a b,x,k+1,u,y=>(match Pv b x.2 k u y with|some z=>aa (x.1,z)|none=>af)|_,_,_,_,_=>af
def gU(a:St)(t:Ty)(x:t.den):List (Nat×Operand)->Option (t.den×St)|[]=>aa (x,a)|(k,o)::r=>match zz t k with|some u=>(match Ea a u (dm a o) with|some (y,a)=>(match Pv t x k u y with|some x=>gU a t x r|none=>af)|none=>af)|none=>af
def fJ(a:St)(e:Ty)(l:List e.den):List (Nat×Operand)->Option (List e.den×St)|[]=>aa (l,a)|(k,o)::r=>match Ea a e (dm a o) with|some (y,a)=>bif Nat.blt k l.length then fJ a e (l.set k y) r else af|none=>af
def lenOf(c:St):cw->Option Int|.data .str s=>aa (len (α:=UInt8) s)|.data (.slice e) l=>aa (len (α:=e.den) l)|.data (.arr n _) _=>bif Nat.ble n 4294967296 then aa n else af|.qq=>aa 0|.whole b aY=>(match c.mem b with|some a=>bif Nat.beq a.aY aY&&a.buf then(match a.val with|.data (.slice u) l=>aa (len (α:=u.den) l)|_=>af) else af|none=>af)|.part b aY _ n=>bif live c b aY then aa n else af|_=>af
def ad1(o:Option Ty):cw->Bool|.data .str _=>KC o .str|.data (.slice e) _=>KC o (.slice e)|.data (.arr n e) _=>KC o (.arr n e)|.qq|.whole ..|.part ..=>(match o with|some (.slice _)=>true|_=>false)|_=>false
def bounds(c:St)(n:Int)(d e:Option Operand):Option (Int×Int) :=match d,e with|none,af=>aa (0,n)|some a,af=>(match dm c a with|.data (.int _) x=>aa (x,n)|_=>af)|none,aa b=>(match dm c b with|.data (.int _) y=>aa (0,y)|_=>af)|some a,aa b=>match dm c a,dm c b with|.data (.int _) x,.data (.int _) y=>aa (x,y)|_,_=>af
def isRef:cw->Bool|.ptr ..|.whole ..|.part ..|.fn ..|.vM|.vN|.zy ..|.mix ..|.cell ..|.qq=>true|_=>false
section
variable (cx:Ctx) (nb:Nat) (bf:List Nat) (inl:Nat->List cw->St->Tree (cw×St))
def kk(d:Option Nat)(c:TypeId)(v:cw)(a:St):Tree St :=match v with|.undef=>bif du cx.sL c then .ret (a.bF d .undef) else .fail|.qq=>(match d,find cx.T c with|some d,aa (.slice e)=>bif du bf d then a.bH (nb+d) (.data (.slice e) []) 0 true λb a=>.ret (a.put d<|.whole (nb+d) b) else .ret (a.put d<|.data (.slice e) [])|_,_=>.ret (a.bF d .qq))|v=>.ret (a.bF d v)
def qs(d:Option Nat)(c a b:cw)(e:St):Tree St :=match c with|.data .bool c=>(match a,b with|.data t x,.data u y=>(match Ty.to u t y with|some y=>.ret (e.bF d<|.data t<|ao c x y)|none=>.fail)|a,b=>.node c (.ret<|e.bF d a) (.ret<|e.bF d b))|_=>.fail
def ah8:(t:Ty)->t.den->cw|.pair a b,x=>.mix (.data a x.1) (ah8 b x.2)|t,x=>.data t x
def ah9:cw->cw|.data t x=>ah8 t x|v=>v
def aia:Ty->cw->Bool|.slice _,.whole ..=>true|t,.data u _=>Ty.beq u t|_,_=>false
def ad2:Ty->cw->Bool|.pair a b,.mix p q=>aia a p&&ad2 b q|t,.data u _=>Ty.beq u t|_,_=>false
def aib(u:Ty):cw->Bool|.whole b aY=>aia u (.whole b aY)|.mix p q=>ad2 u (.mix p q)|_=>false
def aic:cw->Bool|.data (.pair _ _) _=>true|.mix ..=>true|_=>false
def FB(a:TypeId):cw->Bool|.mix p q=>(match find cx.T a with|some u=>ad2 u (.mix p q)|none=>false)|_=>false
def Cb(a:TypeId):cw->Bool|.data u _=>KC (find cx.T a) u|.whole ..=>(match find cx.T a with|some (.slice _)=>true|_=>false)|.ptr ..|.vM|.fn ..=>du cx.sL a|_=>false
def mF(d:Option Nat)(c:TypeId)(a:cw)(e:St):Tree St :=match a with|.cell u x=>bif KC (find cx.T c) u then .ret (e.bF d<|.data u x) else .fail|.ptr b aY p=>(match e.mem b with|some f=>bif Nat.beq f.aY aY then(akY f.buf p f.val).bind λv=>bif Cb cx c v||FB cx c v then .ret (e.bF d v) else .fail else .fail|none=>.fail)|_=>.fail
def storeAt(b d:Nat)(p:List Sel)(e:cw->Bool)(v:cw)(g:St):Tree St :=match g.mem b with|some a=>bif Nat.beq a.aY d&&!a.lk&&!a.ro then  (akY a.buf p a.val).bind λf=>bif e f then(VO a.buf p a.val v).bind λc=>.ret (g.cd b { a with val:=c }) else .fail else .fail|none=>.fail
def u6(b a:Nat)(p:List Sel)(n:Nat)(v:cw)(e:St):Tree St :=match e.mem b with|some bx=>bif Nat.beq bx.aY a&&!bx.lk&&!bx.ro&&!bx.buf&&aic bx.val then  (nav p<|ah9 bx.val).bind λd=>bif Nat.beq (dX d) n then(Ca p (ah9 bx.val) v).bind λc=>bif aic c then .ret (e.cd b { bx with val:=c }) else .fail else .fail else .fail|none=>.fail
def anp(u:Ty):cw->Bool|.data t _=>Ty.beq t u|_=>false
def ad3:cw->Bool|.undef=>true|_=>false
def mY(e:TypeId)(a v:cw)(d:St):Tree St :=
 match a with
 | .ptr b aY p=>match d.mem b with
   | some f=>bif Nat.beq f.aY aY then(akY f.buf p f.val).bind λc=>match c with
      | .data u _=>bif KC (find cx.T e) u then(bif du bf 8000000&&aib u v then u6 b aY p u.size v d else match Ea d u v with|some (y,d)=>storeAt b aY p (anp u) (.data u y) d|none=>.fail) else .fail
      | _=>bif Cb cx e v&&isRef v then storeAt b aY p (λc=>(Cb cx e c&&isRef c)||ad3 c) v d else .fail
     else .fail
   | none=>.fail
 | _=>.fail
def mZ(d:Option Nat)(i:TypeId)(x:cw)(lo h:Option Operand)(f:St):Tree St :=match find cx.T i,x with|some .str,.data .str s=>(match bounds f (len (α:=UInt8) s) lo h with|some (a,b)=>.jw (inside a b<|len (α:=UInt8) s) (.ret<|f.bF d<|.data .str<|sub (α:=UInt8) s a<|minus b a)|none=>.fail)|some (.slice u),.data (.slice e) l=>bif Ty.beq u e then(match bounds f (len (α:=e.den) l) lo h with|some (a,b)=>.jw (inside a b<|len (α:=e.den) l) (.ret<|f.bF d<|.data (.slice e)<|sub (α:=e.den) l a<|minus b a)|none=>.fail) else .fail|some (.slice u),.part c aY l n=>(match f.mem c with|some g=>bif Nat.beq g.aY aY&&(match g.row with|some (e,_)=>Ty.beq u e|none=>false) then(match bounds f n lo h with|some (a,b)=>.jw (inside a b n) (.ret<|f.bF d<|.part c aY (plus l a)<|minus b a)|none=>.fail) else .fail|none=>.fail)|some (.slice u),.whole c aY=>(match f.mem c with|some g=>bif Nat.beq g.aY aY&&g.buf then(match g.val with|.data (.slice e) l=>bif Ty.beq u e then(match lo,h with|none,af=>.ret (f.bF d<|.whole c aY)|lo,h=>match bounds f (len (α:=e.den) l) lo h with|some (a,b)=>.jw (inside a b<|len (α:=e.den) l) (.ret<|f.bF d<|.part c aY a<|minus b a)|none=>.fail) else .fail|_=>.fail) else .fail|none=>.fail)|some (.arr m u),.ptr c aY (s::q)=>bif live f c aY&&Nat.ble m 4294967296 then(match bounds f m lo h with|some (a,b)=>.jw (inside a b m) (.ret<|f.bF d<|.win c aY (s::q) u m a<|minus b a)|none=>.fail) else .fail|some (.arr m u),.ptr c aY []=>(match f.mem c with|some g=>bif Nat.beq g.aY aY&&!g.buf then(match g.val with|.data (.arr n e) _=>bif Nat.beq m n&&Ty.beq u e&&Nat.ble n 4294967296 then(match bounds f n lo h with|some (a,b)=>.jw (inside a b n) (.ret<|f.bF d<|.part c aY a<|minus b a)|none=>.fail) else .fail|_=>.fail) else .fail|none=>.fail)|_,_=>.fail
def Cc(d:St)(b a:Nat):Option (Ty×Int):=match d.mem b with|some c=>bif Nat.beq c.aY a then(match c.buf,c.val with|true,.data (.slice e) l=>aa (e,len (α:=e.den) l)|false,.data (.arr n e) _=>aa (e,n)|_,_=>af) else af|none=>af
def Uv(a:TypeId):Option Nat :=match find cx.T a with|some _=>af|none=>match find cx.Yp a with|some e=>bif du cx.sL e then aa e else af|none=>af
def Pw(d:Option Nat)(b a:Nat)(c:St)(i:Int):Nat->Nat->Tree St|0,_=>.fail|m+1,k=>.node (aR i k) (.ret<|c.bF d<|.ptr b a [.gE k k]) (Pw d b a c i m<|k+1)
def Oo:List Sel->Bool|[.gE _ off]=>Nat.beq off 0|_=>false
def eL(d:Option Nat)(c:TypeId)(x:cw)(i:Int)(a:St):Tree St :=match find cx.T c,x with|some (.slice u),.data (.slice e) l=>bif Ty.beq u e then .look (idx (l:List e.den) i) λy=>.ret (a.bF d<|.cell e y) else .fail|some (.arr m u),.cell (.arr n e) l=>bif Ty.beq u e&&Nat.beq m n then .look (idx (l:List e.den) i) λy=>.ret (a.bF d<|.cell e y) else .fail|some (.slice u),.whole b aY=>(match Cc a b aY with|some (e,n)=>bif Ty.beq u e then .jw (within i n) (.ret<|a.bF d<|.ptr b aY [.idx i e.size]) else .fail|none=>.fail)|some (.slice u),.part b aY lo n=>(match Cc a b aY with|some (e,_)=>bif Ty.beq u e then .jw (within i n) (.ret<|a.bF d<|.ptr b aY [.idx (plus lo i) e.size]) else .fail|none=>.fail)|some (.arr m u),.ptr b aY p=>bif live a b aY then .jw (within i m) (.ret<|a.bF d<|.ptr b aY<|p++[.idx i u.size]) else .fail|none,.win b aY q _ _ lo n=>(match Uv cx c with|some _=>bif Oo q&&decide (lo=0)&&live a b aY then Pw d b aY a i n.toNat 0 else .fail|none=>.fail)|_,_=>.fail
def na(d:Option Nat)(c:TypeId)(x:cw)(i:Int)(a:St):Tree St :=match x,Uv cx c with|.win b aY q _ _ lo n,aa _=>bif Oo q&&decide (lo=0)&&live a b aY then(match i with|.ofNat k=>bif decide ((k:Int)<n) then .ret (a.bF d<|.ptr b aY [.gE k k]) else .fail|.negSucc _=>.fail) else .fail|x,_=>eL cx d c x i a
def nc(d:Option Nat)(c:TypeId)(x:cw)(i:Int)(a:St):Tree St :=match find cx.T c,x with|some .str,.data .str s=>.look (idx (s:bj) i) λb=>.ret (a.bF d<|.data (.int .u8)<|u8 b)|some (.arr m u),.data (.arr n e) l=>bif Ty.beq u e&&Nat.beq m n then .look (idx (l:List e.den) i) λy=>.ret (a.bF d<|.data e y) else .fail|_,_=>.fail
def Gr.size:Gr->Nat|.dat t=>t.size|_=>1
def Cd:List Gr->Nat->Option Nat|[],_=>af|_::_,0=>aa 0|f::r,k+1=>match Cd r k with|some o=>aa (f.size+o)|none=>af
def fl(d:Option Nat)(s:TypeId)(x:cw)(k:Nat)(a:St):Tree St :=match x with|.cell u y=>bif KC (find cx.T s) u then(match xa (.data u y) k with|some (_,.data t z)=>.ret (a.bF d<|.cell t z)|_=>.fail) else .fail|.ptr b aY p=>bif live a b aY then(match find cx.T s with|some t=>(match kj t k,zz t k with|some off,aa _=>.ret (a.bF d<|.ptr b aY<|p++[.gE k off])|_,_=>.fail)|none=>match find cx.uu s with|some c=>(match Cd c k with|some off=>.ret (a.bF d<|.ptr b aY<|p++[.gE k off])|none=>.fail)|none=>.fail) else .fail|_=>.fail
def iz(d:Option Nat)(b c:TypeId)(x:cw)(a:St):Tree St :=match find cx.T b,find cx.T c,x with|some (.int _),aa (.int k),.data (.int _) n=>.ret (a.bF d<|.data (.int k)<|kg k n)|some .str,aa .str,.data .str s=>.ret (a.bF d<|.data .str s)|some .str,aa (.slice<|.int .u8),.data .str s=>(match d with|some d=>.jw (fits<|len (α:=UInt8) s) (a.bH (nb+d) (.data (.slice<|.int .u8)<|aB s) 0 true λe a=>.ret (a.put d<|.whole (nb+d) e))|none=>.fail)|some (.slice<|.int .u8),aa .str,x=>(match jx (.int .u8) a x with|some l=>.ret (a.bF d<|.data .str<|br l)|none=>.fail)|_,_,_=>.fail
def Ar(e:Ty)(a:St)(x:cw):Option (List e.den):=match x with|.data .str t=>toL (.int .u8) e (aB t)|x=>jx e a x
def anq(a t:Nat):Bool:=Nat.beq t 0||(match find cx.Yp a with|some e=>Nat.beq e t|none=>false)
def iP(d:Option Nat)(f:TypeId)(s x:cw)(a:St):Tree St :=match d,find cx.T f with|some d,aa (.slice e) =>(match Ar e a x with|some m=>(match s with|.qq=>.jw (fits<|len (α:=e.den) m) (a.bH (nb+d) (.data (.slice e) m) 0 true λaY a=>.ret (a.put d<|.whole (nb+d) aY))|.whole b aY=>(match a.mem b,jx e a (.whole b aY) with|some c,aa l=>bif c.lk||!anq cx f c.tid then .fail else .jw (fits<|plus (len (α:=e.den) l)<|len (α:=e.den) m) (.ret<|(a.cd b { c with val:=.data (.slice e) (app (α:=e.den) l m),aY:=aY+1 }).put d<|.whole b<|aY+1)|_,_=>.fail)|_=>.fail)|none=>.fail)|_,_=>.fail
def kZ(e:Ty)(m:List e.den)(b d:Nat)(q:List Sel)(f:Nat->Ty->Bool)(i:Int)(g:St):Tree St :=
 match g.mem b with
 | some a=>bif Nat.beq a.aY d&&!a.lk&&!a.ro then
    (match a.buf with|true=>(match q,a.val with|[],.data (.slice u) l=>(match toL e u m with|some m=>.ret (g.cd b { a with val:=.data (.slice u) (over (α:=u.den) l i m) })|none=>.fail)|_,_=>.fail)|false=>(nav q a.val).bind λh=>match h with|.data (.arr k u) l=>bif f k u then(match toL e u m with|some m=>(Ca q a.val<|.data (.arr k u)<|over (α:=u.den) l i m).bind λc=>.ret (g.cd b { a with val:=c })|none=>.fail) else .fail|_=>.fail)
   else .fail
 | none=>.fail
def KD(e:Ty)(m:Int->List e.den)(t:cw)(a:St):Tree (Int×St) :=match t with|.part b aY lo n=>(kZ e (m n) b aY [] (λ_ _=>true) lo a).bind λa=>.ret (n,a)|.whole b aY=>(match lenOf a t with|some n=>(kZ e (m n) b aY [] (λ_ _=>true) 0 a).bind λa=>.ret (n,a)|none=>.fail)|.win b aY q u k lo n=>(kZ e (m n) b aY q (λc d=>Nat.beq k c&&Ty.beq u d) lo a).bind λa=>.ret (n,a)|_=>.fail
def Bg(d:Option Nat)(b:TypeId)(t x:cw)(a:St):Tree St :=match find cx.T b with|some (.slice e)=>(match Ar e a x with|none=>.fail|some m=>(KD e (λn=>kD (α:=e.den) m n) t a).bind λr=>.ret (r.2.bF d<|.data (.int .i64)<|len<|kD (α:=e.den) m r.1))|_=>.fail
def Bh(a:TypeId)(t:cw)(b:St):Tree St :=match find cx.T a with|some (.slice e)=>(KD e (λn=>oq n e.zero) t b).bind λr=>.ret r.2|_=>.fail
def sS:(U:Ty)->U.den->List Nat->Nat->Option cw|.pair t U,u,ns,c=>(match ns with|b::ns=>bif Nat.beq c b then aa (.data t u.1) else sS U u.2 ns c|[]=>af)|_,_,_,_=>af
def Ce(U:Ty)(u:U.den)(b:List Nat)(a:St):St :={ a with mem:=λc=>match sS U u b c with|some v=>(match a.mem c with|some d=>aa { d with val:=v }|none=>af)|none=>a.mem c }
def u7(c:St):List Bool->(A U:Ty)->List cw->Option (A.den×U.den×List Nat)|[],A,U,vs=>(match A,U,vs with|.unit,.unit,[]=>aa ((),(),[])|_,_,_=>af)|false::ps,A,U,vs=>(match A,vs with|.pair t A,v::vs=>(match toD t v,u7 c ps A U vs with|some x,aa (y,u,ns)=>aa ((x,y),u,ns)|_,_=>af)|_,_=>af)|true::ps,A,U,vs=>match U,vs with|.pair t U,.ptr b aY []::vs=>(match c.mem b with|some a=>bif Nat.beq a.aY aY&&!a.buf&&!a.lk&&!a.ro&&Nat.beq a.tid 0 then(match toS t a.val,u7 c ps A U vs with|some x,aa (y,u,ns)=>bif du ns b then af else aa (y,(x,u),b::ns)|_,_=>af) else af|none=>af)|_,_=>af
def Oq:cw->Bool|.whole ..=>true|_=>false
def FC(s:Spc)(d:Option Nat)(c:List cw)(e:St):Tree St :=match s,c with|.chk T,[.ptr b aY []]=>(match e.mem b with|some a=>(match a.val with|.mix (.zy f g) (.mix u<|.data .unit _)=>bif Nat.beq a.aY aY&&!a.buf&&!a.lk&&!a.ro&&Nat.beq a.tid T&&Nat.blt 0 T&&Nat.beq f b&&Nat.beq g aY&&Oq u then .ret (e.bF d<|.D0 .nl) else .fail|_=>.fail)|none=>.fail)|.str T E,[.ptr b aY []]=>(match e.mem b with|some a=>(match a.val with|.mix (.zy _ _) (.mix (.whole h hv)<|.data .unit _)=>bif Nat.beq a.aY aY&&!a.buf&&Nat.beq a.tid T&&Nat.blt 0 T&&!Nat.beq h b then(match e.mem h with|some hx=>bif Nat.beq hx.aY hv&&hx.buf&&!hx.lk&&Nat.beq hx.tid E&&Nat.blt 0 E then(match hx.val with|.data (.slice<|.int .u8) l=>.ret ((e.cd h { hx with val:=.data (.slice<|.int .u8) [],aY:=hx.aY+1 }).bF d<|.data .str<|br l)|_=>.fail) else .fail|none=>.fail) else .fail|_=>.fail)|none=>.fail)|_,_=>.fail
def ownRow(d:Option Nat):Option Nat:=match d with|some d=>bif du bf (4000000+d) then aa d else af|none=>af
def Yr(d:Option Nat):Option Nat:=match d with|some d=>bif du bf d then aa d else af|none=>af
def nd(e:Ty)(d:Option Nat)(a:List cw)(b:St):Tree St :=match d,a with|some d,[x]=>(match Ea b (.slice e) x with|some (l,b)=>bif Nat.blt 0 e.size then .jw (fits<|len (α:=e.den) l) (b.bH (nb+d) (.data (.slice e) l) 0 true λc b=>.ret (b.put d<|.whole (nb+d) c)) else .fail|none=>.fail)|_,_=>.fail
def Cf(e:Ty)(c:St):cw->Option (Nat×Nat×Box×List e.den)|.whole b aY=>(match c.mem b with|some a=>bif Nat.beq a.aY aY&&a.buf&&!a.lk&&!a.ro&&Nat.beq a.tid 0 then(match a.val with|.data (.slice u) l=>(match toL u e l with|some l=>aa (b,aY,a,l)|none=>af)|_=>af) else af|none=>af)|.part b aY lo n=>(match c.mem b with|some a=>bif Nat.beq a.aY aY&&a.buf&&!a.lk&&!a.ro&&Nat.beq a.tid 0&&decide (lo=0) then(match a.val with|.data (.slice u) l=>(match toL u e l with|some l=>aa (b,aY,a,sub (α:=e.den) l lo n)|none=>af)|_=>af) else af|none=>af)|_=>af
def u9(e A:Ty)(g:Bool)(a:List e.den->A.den->Option (List e.den))(d:Option Nat)(c:List cw)(f:St):Tree St :=match c with|v::vs=>(match l4 f A vs with|some (x,f)=>(match Cf e f v with|some (b,aY,h,l)=>(.look (a l x) λi=>match g,d with|true,aa d=>.ret ((f.cd b { h with val:=.data (.slice e) i,aY:=aY+1 }).put d<|.whole b<|aY+1)|false,d=>bif Oq v then .ret ((f.cd b { h with val:=.data (.slice e) i }).bF d<|.D0 .nl) else .fail|_,_=>.fail)|none=>.fail)|none=>.fail)|[]=>.fail
def As(d:Option Nat)(f:Nat):Option Spc :=match find cx.XY f with|some (.clone e)=>(match Yr bf d with|some _=>aa (.clone e)|none=>af)|some (.own e A r s)=>aa (.own e A r s)|_=>af
def Au(d:Option Nat)(f:Nat)(a:List cw)(b:St):Tree St :=match find cx.con f with|some c=>(match c.R.flat with|true=>(match jm b c.A a with|some x=>.look (c.spec x) λy=>.ret (b.bF d<|yp c.R y)|none=>.fail)|false=>match l4 b c.A a with|some (x,b)=>.look (c.spec x) λy=>.ret (b.bF d<|yp c.R y)|none=>.fail)|none=>match find cx.XY f with|some s=>FC s d a b|none=>match find cx.ah6 f with|some c=>(match u7 b c.ps c.A c.U a with|some (x,u,ns)=>.look (c.spec (x,u)) λy=>.ret ((Ce c.U y.2 ns b).bF d<|yp c.R y.1)|none=>(inl f a b).bind λr=>.ret (r.2.bF d r.1))|none=>(inl f a b).bind λr=>.ret (r.2.bF d r.1)
def xz(d:Option Nat)(f:Nat)(a:List cw)(b:St):Tree St :=match As cx bf d f with|some (.clone e)=>nd nb e d a b|some (.own e A r s)=>u9 e A r s d a b|_=>Au cx inl d f a b
def Ys:(t:Ty)->(u:Nat)->Option ((a:Ty)×(a.den->t.den))|.alt n a r,u=>(bif Nat.beq n u then aa ⟨a,.inl⟩ else match Ys r u with|some ⟨b,f⟩=>aa ⟨b,λx=>.inr (f x)⟩|none=>af)|_,_=>af
def uJ(d:Option Nat)(c u:TypeId)(x:cw)(b:St):Tree St :=match find cx.T c with|some t=>(match Ys t u with|some ⟨a,f⟩=>(match Ea b a x with|some (y,b)=>.ret (b.bF d<|.data t<|f y)|none=>.fail)|none=>.fail)|none=>.fail
def uK(d:Option Nat)(a:String)(b:List cw)(e:St):Tree St :=match Yq cx.inv a with|some c=>(match l4 e c.A b with|some (x,e)=>.look (c.spec x) λy=>.ret (e.bF d<|yp c.R y)|none=>.fail)|none=>.fail
def yq(d:Option Nat)(h:TypeId)(c:Call)(a:St):Tree St :=
 match c.callee with
 | .builtin b=>match b,c.args.toList.map (dm a),c.argTypes.toList with
   | .len,[x],[t]=>bif ad1 (find cx.T t) x then(match lenOf a x with
     | some n=>.ret (a.bF d<|.data (.int .i64) n)
     | none=>.fail) else(match Uv cx t,x with
     | some _,.win b aY _ _ _ _ n=>bif live a b aY&&decide (n<=64) then .ret (a.bF d<|.data (.int .i64) n) else .fail
     | _,_=>.fail)
   | .append,[s,x],[t,u]=>match find cx.T u with|some .str|some (.slice _)=>iP cx nb d t s x a|_=>.fail
   | .copy,[t,x],[g,tx]=>match find cx.T tx with
     | some .str|some (.slice _)=>Bg cx d g t x a
     | _=>.fail
   | .clear,[t],[g]=>match d with|none=>Bh cx g t a|some _=>.fail
   | .min,[x,y],_=>VP true x y |>.bind λv=>.ret (a.bF d v)
   | .max,[x,y],_=>VP false x y |>.bind λv=>.ret (a.bF d v)
   | _,_,_=>.fail
 | .value f=>match dm a f with
   | .fn f e=>bif e.all (λb=>live a b.1 b.2) then xz cx nb bf inl d f (c.args.toList.map (dm a)++e.map λb=>.ptr b.1 b.2 []) a else .fail
   | _=>.fail
 | .invoke r name=>uK cx d name (dm a r::c.args.toList.map (dm a)) a
def KE:List cw->Option (List<|Nat×Nat)|[]=>aa []|.ptr b aY []::r=>(KE r).map ((b,aY)::·)|_=>af
def Ot(a:St)(b:Nat):Nat:=match a.mem b with|some bx=>bx.aY+1|none=>0
def mkObj(b a:Nat):List Gr->Nat->St->Tree (cw×St)|[],_,σ=>.ret (.data .unit (),σ)|.dat t::r,j,σ=>(mkObj b a r (j+1) σ).bind λx=>.ret (.mix (.data t t.zero) x.1,x.2)|.one::r,j,σ=>(mkObj b a r (j+1) σ).bind λx=>.ret (.mix .vM x.1,x.2)|.self::r,j,σ=>(mkObj b a r (j+1) σ).bind λx=>.ret (.mix (.zy b a) x.1,x.2)|.buf e c::r,j,σ=>bif Nat.blt 0 e.size then σ.bH (b*1000+999-j) (.data (.slice e) []) c true λv σ=>(mkObj b a r (j+1) σ).bind λx=>.ret (.mix (.whole (b*1000+999-j) v) x.1,x.2) else .fail
def va:List Gr->Option cw|[]=>aa (.data .unit ())|.dat t::r=>(match va r with|some v=>aa (.mix (.data t t.zero) v)|none=>af)|.buf _ _::r=>(match va r with|some v=>aa (.mix .qq v)|none=>af)|.one::r=>(match va r with|some v=>aa (.mix .vM v)|none=>af)|.self::_=>af
def sT(b:St)(a:List Gr):cw->List (Nat×Operand)->Option cw|v,[]=>aa v|v,(k,x)::r=>match xa v k,Cd a k,a[k]? with|some (o,.data t _),aa c,aa f=>bif Nat.beq o c&&Nat.beq t.size f.size then(match toS t (dm b x) with|some y=>(match(Pu v k λ_=>.ret (.data t y)).run with|some v=>sT b a v r|none=>af)|none=>af) else af|_,_,_=>af
def sU(b:Nat):List Gr->Nat->cw->St->Tree (cw×St)|[],_,.data .unit x,σ=>.ret (.data .unit x,σ)|.dat _::r,j,.mix (.data u y) v,σ=>(sU b r (j+1) v σ).bind λx=>.ret (.mix (.data u y) x.1,x.2)|.one::r,j,.mix .vM v,σ=>(sU b r (j+1) v σ).bind λx=>.ret (.mix .vM x.1,x.2)|.buf e a::r,j,.mix .qq v,σ=>bif Nat.blt 0 e.size then σ.bH (b*1000+999-j) (.data (.slice e) []) a true λc σ=>(sU b r (j+1) v σ).bind λx=>.ret (.mix (.whole (b*1000+999-j) c) x.1,x.2) else .fail|_,_,_,_=>.fail
def Ec(a:St):Nat->List (Nat×Operand)->Option cw|_,[]=>aa (.data .unit ())|k,(j,x)::r=>bif Nat.beq j k then(match dm a x,Ec a (k+1) r with|.vM,aa v=>aa (.mix .vM v)|.ptr b aY p,aa v=>aa (.mix (.ptr b aY p) v)|.fn f c,aa v=>aa (.mix (.fn f c) v)|_,_=>af) else af
def FD(d:Option Nat)(t:TypeId)(a:Nat)(b:List (Nat×Operand))(c:St):Tree St :=match d,Uv cx t,Ec c 0 b with|some d,aa _,aa v=>bif Nat.beq a b.length&&Nat.blt 0 a&&Nat.ble a 64 then c.bH (nb+d) v 0 false λe c=>.ret (c.put d<|.win (nb+d) e [.gE 0 0] .bool a 0 a) else .fail|_,_,_=>.fail
def IC(d:Option Nat)(a:TypeId)(x:cw)(c:St):Tree St :=match d,x with|some _,.undef=>.fail|some _,.D0 _=>.fail|some d,v=>(match find cx.uu a with|some e=>(sU (nb+d) e 0 v c).bind λr=>r.2.bH (nb+d) r.1 a false λb c=>.ret (c.put d<|.ptr (nb+d) b [])|none=>c.bH (nb+d) v 0 false λb c=>.ret (c.put d<|.ptr (nb+d) b []))|none,_=>.fail
def yf(d:Nat)(t:Ty)(a:St):Tree St :=match Yr bf (aa d),t with|some _,.slice e=>bif Nat.blt 0 e.size then a.bH ((nb+d)*1000+999) (.data (.slice e) []) 0 true λv a =>a.bH (nb+d) (.whole ((nb+d)*1000+999) v) 0 false λb a=>.ret (a.put d<|.ptr (nb+d) b []) else .fail|_,t=>a.bH (nb+d) (.data t t.zero) 0 false λb a=>.ret (a.put d<|.ptr (nb+d) b [])
def sV(o:Oper)(g:St):Tree St :=
 match o.op with
 | .move x|.assign x=>kk cx nb bf o.dst o.type (dm g x) g
 | .pick c a b=>qs o.dst (dm g c) (dm g a) (dm g b) g
 | .alloc elem=>match o.dst,find cx.T elem with|some d,aa t=>yf nb bf d t g|some d,af=>(match find cx.uu elem with|some m=>(mkObj (nb+d) (Ot g<|nb+d) m 0 g).bind λr=>r.2.bH (nb+d) r.1 elem false λh g=>.ret (g.put d<|.ptr (nb+d) h [])|none=>bif du cx.sL elem then g.bH (nb+d) .undef 0 false λh g=>.ret (g.put d<|.ptr (nb+d) h []) else .fail)|_,_=>.fail
 | .box elem x=>IC cx nb o.dst elem (dm g x) g
 | .build t parts=>match find cx.T t with|some (.pair a b)=>(match gU g (.pair a b) (Ty.pair a b).zero parts.toList with|some (x,g)=>.ret (g.bF o.dst<|.data (.pair a b) x)|none=>.fail)|some (.arr n e)=>(match fJ g e (List.replicate n e.zero) parts.toList with|some (l,g)=>.ret (g.bF o.dst<|.data (.arr n e) l)|none=>.fail)|none=>(match find cx.uu t with|some m=>(match va m with|some z=>(match sT g m z parts.toList with|some (.mix p q)=>.ret (g.bF o.dst<|.mix p q)|some (.data .unit _)=>.ret (g.bF o.dst<|.data .unit ())|_=>.fail)|none=>.fail)|none=>.fail)|_=>.fail
 | .buildSlice t len parts=>match find cx.T t with
   | some (.slice e)=>match Yr bf o.dst,len,parts.toList with
     | some d,0,[]=>g.bH (nb+d) (.data (.slice e) []) 0 true λh g=>.ret (g.put d<|.whole (nb+d) h)
     | _,_,_=>bif Nat.ble (len*e.size) 65536 then(match fJ g e (List.replicate len e.zero) parts.toList with
     | some (l,g)=>(match ownRow bf o.dst with
       | some d=>g.bH (nb+d) (.data (.slice e) l) 0 true λh g=>.ret (g.put d<|.whole (nb+d) h)
       | none=>.ret (g.bF o.dst<|.data (.slice e) l))
     | none=>.fail) else .fail
   | none=>FD cx nb o.dst t len parts.toList g
   | _=>.fail
 | .load t a=>mF cx o.dst t (dm g a) g
 | .store t a x=>match o.dst with|none=>mY cx bf t (dm g a) (dm g x) g|some _=>.fail
 | .nilCheck x=>match dm g x with
   | .ptr b h p=>bif live g b h then .ret (g.bF o.dst<|.ptr b h p) else .fail
   | .cell t x=>.ret (g.bF o.dst<|.cell t x)
   | .fn f c=>.ret (g.bF o.dst<|.fn f c)
   | _=>.fail
 | .binOp op A x y _=>(ah7 g (find cx.T A) (du cx.Bf A) op (dm g x)<|dm g y).bind λv=>.ret (g.bF o.dst v)
 | .unOp op _ x=>(un op<|dm g x).bind λv=>.ret (g.bF o.dst v)
 | .convert src dst x=>iz cx nb o.dst src dst (dm g x) g
 | .makeFunc (.func f) first j=>match first.toList,KE (j.toList.map<|dm g) with
   | [],aa cs=>.ret (g.bF o.dst<|.fn f cs)
   | _,_=>.fail
 | .slice t x lo hi af=>mZ cx o.dst t (dm g x) lo hi g
 | .fieldAddr s x k=>fl cx o.dst s (dm g x) k g
 | .field A x k=>match dm g x with
   | .data u y=>bif KC (find cx.T A) u then(match xa (.data u y) k with
     | some (_,v)=>.ret (g.bF o.dst v)
     | none=>.fail) else .fail
   | _=>.fail
 | .indexAddr t x i=>match dm g i with
   | .data (.int _) i=>bif du bf 5000000 then na cx o.dst t (dm g x) i g else eL cx o.dst t (dm g x) i g
   | _=>.fail
 | .index t x i=>match dm g i with
   | .data (.int _) i=>nc cx o.dst t (dm g x) i g
   | _=>.fail
 | .makeSlice t l c=>match o.dst,find cx.T t,dm g l,dm g c with
   | some d,aa (.slice e),.data (.int _) l,.data (.int _) c =>
     .jw (inside 0 l c) (.jw (fits c)
      (g.bH (nb+d) (.data (.slice e)<|oq l e.zero) 0 true λh g=>.ret (g.put d<|.whole (nb+d) h)))
   | _,_,_,_=>.fail
 | .extract t k=>match dm g t with
   | .D0 vs=>match nth vs k with
     | some v=>.ret (g.bF o.dst v)
     | none=>.fail
   | _=>.fail
 | .call c=>yq cx nb bf inl o.dst o.type c g
 | .makeInterface u x=>uJ cx o.dst o.type u (dm g x) g
 | _=>.fail
def Cg(g:Option (Nat×Bool))(j:Nat)(a:Bool):Bool :=match g with|some (i,b)=>Nat.beq i j&&(b==a)|none=>false
def under(j:Nat)(a:Bool):(inner:List Nat)->List (Nat×Oper)->List (Nat×Oper)×List (Nat×Oper)|_,[]=>([],[])|inner,(i,o)::r =>bif Cg o.guard j a then let x:=under j a (i::inner) r;((i,{ o with guard:=af })::x.1,x.2) else bif (match o.guard with|some (k,_)=>inner.any (Nat.beq k)|none=>false) then let x:=under j a (i::inner) r;((i,o)::x.1,x.2) else([],(i,o)::r)
def Ou(a:Ctx):List (Nat×Oper)->Bool|[]=>false|(_,o)::r=>(match o.op with|.call c=>(match c.callee with|.value (.func f)=>(match find a.con f with|some _=>false|none=>true)|.value _=>true|.builtin .append=>true|_=>false)|.store ..=>true|_=>false)||Ou a r
def St.jn(a:St):St:={ a with mem:=λi=>match a.mem i with|some b=>aa { b with lk:=true }|none=>af }
def St.undef(a:St):List (Nat×Oper)->St|[]=>a|(_,o)::r=>(a.undef r).bF o.dst .undef
def ph(d:Nat):List (Nat×Oper)->Bool|[]=>false|(_,o)::r=>(match o.dst with|some k=>Nat.beq k d|none=>false)||ph d r
def Ch(e:St)(f:Oper)(g:Nat)(d:Bool):Option cw :=match f.op with|.pick (.tmp c) a b=>bif Nat.beq c g then aa (dm e<|bif d then a else b) else af|_=>af
def sW(a:Array Oper):Nat->List (Nat×Oper)->St->Tree St
 | 0,_,_=>.fail
 | n+1,[],σ=>.ret σ
 | n+1,(i,o)::r,σ =>
   match o.guard with
   | none=>(sV cx nb bf inl o σ).bind λσ=>sW a n r σ
   | some (j,want) =>
     let g:=under j want [] ((i,o)::r)
     match(a[j]?).bind (·.dst) with
     | none=>.fail
     | some d=>match σ.bw d,g.2 with
       | .data .bool c,(_,b)::rest=>bif ph d g.1 then .fail else match b.guard with
         | some _=>.fail
         | none =>
           let e:=bif want then c else nt c
           bif Ou cx g.1 then
            (Tree.node e ((sW a n g.1 σ).bind λσ=>match Ch σ b d want with
              | some v=>.ret (σ.bF b.dst v)
              | none=>.fail)
             (match Ch (σ.undef g.1) b d (!want) with|some v=>.ret ((σ.undef g.1).bF b.dst v)|none=>.fail)).bind λσ=>sW a n rest σ
           else match find cx.T b.type,b.dst with
            | some t,aa f=>(Tree.node e ((sW a n g.1 σ.jn).bind λτ=>match(Ch τ b d want).bind (toD t) with
              | some x=>.ret x
              | none=>.fail)
             (match(Ch (σ.undef g.1) b d<|!want).bind (toD t) with|some x=>.ret x|none=>.fail)).join λx=>sW a n rest ((σ.undef g.1).put f<|.data t x)
            | _,_=>.fail
       | _,_=>.fail
def number:Nat->List Oper->List (Nat×Oper)|_,[]=>[]|k,o::r=>(k,o)::number (k+1) r
def Px(a:Array Oper)(b:St):Tree St:=sW cx nb bf inl a (2*a.size+1) (number 0 a.toList) b
def iA:Op->List Operand|.move x|.assign x|.box _ x|.load _ x|.nilCheck x|.unOp _ _ x|.convert _ _ x|.fieldAddr _ x _|.field _ x _|.extract x _=>[x]|.pick c a b=>[c,a,b]|.build _ ps|.buildSlice _ _ ps=>ps.toList.map (·.2)|.store _ a x=>[a,x]|.binOp _ _ x y _=>[x,y]|.makeFunc _ f c=>f.toList++c.toList|.slice _ x lo hi _=>x::(lo.toList++hi.toList)|.indexAddr _ x i|.index _ x i=>[x,i]|.makeSlice _ l c=>[l,c]|.call c=>(match c.callee with|.value f=>[f]|.invoke r _=>[r]|_=>[])++c.args.toList|.makeInterface _ x=>[x]|_=>[]
def tmpsOf:List Operand->List Nat|[]=>[]|.tmp t::r=>t::tmpsOf r|_::r=>tmpsOf r
def sX(o:Oper)(a:St):Option Nat:=match o.op with|.call c=>(match c.callee with|.value x=>(match dm a x with|.fn f _=>aa f|_=>af)|_=>af)|_=>af
def aoQ:Option Nat->Option Nat->Bool|some a,aa b=>Nat.beq a b|none,af=>true|_,_=>false
def cls(g:Option Nat)(o:Oper):Nat:=match o.op with|.assign _|.move _|.makeSlice ..|.convert ..=>1|.box e _=>(match find cx.uu e with|some _=>3|none=>1)|.alloc e=>(match find cx.T e with|some (.slice _)=>3|some _=>1|none=>match find cx.uu e with|some _=>3|none=>1)|.build ..|.buildSlice ..|.store ..=>2|.call c=>(match c.callee with|.builtin .len|.builtin .min|.builtin .max=>0|.builtin .append=>2|.builtin _=>3|.value _=>(match g with|some f=>(match find cx.XY f with|some (.clone _)=>2|some (.own _ _ _ _)=>2|_=>match find cx.con f with|some c=>bif c.R.flat then 0 else 2|none=>3)|none=>3)|.invoke ..=>2)|.makeInterface ..=>2|_=>0
structure Fp where
 rd:List Nat
 wr:List Nat
 Ov:Bool
 fn:Option Nat
def Bi(d:St):cw->List Nat|.ptr b _ _=>[b]|.whole b _=>[b]|.part b _ _ _=>[b]|.win b _ _ _ _ _ _=>[b]|.fn _ c=>c.map (·.1)|.mix a b=>Bi d a++Bi d b|_=>[]
def refsOf(a:St):List Operand->List Nat|[]=>[]|x::r=>Bi a (dm a x)++refsOf a r
def aoR(o:Oper)(a:St):List Nat:=match o.op with|.move _|.assign _=>[]|_=>refsOf a (iA o.op)
def own(o:Oper):List Nat:=match o.dst with|some d=>[nb+d]|none=>[]
def Ed(o:Oper)(a:St):Fp :=
 let rd:=own nb o++aoR o a
 let g:=sX o a
 match cls cx g o with|0=>⟨rd,[],false,g⟩|1=>⟨rd,own nb o,false,g⟩|2=>⟨rd,rd,false,g⟩|_=>⟨[],[],true,g⟩
def St.only(a:St)(ts c:List Nat):St:={ bw:=λt=>bif du ts t then a.bw t else .undef,mem:=λb=>bif du c b then a.mem b else af }
def lay(a:St)(d:Option Nat)(e:List Nat)(c:St):St :=
 { bw:=match d with|some d=>λt=>bif Nat.beq t d then c.bw d else a.bw t|none=>a.bw
   mem:=λb=>bif du e b then c.mem b else a.mem b }
def Ee(_:Nat)(_:List cw)(_:St):Tree (cw×St):=.fail
def aid(b:Fp)(o:Oper)(a:St):Tree St:=bif aoQ (sX o a) b.fn then sV cx nb bf Ee o a else .fail
def jo(a:Fp)(o:Oper)(b:St):Tree St :=bif a.Ov then sV cx nb bf inl o b else(aid cx nb bf a o<|b.only (tmpsOf<|iA o.op) a.rd).bind λτ=>.ret (lay b o.dst a.wr τ)
abbrev Yt:=Nat×Oper×Fp×Nat
def maskAt:List Yt->Nat->Nat|[],_=>0|(i,_,_,m)::r,k=>bif Nat.beq i k then m else maskAt r k
def yg(a:List Yt):List Edge->Nat|[]=>0|e::r=>bif Region.binds .any e then(yg a r ||| 2 ^ e.on) ||| maskAt a e.on else yg a r
def mask(a:List Yt)(o:Oper):Nat:=yg a o.after.toList
def afd(a b:List Nat):Bool:=a.all λx=>!du b x
def apart(x y:Oper)(f g:Fp):Bool :=!f.Ov&&!g.Ov&&afd f.wr g.rd&&afd g.wr f.rd && (match x.dst with|some d=>!du (tmpsOf<|iA y.op) d&&(match y.dst with|some e=>!Nat.beq d e|none=>true)|none=>true) && (match y.dst with|some e=>!du (tmpsOf<|iA x.op) e|none=>true)
def loose(o:Oper)(f:Fp)(m:Nat):List Yt->Bool|[]=>true|(k,ok,a,_)::r=>(Nat.testBit m k||apart ok o a f)&&loose o f m r
def Py:List (Nat×Oper)->List Yt->St->Tree St
 | [],_,σ=>.ret σ
 | (i,o)::r,done,σ=>match o.guard with
   | some _=>.fail
   | none =>
     let f:=Ed cx nb o σ;let m:=mask done o
     bif loose o f m done&&(o.after.all λe=>!Region.binds .any e||Nat.blt e.on i) then (jo cx nb bf inl f o σ).bind λσ=>Py r ((i,o,f,m)::done) σ
     else .fail
def Uw(a:Array Oper)(o:Oper):List Nat:=match o.guard with|some (g,_)=>(match(a[g]?).bind (·.dst) with|some d=>[d]|none=>[])|none=>[]
def Hu(a:Array Oper)(o:Oper):List Nat:=Uw a o++tmpsOf (iA o.op)
def Bj(o:Oper)(k:Nat):Bool:=match o.guard with|some (g,_)=>!Nat.beq g k|none=>true
def Ef(a:Array Oper)(i j:Nat)(x y:Oper)(f g:Fp):Bool :=!f.Ov&&!g.Ov&&afd f.wr g.rd&&afd g.wr f.rd&&Bj x j&&Bj y i && (match x.dst with|some d=>!du (Hu a y) d&&(match y.dst with|some e=>!Nat.beq d e|none=>true)|none=>true) && (match y.dst with|some e=>!du (Hu a x) e|none=>true)
def Hv(a:Array Oper)(i:Nat)(o:Oper)(f:Fp)(m:Nat):List Yt->Bool|[]=>true|(k,ok,b,_)::r=>(Nat.testBit m k||Ef a k i ok o b f)&&Hv a i o f m r
def kH(i:Nat)(a:Nat->Bool):Nat->Bool:=λk=>Nat.beq k i||a k
def zB(a:Array Oper):List (Nat×Oper)->List Yt->St->(Nat->Bool)->Tree St
 | [],_,σ,_=>.ret σ
 | (i,o)::r,done,σ,b =>
   let f:=Ed cx nb o σ;let m:=mask done o
   bif Hv a i o f m done&&(o.after.all λe=>!Region.binds .any e||Nat.blt e.on i) then
    match o.guard with
    | none=>(jo cx nb bf inl f o σ).bind λσ=>zB a r ((i,o,f,m)::done) σ b
    | some (g,want)=>match(a[g]?).bind (·.dst) with
      | none=>.fail
      | some dg=>bif b g then zB a r ((i,o,f,m)::done) (σ.bF o.dst .undef) (kH i b)
        else match σ.bw dg with
         | .data .bool c=>.node c
          (bif want then(jo cx nb bf inl f o<|σ.put dg<|.data .bool true).bind λσ=>zB a r ((i,o,f,m)::done) σ b else zB a r ((i,o,f,m)::done) ((σ.put dg<|.data .bool true).bF o.dst .undef) (kH i b))
          (bif want then zB a r ((i,o,f,m)::done) ((σ.put dg<|.data .bool false).bF o.dst .undef) (kH i b) else(jo cx nb bf inl f o<|σ.put dg<|.data .bool false).bind λσ=>zB a r ((i,o,f,m)::done) σ b)
         | _=>.fail
   else .fail
def pj:List Oper->Bool
 | []=>true
 | o::r=>(match o.dst with|some d=>!du (KF r) d|none=>true)&&pj r
where KF:List Oper->List Nat
 | []=>[]
 | o::r=>match o.dst with|some d=>d::KF r|none=>KF r
def Bk(a:Array Oper)(b:St):Tree St :=
 bif a.any λo=>o.guard.isSome then(bif pj a.toList then zB cx nb bf inl a (number 0 a.toList) [] b (λ_=>false) else .fail)
 else Py cx nb bf inl (number 0 a.toList) [] b
end
def rounds{S R:Type}(f:S->Option (S⊕R)):Nat->S->Option R|0,_=>af|n+1,s=>(f s).bind λx=>match x with|.inl s=>rounds f n s|.inr r=>aa r
def Mc{S R}{f:S->Option (S⊕R)}:∀{n s r},rounds f n s=aa r->∀m,n<=m->rounds f m s=aa r:=by intro n;induction n with|zero=>intro s r h;cases h|succ n b =>intro s r h m c;obtain⟨k,rfl⟩:∃k,m=k+1:=⟨m-1,ai⟩;simp only[rounds] at h⊢;cases a:f s with|none=>rw[a] at h;cases h|some x =>grind
open Classical in
def Yu{S R:Type}(f:S->Option (S⊕R))(s:S):Option R :=if h:∃n r,rounds f n s=aa r then aa (Classical.choose<|adI h) else af
def Ds{S R}{f:S->Option (S⊕R)}{n s r}(h:rounds f n s=aa r):Yu f s=aa r:=by have c:∃n r,rounds f n s=aa r:=⟨n,r,h⟩;unfold Yu;have a:=Mc h (max n<|Classical.choose c) ai;have b:=Mc (adI<|adI c) (max n<|Classical.choose c) ai;grind
class Lp where
 loop:{S R:Type}->(S->Option (S⊕R))->S->Option R
 ok:∀{S R:Type} (f:S->Option (S⊕R)) (s:S),loop f s=Yu f s
def Lp.one(i j:Lp):i=j:=by
 obtain⟨l,h⟩:=i;obtain⟨m,k⟩:=j;have:@l=@m:=by funext S R f s;rw[h,k]
 grind
@[reducible] noncomputable def Lp.akZ:Lp where
 loop:=λf s=>match rounds f 100000 s with|some r=>aa r|none=>Yu f s
 ok:=λf s=>by generalize 100000=k;cases a:rounds f k s with|some r=>exact(Ds a).symm|none=>rfl
section
variable [Lp]
def Loop{S R:Type}(f:S->Option (S⊕R))(s:S):Option R:=Lp.loop f s
def sY{S R}{f:S->Option (S⊕R)}{n s r}(h:rounds f n s=aa r):Loop f s=aa r:=(Lp.ok f s).trans (Ds h)
def sZ{S R}{f:S->Option (S⊕R)}{s r}(h:Loop f s=aa r):∃n,rounds f n s=aa r:=by
 replace h:=(Lp.ok f s).symm.trans h;unfold Yu at h;split at h
 {grind};cases h
def aZ{S R}(f:S->Option (S⊕R)) s:Loop f s=(f s).bind λx=>match x with|.inl s=>Loop f s|.inr r=>aa r:=by cases c:f s with|none =>(cases b:Loop f s with|none=>rfl|some r =>obtain⟨n,a⟩:=sZ b;cases n with|zero=>cases a|succ n=>simp[rounds,c] at a)|some x =>cases x with|inr r=>exact sY (n:=1) (by simp[rounds,c])|inl e =>show Loop f s=Loop f e;cases b:Loop f e with|some r =>(obtain⟨n,a⟩:=sZ b;exact sY (n:=n+1) (by simp[rounds,c,a]))|none =>cases d:Loop f s with|none=>rfl|some r =>obtain⟨n,a⟩:=sZ d;cases n with|zero=>cases a|succ n =>simp[rounds,c] at a;rw[sY a] at b;cases b
end
inductive Sh where
 | d (t:Ty)
 | k (v:cw)
 | m (a b:Sh)
def Sh.ty:Sh->Ty|.d t=>t|.k _=>.unit|.m a b=>.pair a.ty b.ty
def Ow:List Sel->List Sel->Bool|[],[]=>true|.gE k o::p,.gE a b::q=>Nat.beq k a&&Nat.beq o b&&Ow p q|_,_=>false
def Ox:List (Nat×Nat)->List (Nat×Nat)->Bool|[],[]=>true|(a,b)::r,(c,d)::s=>Nat.beq a c&&Nat.beq b d&&Ox r s|_,_=>false
def abr:∀{p q},Ow p q=true->p=q:=by intro p;induction p with|nil=>(intro q h;cases q<;>first|rfl|cases h)|cons s p a =>intro q h;cases s with|idx i n=>cases q<;>cases h|gE k o =>cases q with|nil=>cases h|cons b q =>cases b with|idx i n=>cases h|gE c d =>simp only[Ow,gC] at h;rw[iN h.1.1,iN h.1.2,a h.2]
def abt:∀{p q},Ox p q=true->p=q:=by intro p;induction p with|nil=>(intro q h;cases q<;>first|rfl|cases h)|cons s p c =>intro q h;obtain⟨a,b⟩:=s;cases q with|nil=>cases h|cons d q =>simp only[Ox,gC] at h;rw[iN h.1.1,iN h.1.2,c h.2]
def ID(V:Nat->Bool->Bool)(d g:St):cw->cw->Bool|.ptr b v p,.ptr e a h=>Nat.beq b e&&Ow p h&&(bif V b false then(match d.mem b,g.mem b with|some x,aa y=>Nat.beq x.aY v&&Nat.beq y.aY a|_,_=>false) else Nat.beq v a)|.whole b v,.whole e a=>Nat.beq b e&&(match d.mem b,g.mem b with|some x,aa y=>Nat.beq x.aY v&&Nat.beq y.aY a&&y.buf|_,_=>false)|.fn f c,.fn i j=>Nat.beq f i&&Ox c j|.vM,.vM=>true|.vN,.vN=>true|.zy b v,.zy e a=>Nat.beq b e&&Nat.beq v a|_,_=>false
def ak0:cw->Sh|.data t _=>.d t|.mix a b=>.m (ak0 a) (ak0 b)|v=>.k v
def Sh.out(V:Nat->Bool->Bool)(c e:St):(s:Sh)->cw->Option s.ty.den|.d t,v=>toD t v|.k u,v=>bif ID V c e u v then aa () else af|.m a b,.mix v w=>(match Sh.out V c e a v,Sh.out V c e b w with|some x,aa y=>aa (x,y)|_,_=>af)|.m _ _,_=>af
def bump(M:Nat->Bool)(V:Nat->Bool->Bool):cw->cw|.whole b v=>bif M b&&V b true then .whole b (v+1) else .whole b v|.ptr b v p=>bif M b&&V b false then .ptr b (v+1) p else .ptr b v p|v=>v
def Sh.sj(M:Nat->Bool)(V:Nat->Bool->Bool):(s:Sh)->s.ty.den->cw|.d t,x=>.data t x|.k v,_=>bump M V v|.m a b,x=>.mix (a.sj M V x.1) (b.sj M V x.2)
structure Pz where
 S:List (Nat×Nat)
 M:List Nat
 fz:Bool
structure IE where
 marks:List (Option Pz)
 anr:List Nat
structure Carry where
 S:List (Nat×Sh)
 M:List (Nat×Sh×Box)
 V:Nat->Bool->Bool
def tyS:List (Nat×Sh)->Ty|[]=>.unit|(_,s)::r=>.pair s.ty (tyS r)
def tyM:List (Nat×Sh×Box)->Ty|[]=>.unit|(_,s,_)::r=>.pair s.ty (tyM r)
def Carry.ty(c:Carry):Ty:=.pair (tyS c.S) (tyM c.M)
def ak1(V:Nat->Bool->Bool)(a b:St):(l:List (Nat×Sh))->Option (tyS l).den|[]=>aa ()|(i,s)::r=>match Sh.out V a b s (b.bw i),ak1 V a b r with|some x,aa y=>aa (x,y)|_,_=>af
def Md(c d:Bool)(a b:Box):Bool:=(c||(a.ro==b.ro))&&Nat.beq a.tid b.tid&&(a.buf==b.buf)&&(d||Nat.beq a.aY b.aY)
def ak2(V:Nat->Bool->Bool)(d:Bool)(a c:St):(l:List (Nat×Sh×Box))->Option (tyM l).den|[]=>aa ()|(i,s,b)::r=>match c.mem i with|some e=>bif Md d (V i b.buf) e b then(match Sh.out V a c s e.val,ak2 V d a c r with|some x,aa y=>aa (x,y)|_,_=>af) else af|none=>af
def Carry.out(c:Carry)(fz:Bool)(a b:St):Option c.ty.den :=match ak1 c.V a b c.S,ak2 c.V fz a b c.M with|some x,aa y=>aa (x,y)|_,_=>af
def VQ(M:Nat->Bool)(V:Nat->Bool->Bool):(l:List (Nat×Sh))->(tyS l).den->Nat->Option cw|[],_,_=>af|(i,s)::r,x,t=>bif Nat.beq t i then aa (s.sj M V x.1) else VQ M V r x.2 t
def PA(fz:Bool)(M:Nat->Bool)(V:Nat->Bool->Bool):(l:List (Nat×Sh×Box))->(tyM l).den->Nat->Option Box|[],_,_=>af|(i,s,b)::r,x,t=>bif Nat.beq t i then aa { b with val:=s.sj M V x.1,ro:=b.ro||fz,aY:=bif V t b.buf then b.aY+1 else b.aY } else PA fz M V r x.2 t
def Gs:List (Nat×Sh×Box)->Nat->Bool|[],_=>false|(i,_,_)::r,t=>Nat.beq t i||Gs r t
def Carry.sj(c:Carry)(fz lock:Bool)(e:List Nat)(a:St)(x:c.ty.den):St :=
 { bw:=λt=>match VQ (Gs c.M) c.V c.S x.1 t with
    | some v=>v
    | none=>bif du e t then .undef else a.bw t
   mem:=λb=>match PA fz (Gs c.M) c.V c.M x.2 b with|some d=>aa d|none=>match a.mem b with|some d=>aa { d with lk:=d.lk||lock }|none=>af }
def settle:List (Nat×Sh)->St->Option St|[],σ=>aa σ|(i,.d t)::r,σ=>(match Ea σ t (σ.bw i) with|some (x,σ)=>settle r (σ.put i<|.data t x)|none=>af)|_::r,σ=>settle r σ
def Carry.PB(c:Carry)(fz:Bool)(a b:St):Option c.ty.den :=
 bif fz then(match settle c.S b with|some b=>c.out true a b|none=>af)
 else c.out false a b
def Carry.lock(c:Carry)(a:St):St :={ a with mem:=λb=>match a.mem b with|some d=>aa (bif Gs c.M b then d else { d with lk:=true })|none=>af }
def s6:List Oper->List Nat|[]=>[]|o::r=>match o.dst with|some d=>d::s6 r|none=>s6 r
def writes:Code->List Nat|.region _ ops _=>s6 ops.toList|.seq a b=>writes a++writes b|.cond _ a b=>writes a++writes b|.block _ a=>writes a|.loop a=>writes a|.scope a=>writes a|_=>[]
def xc:Code->List Nat|.seq a b=>xc a++(xc b).filter λe=>!du (xc a) e|.cond _ a b=>xc a++(xc b).filter λe=>!du (xc a) e|.block i a=>(xc a).filter λe=>!Nat.beq e (i+2)|.loop a=>xc a|.scope a=>xc a|.ret=>[1]|.exit i=>[i+2]|_=>[]
def marks:Code->Nat|.seq a b=>marks a+marks b|.cond _ a b=>marks a+marks b+1|.block _ a=>marks a|.loop a=>marks a+1|.scope a=>marks a|_=>0
def Ng:List Nat->Nat->Option Nat|[],_=>af|e::r,k=>bif Nat.beq e k then aa 0 else(Ng r k).map (·+1)
def abu:List Nat->List Nat->List Nat|[],l=>l|b::r,l=>bif du l b then abu r l else abu r (l++[b])
section
variable (cx:Ctx)
def mkS(a:St):List (Nat×Nat)->Option (List<|Nat×Sh)
 | []=>aa []
 | (i,ty)::r=>match mkS a r with
   | none=>af
   | some l=>bif Nat.beq ty 999999 then(match a.bw i with
     | .whole b v=>aa ((i,.k (.whole b v))::l)
     | _=>aa l) else match a.bw i with
     | .data t _=>aa ((i,.d t)::l)
     | .undef|.qq=>match find cx.T ty with
       | some t=>aa ((i,.d t)::l)
       | none=>af
     | v=>aa ((i,.k v)::l)
def FE(a:St):List Nat->List Nat|[]=>[]|b::r=>(match a.mem b with|some d=>(match d.val with|.mix u v=>Bi a (.mix u v)|.whole c _=>[c]|.fn f c=>Bi a (.fn f c)|_=>[])|none=>[])++FE a r
def VR(a:St):List Nat->List Nat
 | []=>[]
 | i::r =>
   let b:=Bi a (a.bw i);let c:=FE a b;let r2:=FE a c
   abu (b++(c++(r2++FE a r2))) (VR a r)
def mkM(c:St):List Nat->Option (List<|Nat×Sh×Box)|[]=>aa []|b::r=>match c.mem b,mkM c r with|some a,aa l=>bif a.lk then af else aa ((b,ak0 a.val,a)::l)|_,_=>af
def ant:cw->Option Nat|.whole b _=>aa b|.part b _ _ _=>aa b|_=>af
def IF:List Nat->St->Option St|[],σ=>aa σ|m::r,σ=>bif Nat.ble 2000000 m then(match ant (σ.bw<|m-2000000) with|some b=>(match σ.mem b with|some a=>(match a.val with|.data (.slice e) _=>(match Ea σ (.slice e) (σ.bw<|m-2000000) with|some (x,σ)=>IF r (σ.put (m-2000000)<|.data (.slice e) x)|none=>af)|_=>af)|none=>af)|none=>IF r σ) else IF r σ
def aoV(a:Nat)(c:List Nat)(d:St)(b:Nat):Bool:=du (c.map (a+·)) b&&(match d.mem b with|some x=>!x.buf&&!Oq x.val|none=>false)
def Oy(d:Nat)(e:List Nat)(a:St)(p:Pz):Option Carry :=match mkS cx a p.S,mkM a (VR a p.M) with|some s,aa m=>aa ⟨s,m,λb c=>bif c then !du p.M 3999999 else aoV d e a b⟩|_,_=>af
variable (nb:Nat) (bf:List Nat) (inl:Nat->List cw->St->Tree (cw×St))
def IG{a:Type}:List Nat->Nat->(Nat->Tree a)->Tree a|[],_,_=>.fail|[e],_,f=>f e|e::r,i,f=>.node (cF i 0) (f e) (IG r (i-1) f)
variable [Lp]
def again{S:Type}(f:S->Tree (Nat×S)):Nat->S->Tree (Nat×S)|0,_=>.fail|n+1,s=>(f s).bind λr=>bif Nat.beq r.1 0 then again f n r.2 else .ret r
def abv(p:Pz):Option Nat:=match p.M with|[m]=>bif Nat.ble 6000000 m then aa (m-6000000) else af|_=>af
def KG(f:St->Tree (Nat×St))(c:Nat):Nat->Nat->St->Tree (Nat×St)|0,_,_=>.fail|n+1,j,σ=>match σ.bw c with|.data (.int .i64) x=>.jw (aR x j) ((f<|σ.put c<|.data (.int .i64) (j:Int)).bind λr=>bif Nat.beq r.1 0 then KG f c n (j+1) r.2 else .ret r)|_=>.fail
def kE:Code->List (Option Pz)->St->Tree (Nat×St)
 | .skip,_,σ=>.ret (0,σ)
 | .label _,_,σ=>.ret (0,σ)
 | .ret,_,σ=>.ret (1,σ)
 | .exit i,_,σ=>.ret (i+2,σ)
 | .region _ ops f,_,σ=>(bif f then Bk cx nb bf inl ops σ else Px cx nb bf inl ops σ).bind λσ=>.ret (0,σ)
 | .seq a b,pl,σ=>(kE a pl σ).bind λr=>bif Nat.beq r.1 0 then kE b (pl.drop<|marks a) r.2 else .ret r
 | .block i a,pl,σ=>(kE a pl σ).bind λr=>.ret (bif Nat.beq r.1 (i+2) then 0 else r.1,r.2)
 | .scope a,pl,σ=>kE a pl σ
 | .cond c a b,pl,σ=>match dm σ c,pl with
   | .data .bool c,none::pl=>.node c (kE a pl σ) (kE b (pl.drop<|marks a) σ)
   | .data .bool c,aa p::pl=>match IF p.M σ with
    | none=>.fail
    | some σ=>match Oy cx nb bf σ p with
     | none=>.fail
     | some k =>
       let t:=Tree.node c (kE a pl<|k.lock σ) (kE b (pl.drop<|marks a)<|k.lock σ)
       let wr:=writes a++writes b
       match xc a++(xc b).filter (λe=>!du (xc a) e) with
       | []=>(t.bind λr=>bif Nat.beq r.1 0 then Tree.ah4 (k.PB p.fz σ r.2) else .fail).join λx=>.ret (0,k.sj p.fz false wr σ x)
       | es=>(t.bind λr=>match Ng (0::es) r.1,k.PB p.fz σ r.2 with
        | some i,aa x=>.ret (i,x)
        | _,_=>.fail).join λx=>IG (0::es) x.1 λe=>.ret (e,k.sj p.fz false wr σ x.2)
   | _,_=>.fail
 | .loop a,pl,σ=>match pl with
   | some p::pl=>match abv p with
    | some c=>KG (λσ=>kE a pl σ) c 100 0 σ
    | none=>match IF p.M σ with
    | none=>.fail
    | some σ=>match Oy cx nb bf σ p with
     | none=>.fail
     | some k=>match k.out false σ σ with
       | none=>.fail
       | some d =>
         let wr:=writes a
         let es:=xc a
         let body (x:k.ty.den):Option (k.ty.den⊕(Nat×k.ty.den)):=((kE a pl<|k.sj false true wr σ x).bind λr=>bif Nat.beq r.1 0 then(match k.out false σ r.2 with
           | some y=>.ret (.inl y)
           | none=>.fail)
          else match Ng es r.1,k.PB p.fz σ r.2 with
           | some i,aa y=>.ret (.inr (i,y))
           | _,_=>.fail).run
         match es with
         | [e]=>.look (Loop (λx=>cf (body x)) d) λx=>.ret (e,k.sj p.fz false wr σ x)
         | es=>.look (Loop body d) λx=>IG es x.1 λe=>.ret (e,k.sj p.fz false wr σ x.2)
   | none::pl=>again (λσ=>kE a pl σ) 100000 σ
   | _=>.fail
 | _,_,_=>.fail
end
variable [Lp]
def qt(mem:Nat->Option Box)(a:List cw):St:={ bw:=λt=>(a[t]?).getD .undef,mem }
def KH(c:Ctx)(b:St):ResultVar->Tree cw|.tmp t=>.ret (b.bw t)|.cell a ty=>(mF c (aa 0) ty (b.bw a) b).bind λτ=>.ret (τ.bw 0)
def IH(a:Ctx)(b:St):List ResultVar->Tree cw|[]=>.ret .nl|r::rs=>(KH a b r).bind λv=>(IH a b rs).bind λl=>.ret (.mix v l)
def results1(a:Ctx)(b:St):List ResultVar->Tree cw|[r]=>KH a b r|rs=>(IH a b rs).bind λl=>.ret (.D0 l)
def lT(mem:Nat->Option Box):St:={ bw:=λ_=>.undef,mem }
def am7(a:Ctx):List TypeId->Option (List Ty)|[]=>aa []|t::r=>match find a.T t,am7 a r with|some u,aa l=>aa (u::l)|_,_=>af
def aie(b:Ctx)(a:List TypeId):List Nat->Option (Bool×List Ty)|[]=>af|m::r=>bif Nat.ble 7000000 m&&Nat.ble m 7999999 then(bif Nat.beq m 7999999 then(am7 b a).map λl=>(true,l) else(find b.T<|m-7000000).map λR=>(false,[R])) else aie b a r
def spread(a:Bool)(v:cw):Nat->cw :=match a,v with|false,v=>λt=>bif Nat.beq t 0 then v else .undef|true,.D0 m=>(λt=>match nth m t with|some u=>u|none=>.undef)|true,_=>λ_=>.undef
def VS:cw->Nat|.mix _ b=>VS b+1|_=>0
def Yv(a:Bool)(v:cw)(n:Nat):Bool :=match a,v with|false,_=>Nat.beq n 1|true,.D0 m=>Nat.beq (VS m) n|true,_=>false
def anu(a:Nat->cw):Nat->Nat->cw|_,0=>.nl|i,n+1=>.mix (a i) (anu a (i+1) n)
def VT(b:Bool)(n:Nat)(a:Nat->cw):cw :=match b with|false=>a 0|true=>.D0 (anu a 0 n)
def aif(a:Bool)(v:cw)(mem:Nat->Option Box):St:={ bw:=spread a v,mem }
def ad4:List Ty->Nat->List (Nat×Sh)|[],_=>[]|t::r,i=>(i,.d t)::ad4 r (i+1)
def anv:cw->cw|.whole _ _=>.undef|v=>v
def ad5(R:Bool×List Ty)(args:List cw)(a:Nat->Option Box)(F:(Nat->Option Box)->Tree (cw×(Nat->Option Box))):Tree (cw×(Nat->Option Box)) :=
 match mkM (lT a) (VR (qt a<|args.map anv)<|List.range args.length) with
 | none=>.fail
 | some m =>
   let k:Carry:=⟨ad4 R.2 0,m,λ_ b=>b⟩;let wr:=List.range R.2.length
   ((F (k.lock<|lT a).mem).bind λr=>bif Yv R.1 r.1 R.2.length then Tree.ah4 (k.out false (lT a)<|aif R.1 r.1 r.2) else .fail).join λx =>.ret (VT R.1 R.2.length (k.sj false false wr (lT a) x).bw,(k.sj false false wr (lT a) x).mem)
def PC(d:Ctx)(e:Nat)(p:IE)(inl:Nat->List cw->St->Tree (cw×St))(f:Func)(c:Code)(a:List cw)(b:Nat->Option Box):Tree (cw×(Nat->Option Box)) :=
 (kE d e p.anr inl c p.marks<|qt b a).bind λr =>
  bif Nat.beq r.1 0||Nat.beq r.1 1 then(results1 d r.2 f.results.toList).bind λv=>.ret (v,r.2.mem) else .fail
def II(a:Ctx):Nat->(nb:Nat)->(ft:Nat->IE)->Nat->List cw->(Nat->Option Box)->Tree (cw×(Nat->Option Box))
 | 0,_,_,_,_,_=>.fail
 | n+1,nb,ft,f,args,mem=>match find a.fns f with
   | some fn=>match fn.body with
     | some c=>match aie a fn.resultTypes.toList (ft f).anr with
       | none=>PC a nb (ft f) (λg b σ=>(II a n ((nb+g+1)*1000) ft g b σ.mem).bind λr=>.ret (r.1,{ σ with mem:=r.2 })) fn c args mem
       | some R=>ad5 R args mem (PC a nb (ft f) (λg b σ=>(II a n ((nb+g+1)*1000) ft g b σ.mem).bind λr=>.ret (r.1,{ σ with mem:=r.2 })) fn c args)
     | none=>.fail
   | none=>.fail
def PD:(A:Ty)->A.den->List cw|.pair t r,x=>.data t x.1::PD r x.2|_,_=>[]
def IJ:cw->List cw|.mix a b=>a::IJ b|_=>[]
def IK:(R:Ty)->cw->List cw|.pair _ .unit,v=>[v]|_,.D0 v=>IJ v|_,v=>[v]
def l5(k:Nat):Nat:=777000000+k
def Me:List Bool->(A U:Ty)->A.den->Nat->List cw|[],_,_,_,_=>[]|false::ps,A,U,x,k=>(match A,x with|.pair t A,x=>.data t x.1::Me ps A U x.2 k|_,_=>[])|true::ps,A,U,x,k=>match U with|.pair _ U=>.ptr (l5 k) 0 []::Me ps A U x (k+1)|_=>[]
def SN:(U:Ty)->U.den->Nat->Nat->Option Box|.pair t U,u,k,b=>bif Nat.beq b (l5 k) then aa { val:=.data t u.1,tid:=0,buf:=false,ro:=false,lk:=false,aY:=0 } else SN U u.2 (k+1) b|_,_,_,_=>af
def Yw(a:Nat->Option Box):(U:Ty)->Nat->Option U.den|.pair t U,k=>(match a (l5 k) with|some b=>bif Nat.beq b.aY 0&&!b.buf&&!b.ro then(match toS t b.val,Yw a U (k+1) with|some x,aa u=>aa (x,u)|_,_=>af) else af|none=>af)|.unit,_=>aa ()|_,_=>af
def aih(b:Ctx)(n:Nat)(a:Nat->IE)(f:Nat)(c:List Bool)(A U R:Ty)(x:A.den×U.den):Option (R.den×U.den) :=
 ((II b n 0 a f (Me c A U x.1 0)<|SN U x.2 0).bind λr=>match l4 (lT r.2) R (IK R r.1) with
  | some (y,σ)=>(match Yw σ.mem U 0 with
    | some u=>.ret (y,u)
    | none=>.fail)
  | none=>.fail).run
def sem(b:Ctx)(n:Nat)(a:Nat->IE)(f:Nat)(A R:Ty)(x:A.den):Option R.den :=
 ((II b n 0 a f (PD A x) λ_=>af).bind λr=>match jm (lT r.2) R (IK R r.1) with
  | some y=>.ret y
  | none=>.fail).run
end Go.Ge
namespace Go.Ge
structure Gh where
 I:Nat->Nat->Prop
 loc:Nat->Option (Nat×Nat)
def cX(t:Ty)(cs:List Value):Value:=bif t.isAgg then .agg cs.toArray else cs.headD undef
def bZ(w:World)(I:Nat->Nat->Prop):(t:Ty)->t.den->List Value->Prop|.int k,n,cs=>cs=[.int k n]/\k.min<=(show Int from n)/\(show Int from n)<=k.max|.bool,b,cs=>cs=[.bool b]|.str,s,cs=>cs=[.string ⟨List.toArray (α:=UInt8) s⟩]/\List.length (α:=UInt8) s<=maxLen|.slice e,l,cs=>((∃base,cs=[.slice base 0 0])/\l=([]:List e.den)) \/ ∃d off f,cs=[.slice (aa ⟨d,off,af⟩) (List.length (α:=e.den) l) f]/\List.length (α:=e.den) l<=f/\f<=maxLen /\∀(i:Nat) (x:e.den),(show List e.den from l)[i]?=aa x->∃es:List Value,es.length=e.size /\(∀(j:Nat) v,es[j]?=aa v->w.cell? ⟨d,off+i*e.size+j,af⟩=aa v/\I d (off+i*e.size+j))/\bZ w I e x es|.arr n e,l,cs=>List.length (α:=e.den) l=n/\cs.length=n*e.size /\∀(i:Nat) (x:e.den),(show List e.den from l)[i]?=aa x->bZ w I e x ((cs.drop<|i*e.size).take e.size)|.pair a b,x,cs=>∃g h,cs=g++h/\bZ w I a x.1 g/\bZ w I b x.2 h|.unit,_,cs=>cs=[]|.alt u a r,x,cs=>(match(show a.den⊕r.den from x) with|.inl y=>r.size=1/\∃c,cs=[.iface u<|cX a c]/\bZ w I a y c|.inr z=>bZ w I r z cs)|.DV,_,cs=>cs=[.nilIface]
def bZ.length{w I}:∀{t x cs},bZ w I t x cs->cs.length=t.size:=by intro t;induction t with|int k=>intro x cs h;rw[h.1];rfl|bool=>intro x cs h;rw[h];rfl|str=>intro x cs h;rw[h.1];rfl|slice e j=>(intro x cs h;rcases h with ⟨⟨_,h⟩,_⟩|⟨_,_,_,h,_⟩<;>rw[h]<;>rfl)|arr n e j=>intro x cs h;exact h.2.1|pair a b d f=>(intro x cs h;obtain⟨m,o,rfl,g,l⟩:=h;rw[gR,d g,f l];rfl)|unit=>intro x cs h;rw[h];rfl|alt u a r d i =>(intro x cs h;rcases x with y|z;{obtain⟨g,c,rfl,_⟩:=h;exact g.symm};exact i h)|DV=>intro x cs h;rw[show cs=_ from h];rfl
def bZ.mono{w w' I I'}(C:∀b o,I b o->I' b o)(D:∀b o,I b o->w'.cell? ⟨b,o,af⟩=w.cell? ⟨b,o,af⟩) :
  ∀{t x cs},bZ w I t x cs->bZ w' I' t x cs:=by
 intro t;induction t with|int k=>intro x cs h;exact h|bool=>intro x cs h;exact h|str=>intro x cs h;exact h|slice e q =>(intro x cs h;rcases h with h|⟨blk,off,j,f,g,l,E⟩;{exact .inl h};refine .inr ⟨blk,off,j,f,g,l,λi y s=>?_⟩;grind)|arr n e q=>intro x cs h;exact⟨h.1,h.2.1,λi y s=>q (h.2.2 i y s)⟩|pair a b d m=>(intro x cs h;obtain⟨v,A,B,f,g⟩:=h;exact⟨v,A,B,d f,m g⟩)|unit=>intro x cs h;exact h|alt u a r d p =>(intro x cs h;rcases x with y|z;{obtain⟨f,c,g,l⟩:=h;exact⟨f,c,g,d l⟩};exact p h)|DV=>intro x cs h;exact h
def bZ.one{w I}:∀{t x cs},bZ w I t x cs->∀v∈cs,v.oneCell'=true:=by intro t;induction t with|int k=>intro x cs h v d;rw[h.1] at d;simp at d;subst d;rfl|bool=>intro x cs h v d;rw[h] at d;simp at d;subst d;rfl|str=>intro x cs h v d;rw[h.1] at d;simp at d;subst d;rfl|slice e j=>(intro x cs h v d;rcases h with ⟨⟨_,h⟩,_⟩|⟨_,_,_,h,_⟩<;>rw[h] at d<;>simp at d<;>subst d<;>rfl)|arr n e j =>(intro x cs h v d;obtain⟨f,o,l⟩:=h;obtain⟨k,B,p⟩:=ahG d;have m:0<e.size:=by grind);(have hx:∃y,(show List e.den from x)[k / e.size]?=aa y:=⟨_,gQ (by rw[f];exact(by rw[adJ m];omega))⟩;obtain⟨y,q⟩:=hx;refine j (l _ y q) v ?_;have C:=D7 k m;have s:k / e.size*e.size+k % e.size=k:=by rw[Yk];exact Yg k e.size);(have:((cs.drop<|k / e.size*e.size).take e.size)[k % e.size]?=aa v:=by grind);grind|pair a b g A =>(intro x cs h v d;obtain⟨D,E,rfl,f,o⟩:=h;grind)|unit=>intro x cs h v d;rw[h] at d;cases d|alt u a r g i =>(intro x cs h v d;rcases x with y|z;{obtain⟨f,c,rfl,l⟩:=h;simp at d;subst d;rfl};exact i h v d)|DV=>intro x cs h v d;rw[show cs=_ from h] at d;simp at d;subst d;rfl
def vb{w I}:∀{t x cs},bZ w I t x cs->(cX t cs).cells.toList=cs:=by intro t;induction t with|int k=>intro x cs h;rw[h.1];rfl|bool=>intro x cs h;rw[h];rfl|str=>intro x cs h;rw[h.1];rfl|slice e=>(intro x cs h;rcases h with ⟨⟨_,h⟩,_⟩|⟨_,_,_,h,_⟩<;>rw[h]<;>rfl)|arr n e=>intro x cs h;rfl|pair a b=>intro x cs h;rfl|unit=>intro x cs h;rfl|alt u a r f d =>(intro x cs h;rcases x with y|z;{obtain⟨g,c,rfl,i⟩:=h;unfold cX Ty.isAgg;cases r.isAgg<;>rfl};exact d h)|DV=>intro x cs h;rw[show cs=_ from h];rfl
inductive Mode where
 | cells|val|many
def yr(a:Option Addr)(b:Nat):Prop:=b=0\/∃c d,a=aa ⟨c,d,af⟩
def er:List Sel->Nat|[]=>0|.gE _ off::p=>off+er p|.idx i size::p=>i.toNat*size+er p
def Eg p q:er (p++q)=er p+er q:=by induction p with|nil=>simp[er]|cons s p a=>cases s<;>simp[er]<;>omega
section
variable (γ:Gh) (mem:Nat->Option Box) (w:World)
def IL(e:Box)(b:Nat)(f:Int)(a:Option Addr)(c:Nat):Prop:=f=0->e.buf=true->(γ.loc b=af/\a=af/\c=0)\/∃d,γ.loc b=aa (d,c)/\a=aa ⟨d,0,af⟩
def IM(I:Nat->Nat->Prop)(a b:Nat)(c:List Value):Prop:=∀(j:Nat) v,c[j]?=aa v->w.cell? ⟨a,b+j,af⟩=aa v/\I a (b+j)
def oz(b a:Nat)(K:Box->Prop):Prop:=∃c,mem b=aa c/\a<=c.aY/\(c.aY=a->K c)
def cK:cw->Mode->List Value->Prop|.undef,.val,vs=>∃v,vs=[v]|.undef,.cells,vs=>∃v,vs=[v]/\v.oneCell'=true|.undef,.many,_=>False|.data t x,.cells,vs=>bZ w γ.I t x vs|.data t x,.val,vs=>∃cs,bZ w γ.I t x cs/\vs=[cX t cs]|.data _ _,.many,_=>False|.mix a b,.cells,vs=>∃m o,vs=m++o/\cK a .cells m/\cK b .cells o|.mix a b,.val,vs=>∃m o,vs=[.agg (m++o).toArray]/\cK a .cells m/\cK b .cells o|.mix a b,.many,vs=>∃v r,vs=v::r/\cK a .val [v]/\cK b .many r|.nl,.many,vs=>vs=[]|.nl,_,_=>False|.D0 u,.val,vs=>∃j:Array Value,vs=[.tuple j]/\cK u .many j.toList|.D0 _,_,_=>False|.vM,.many,_=>False|.vM,_,vs=>vs=[.pointer af]|.vN,.many,_=>False|.vN,_,vs=>vs=[.nilIface]|.zy _ _,.many,_=>False|.zy b aY,_,vs=>(∃v,vs=[v]/\v.oneCell'=true)/\oz mem b aY λ_=>∃d g,γ.loc b=aa (d,g)/\(vs=[.pointer af]\/vs=[.pointer<|some ⟨d,0,af⟩])|.qq,.many,_=>False|.qq,_,vs=>vs=[.slice af 0 0]|.cell _ _,.many,_=>False|.cell t x,_,vs=>∃d off cs,vs=[.pointer<|some ⟨d,off,af⟩]/\bZ w γ.I t x cs/\IM w γ.I d off cs|.ptr _ _ _,.many,_=>False|.ptr b aY p,_,vs=>(∃v,vs=[v]/\v.oneCell'=true)/\oz mem b aY λ_=>∃d g,γ.loc b=aa (d,g)/\vs=[.pointer<|some ⟨d,er p,af⟩]|.whole _ _,.many,_=>False|.whole b aY,_,vs=>(∃v,vs=[v]/\v.oneCell'=true)/\oz mem b aY λbx=>∃e n,bx.buf=true/\bx.row=aa (e,n) /\((γ.loc b=af/\vs=[.slice af 0 0])\/∃d g,γ.loc b=aa (d,g)/\vs=[.slice (aa ⟨d,0,af⟩) n g])|.part _ _ _ _,.many,_=>False|.part b aY lo n,_,vs=>(∃v,vs=[v]/\v.oneCell'=true)/\oz mem b aY λbx=>∃e k,bx.row=aa (e,k)/\0<=lo/\0<=n/\lo+n<=k /\∃h g,vs=[.slice h n.toNat g]/\n.toNat<=g/\g<=maxLen/\(yr h g/\IL γ bx b lo h g)/\(n=0\/∃d c,γ.loc b=aa (d,c)/\h=aa ⟨d,lo.toNat*e.size,af⟩)|.win _ _ _ _ _ _ _,.many,_=>False|.win b aY q e k lo n,_,vs=>(∃v,vs=[v]/\v.oneCell'=true)/\oz mem b aY λ_=>q≠[]/\∃d c,γ.loc b=aa (d,c)/\0<=lo/\0<=n/\lo+n<=k /\∃h g,vs=[.slice h n.toNat g]/\n.toNat<=g/\(n=0\/h=aa ⟨d,er q+lo.toNat*e.size,af⟩)|.fn _ _,.many,_=>False|.fn f l,_,vs=>∃j:Array Value,vs=[.func (.func f) #[] j]/\j.size=l.length /\∀(i:Nat) b aY,l[i]?=aa (b,aY)->oz mem b aY λ_=>∃d g,γ.loc b=aa (d,g)/\j[i]?=aa (.pointer<|some ⟨d,0,af⟩)
def oA(b:Array Value)(c:Nat×Nat):Prop:=∀a,a<b.size->¬(c.1<=a/\a<c.2)
def Ty.isInt:Ty->Bool|.int _=>true|_=>false
structure ThB (e:Ty) (cur:Array Value) (fr:Nat×Nat):Prop where
 th:oA cur fr
 um:e.isInt=false->¬(fr.1<=cur.size/\cur.size<fr.2)
def e7(b:Nat)(bx:Box):Prop :=match bx.buf with|true=>∃(e:Ty) (l:List e.den),bx.val=.data (.slice e) l/\0<e.size /\((γ.loc b=af/\l=[])\/∃d c a tid f,γ.loc b=aa (d,c)/\w.heap[d]?=aa (.cells a tid f)/\ThB e a f/\(bx.tid=0\/tid=bx.tid)/\l.length<=c/\c<=maxLen /\a.size=c*e.size/\∀(i:Nat) (x:e.den),l[i]?=aa x->bZ w γ.I e x ((a.toList.drop<|i*e.size).take e.size))|false=>∃d c a tid f,γ.loc b=aa (d,c)/\w.heap[d]?=aa (.cells a tid f)/\oA a f/\(bx.tid=0\/tid=bx.tid)/\cK γ mem w bx.val .cells a.toList
end
def abw(a:Box):Nat->Prop:=λb=>a.ro=true/\(a.buf=true->∀e n,a.row=aa (e,n)->b<n*e.size)
abbrev Eh:=Nat->(Obj->Prop)->Prop
def zC:Eh:=λ_ _=>False
def KI(G:Eh)(w:World):Prop:=∀b Q,G b Q->∃o,w.heap[b]?=aa o/\Q o
structure DW where
 lo:Nat
 X:Nat->Prop
 G:Eh
def DW.has(B:DW)(k:Nat):Prop:=B.lo<=k\/B.X k
def pn(G:Eh)(n:Nat):DW:=⟨n,λ_=>False,G⟩
def DW.new{B:DW}{n}(h:B.lo<=n):B.has n:=.inl h
def s7{G n k}:(pn G n).has k↔n<=k:=⟨λh=>h.elim id False.elim,.inl⟩
structure yh (B:DW) (w w':World):Prop where
 os:w'.os=w.os
 tape:w'.tape=w.tape
 output:w'.output=w.output
 size:w.heap.size<=w'.heap.size
 block:∀k,¬B.has k->w'.heap[k]?=w.heap[k]?
def yh.refl B w:yh B w w:=⟨rfl,rfl,rfl,b8 _,λ_ _=>rfl⟩
def yh.trans{B a b c}(h:yh B a b)(k:yh B b c):yh B a c :=⟨k.os.trans h.os,k.tape.trans h.tape,k.output.trans h.output,gS h.size k.size,λi d=>(k.block i d).trans (h.block i d)⟩
def yh.of{B w w'}(h:RowKit.Below B.lo w w'):yh B w w':=⟨h.os,h.tape,h.output,h.size,λk a=>h.block k (Ye λq=>a (.inl q))⟩
def yh.below{G n w w'}(h:yh (pn G n) w w'):RowKit.Below n w w':=⟨h.os,h.tape,h.output,h.size,λk a=>h.block k λq=>by have:=s7.1 q;omega⟩
def yh.drew{B a w}(h:yh B a w):yh B a w.drew:=⟨h.os,h.tape,h.output,h.size,h.block⟩
def yh.alloc{B a w}(h:yh B a w)(b:B.lo<=w.heap.size) o:yh B a (w.alloc o):=h.trans (.of<|(RowKit.Below.refl _ _).alloc b o)
structure bP (B:DW) (γ:Gh) (mem:Nat->Option Box) (w:World):Prop where
 base:B.lo<=w.heap.size
 boxes:∀b bx,mem b=aa bx->e7 γ mem w b bx
 inj:∀b c blk k k',mem b≠af->mem c≠af->γ.loc b=aa (blk,k)->γ.loc c=aa (blk,k')->b=c
 fresh:∀b blk k,mem b≠af->γ.loc b=aa (blk,k)->B.has blk/\blk<w.heap.size
 xd:∀blk off,γ.I blk off->blk<w.heap.size
 sep:∀b bx blk k off,mem b=aa bx->γ.loc b=aa (blk,k)->γ.I blk off->abw bx off
 dk:∀b Q,B.G b Q->¬B.has b/\∃o,w.heap[b]?=aa o/\Q o
structure dz (B:DW) (N:Nat) (γ:Gh) (σ:St) (a:Act) (w:World):Prop where
 bw:∀t,cK γ σ.mem w (σ.bw t) .val [a.tmps.getD t undef]
 size:a.tmps.size=N
 defers:a.defers=[]
 ok:bP B γ σ.mem w
structure Ext (B:DW) (γ:Gh) (mem:Nat->Option Box) (w:World) (bM:Gh) (cS:Nat->Option Box) (w':World):Prop where
 below:yh B w w'
 I:∀b o,γ.I b o->bM.I b o
 s9:∀b o,bM.I b o->γ.I b o\/B.has b
 cells:∀b o,γ.I b o->w'.cell? ⟨b,o,af⟩=w.cell? ⟨b,o,af⟩
 boxes:∀b bx,mem b=aa bx->∃wE,cS b=aa wE/\bx.aY<=wE.aY/\(wE.aY=bx.aY->bM.loc b=γ.loc b/\wE.buf=bx.buf/\wE.row=bx.row)
def bP.IP{B γ bM mem cS w w'}(h:bP B γ mem w)(x:Ext B γ mem w bM cS w'):∀b Q,B.G b Q->¬B.has b/\∃o,w'.heap[b]?=aa o/\Q o:=λb Q g=>by obtain⟨i,o,c,q⟩:=h.dk b Q g;exact⟨i,o,(x.below.block b i).trans c,q⟩
def bP.VU{B γ mem w}(h:bP B γ mem w):KI B.G w:=λb Q g=>(h.dk b Q g).2
def Ext.refl B γ mem w:Ext B γ mem w γ mem w :=⟨yh.refl _ _,λ_ _ h=>h,λ_ _ h=>.inl h,λ_ _ _=>rfl,λb bx h=>⟨bx,h,b8 _,λ_=>⟨rfl,rfl,rfl⟩⟩⟩
def Ext.trans{B γ bM c mem cS a w w' d}(h:Ext B γ mem w bM cS w')(k:Ext B bM cS w' c a d) :
  Ext B γ mem w c a d where
 below:=h.below.trans k.below
 I:=λb o x=>k.I _ _ (h.I _ _ x)
 s9:=λb o x=>by
  rcases k.s9 b o x with y|y
  .exact h.s9 b o y
  .grind
 cells:=λb o x=>(k.cells _ _<|h.I _ _ x).trans (h.cells _ _ x)
 boxes:=λb bx x=>by
  obtain⟨wE,f,g,i⟩:=h.boxes b bx x;obtain⟨e,j,l,m⟩:=k.boxes b wE f
  grind
def oz.ext{B γ bM mem cS w w'}(h:Ext B γ mem w bM cS w'){b aY K c}(d:oz mem b aY K)
  (k:∀a wE,mem b=aa a->cS b=aa wE->bM.loc b=γ.loc b->wE.buf=a.buf->wE.row=a.row->K a->c wE):oz cS b aY c:=by
 obtain⟨a,f,g,l⟩:=d;obtain⟨wE,i,j,m⟩:=h.boxes b a f;refine⟨wE,i,gS g j,λe=>?_⟩
 grind
def IM.ext{w w' I I'}(c:∀b o,I b o->I' b o)(d:∀b o,I b o->w'.cell? ⟨b,o,af⟩=w.cell? ⟨b,o,af⟩){blk off cs}  (h:IM w I blk off cs):IM w' I' blk off cs :=λj v e=>by obtain⟨a,b⟩:=h j v e;exact⟨by rw[d _ _ b];exact a,c _ _ b⟩
def cK.ext{B γ bM mem cS w w'}(h:Ext B γ mem w bM cS w'):∀{v m vs},cK γ mem w v m vs->cK bM cS w' v m vs:=by intro v;induction v with|undef=>intro m vs r;cases m<;>exact r|data t x =>(intro m vs r;cases m with|cells=>exact bZ.mono h.I h.cells r|val=>(obtain⟨E,d,g⟩:=r;exact⟨E,bZ.mono h.I h.cells d,g⟩)|many=>exact r)|qq=>intro m vs r;cases m<;>exact r|vM=>intro m vs r;cases m<;>exact r|vN=>intro m vs r;cases m<;>exact r|zy b aY =>(intro m vs r;cases m with|many=>exact r|cells=>exact⟨r.1,r.2.ext h λj wE _ _ c _ _ k=>by rw[c];exact k⟩|val=>exact⟨r.1,r.2.ext h λj wE _ _ c _ _ k=>by rw[c];exact k⟩)|cell t x =>(intro m vs r;cases m with|many=>exact r|cells=>(obtain⟨o,s,E,d,g,y⟩:=r;exact⟨o,s,E,d,bZ.mono h.I h.cells g,y.ext h.I h.cells⟩)|val=>obtain⟨o,s,E,d,g,y⟩:=r;exact⟨o,s,E,d,bZ.mono h.I h.cells g,y.ext h.I h.cells⟩)|ptr b aY p =>(intro m vs r;cases m with|many=>exact r|cells=>exact⟨r.1,r.2.ext h λj wE _ _ c _ _ k=>by rw[c];exact k⟩|val=>exact⟨r.1,r.2.ext h λj wE _ _ c _ _ k=>by rw[c];exact k⟩)|whole b aY =>(intro m vs r;cases m with|many=>exact r|cells=>exact⟨r.1,r.2.ext h λj wE _ _ c z A k=>by rw[c,z,A];exact k⟩|val=>exact⟨r.1,r.2.ext h λj wE _ _ c z A k=>by rw[c,z,A];exact k⟩)|part b aY lo n =>(intro m vs r;cases m with|many=>exact r|cells=>exact⟨r.1,r.2.ext h λj wE _ _ c z A k=>by unfold IL at k⊢;rw[c,z,A];exact k⟩|val=>exact⟨r.1,r.2.ext h λj wE _ _ c z A k=>by unfold IL at k⊢;rw[c,z,A];exact k⟩)|win b aY q e k lo n =>(intro m vs r;cases m with|many=>exact r|cells=>exact⟨r.1,r.2.ext h λj wE _ _ c _ _ k=>by rw[c];exact k⟩|val=>exact⟨r.1,r.2.ext h λj wE _ _ c _ _ k=>by rw[c];exact k⟩)|fn f K =>(intro m vs r;cases m with|many=>exact r|cells=>(obtain⟨l,d,g,y⟩:=r;exact⟨l,d,g,λi b aY J=>(y i b aY J).ext h λj wE _ _ c _ _ k=>by rw[c];exact k⟩)|val=>obtain⟨l,d,g,y⟩:=r;exact⟨l,d,g,λi b aY J=>(y i b aY J).ext h λj wE _ _ c _ _ k=>by rw[c];exact k⟩)|mix a b C D =>(intro m vs r;cases m with|cells=>(obtain⟨F,G,H,d,g⟩:=r;exact⟨F,G,H,C d,D g⟩)|val=>(obtain⟨F,G,H,d,g⟩:=r;exact⟨F,G,H,C d,D g⟩)|many=>obtain⟨F,G,H,d,g⟩:=r;exact⟨F,G,H,C d,D g⟩)|D0 u L =>(intro m vs r;cases m with|val=>(obtain⟨l,d,g⟩:=r;exact⟨l,d,L g⟩)|cells=>exact r|many=>exact r)|nl=>intro m vs r;cases m<;>exact r
end Go.Ge
