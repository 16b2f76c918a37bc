/- A ghost interpreter of the model's code, and that it tells the truth: part 1. It says of a function of plain data what a call of it comes to. -/
import Derived.WalkKit
set_option linter.unusedVariables false
set_option linter.unusedSectionVars false
set_option linter.unusedSimpArgs false
abbrev au:=@Option.some.inj
abbrev cB:=@Nat.eq_of_beq_eq_true
abbrev bY:=@Bool.and_eq_true
abbrev bM:=@Prod.mk.inj
abbrev qc:=@List.mem_append_right
abbrev sC:=@List.getElem?_eq_getElem
abbrev sD:=@List.head_eq_of_cons_eq
abbrev oL:=@List.length_append
abbrev oh:=@Bool.not_eq_true'
abbrev rB:=@List.mem_append_left
abbrev bZ:=@cond_true
abbrev gb:=@List.length_take
abbrev dB:=@Nat.le_refl
abbrev jf:=@Nat.mul_le_mul_right
abbrev jT:=@List.mem_cons_of_mem
abbrev jw:=@List.getElem?_take
abbrev ez:=@cond_false
abbrev jx:=@Option.some.injEq
abbrev jU:=@List.mem_cons_self
abbrev kK:=@List.append_assoc
abbrev gK:=@Nat.le_trans
abbrev kL:=@List.length_drop
abbrev nk:=@List.getElem?_drop
abbrev jH:=@List.map_cons
abbrev cY:=@if_neg
abbrev mD:=@List.drop_drop
abbrev oM:=@List.length_cons
abbrev lu:=@Nat.zero_add
abbrev tq:=@Nat.le_of_ble_eq_true
abbrev qe:=@Nat.lt_of_lt_of_le
abbrev lO:=@Nat.zero_le
abbrev pG:=@List.drop_left
abbrev qf:=@Option.map_some
abbrev wE:=@List.take_append_drop
abbrev qg:=@List.map_append
abbrev mE:=@Nat.add_mul
abbrev gd:=@if_pos
abbrev nx:=@Nat.succ_mul
abbrev wF:=@Bool.or_eq_false_iff
abbrev yj:=@List.take_of_length_le
abbrev iE:=@if_true
abbrev rD:=@Nat.min_eq_left
abbrev tr:=@List.all_eq_true
abbrev Bx:=@Array.getD_eq_getD_getElem?
abbrev Bz:=@List.getD_eq_getElem?_getD
abbrev pH:=@Nat.add_zero
abbrev wG:=@decide_eq_true_eq
abbrev wH:=@List.getElem?_map
abbrev rE:=@Nat.add_assoc
abbrev uz:=@Bool.or_eq_true
abbrev rF:=@Nat.lt_or_ge
abbrev wI:=@List.append_nil
abbrev wJ:=@List.length_nil
abbrev Fb:=@List.drop_append_of_le_length
abbrev Fc:=@List.eq_nil_of_length_eq_zero
abbrev BA:=@List.mem_of_getElem?
abbrev zO:=@List.ext_getElem?
abbrev BB:=@List.map_congr_left
abbrev zP:=@List.cons_append
abbrev zQ:=@Option.bind_some
abbrev DO:=@Classical.choose_spec
abbrev BC:=@Bool.false_eq_true
abbrev DP:=@List.getElem?_eq_none
abbrev zR:=@List.nil_append
abbrev zS:=@List.mem_append
abbrev BD:=@of_decide_eq_true
abbrev BE:=@Int.toNat_natCast
abbrev Fe:=@List.drop_of_length_le
abbrev Ff:=@Array.getElem?_eq_none
abbrev HL:=@List.take_length_add_append
abbrev yl:=@Nat.beq_refl
abbrev ym:=@Nat.le_of_eq
abbrev Fg:=@Array.getElem?_modify
abbrev zT:=@Prod.mk.injEq
abbrev rG:=@if_false
abbrev zU:=@List.mem_cons
abbrev wK:=@Nat.mod_lt
abbrev HM:=@List.getElem?_append_left
abbrev HN:=@List.filterMap_cons_some
abbrev Fh:=@Array.length_toList
abbrev Fi:=@Array.toList_append
abbrev DQ:=@List.cons.injEq
abbrev DR:=@List.drop_left'
abbrev DS:=@List.nodup_cons
abbrev DT:=@List.length_map
abbrev JU:=@List.take_append_of_le_length
abbrev JV:=@Array.getElem?_setIfInBounds
abbrev DU:=@List.drop_zero
abbrev DV:=@List.take_left
abbrev Fj:=@Array.toList_map
abbrev DW:=@Bool.false_or
abbrev BF:=@Nat.mul_one
abbrev BG:=@decide_true
abbrev HO:=@List.getElem_of_mem
abbrev HP:=@List.getElem?_range
abbrev Fk:=@List.take_left'
abbrev HQ:=@Nat.eq_zero_or_pos
abbrev Fl:=@List.take_zero
abbrev Fm:=@List.take_take
abbrev JW:=@List.getElem?_replicate
abbrev Fo:=@List.getElem?_cons_zero
abbrev Fq:=@List.getElem?_cons_succ
abbrev Fs:=@decide_eq_false_iff_not
abbrev Db:=@List.getElem?_set
abbrev Dc:=@Nat.lt_of_not_le
abbrev Dd:=@List.take_length
abbrev De:=@Nat.lt_succ_self
abbrev Ft:=@Array.getElem?_toList
abbrev Fu:=@BitVec.eq_of_toNat_eq
abbrev Fv:=@List.length_singleton
abbrev zV:=@Nat.zero_mul
abbrev Fw:=@List.getElem?_append
abbrev zW:=@List.map_map
abbrev Df:=@decide_eq_false
abbrev Fx:=@Int.toNat_of_nonneg
abbrev Dg:=@List.drop_take
abbrev uA:=@and_self
abbrev Dh:=@List.mapM_cons
abbrev Fy:=@List.filterMap_map
abbrev Ji:=@Array.toList_setIfInBounds
abbrev Jj:=@List.getElem?_append_right
abbrev Fz:=@List.size_toArray
abbrev FA:=@Array.size_append
abbrev zX:=@Array.ext'
abbrev Jk:=@List.sublist_append_right
abbrev uB:=@Ne.symm
abbrev Di:=@Nat.add_comm
abbrev Jl:=@List.sublist_append_left
abbrev Jm:=@List.filterMap_cons_none
abbrev Dj:=@decide_false
abbrev Jn:=@Array.setIfInBounds_comm
abbrev Jo:=@Bool.eq_false_or_eq_true
abbrev FB:=@Nat.div_add_mod
abbrev Dk:=@Int.le_refl
abbrev Jp:=@Nat.div_lt_iff_lt_mul
abbrev Jq:=@Bool.and_eq_false_iff
abbrev Jr:=@List.filterMap_append
abbrev Js:=@List.getElem?_toArray
abbrev Jt:=@Array.mem_of_getElem?
abbrev FC:=@decide_eq_true
abbrev FD:=@Bool.or_false
abbrev FE:=@List.map_take
abbrev FF:=@Bool.or_assoc
abbrev FG:=@List.cons.inj
abbrev FH:=@Nat.le_of_lt
abbrev FI:=@Nat.ne_of_gt
noncomputable section
namespace Go.Ge
inductive Ty where
 | int (k:IntKind)|bool|str|slice (e:Ty)|arr (n:Nat) (e:Ty)|pair (a b:Ty)|unit
 | alt (u:Nat) (a r:Ty)|oN
def Ty.den:Ty→Type
 | .int _=>Int
 | .bool=>Bool
 | .str=>List UInt8
 | .slice e=>List e.den
 | .arr _ e=>List e.den
 | .pair a b=>a.den×b.den
 | .unit=>Unit
 | .alt _ a r=>a.den⊕r.den
 | .oN=>Unit
def mW:IntKind→Nat
 | .i8=>0|.i16=>1|.i32=>2|.i64=>3|.u8=>4|.u16=>5|.u32=>6|.u64=>7
theorem lP{a b:IntKind}(h:Nat.beq (mW a) (mW b)=true):a=b:=by
 cases a<;>cases b<;>first|rfl|(exact absurd h (by decide))
def Ty.beq:Ty→Ty→Bool
 | .int k,.int k'=>Nat.beq (mW k) (mW k')
 | .bool,.bool=>true
 | .str,.str=>true
 | .slice e,.slice f=>Ty.beq e f
 | .arr n e,.arr m f=>Nat.beq n m&&Ty.beq e f
 | .pair a b,.pair c d=>Ty.beq a c&&Ty.beq b d
 | .unit,.unit=>true
 | .alt u a r,.alt v b s=>Nat.beq u v&&(Ty.beq a b&&Ty.beq r s)
 | .oN,.oN=>true
 | _,_=>false
theorem Ty.eq_of_beq:∀{a b:Ty},Ty.beq a b=true→a=b:=by
 intro a;induction a with
 | int k=>intro b h;cases b<;>first|(exact congrArg _ (lP h))|(cases h)
 | bool=>intro b h;cases b<;>first|rfl|(cases h)
 | str=>intro b h;cases b<;>first|rfl|(cases h)
 | slice e ih=>intro b h;cases b<;>first|(exact congrArg _ (ih h))|(cases h)
 | arr n e ih =>
   intro b h;cases b<;>first|(cases h;done)|skip
   simp only[Ty.beq,bY] at h;rw[cB h.1,ih h.2]
 | pair a b eH fF =>
   intro c h;cases c<;>first|(cases h;done)|skip
   simp only[Ty.beq,bY] at h;rw[eH h.1,fF h.2]
 | unit=>intro b h;cases b<;>first|rfl|(cases h)
 | alt u a r eH ihr =>
   intro c h;cases c<;>first|(cases h;done)|skip
   simp only[Ty.beq,bY] at h;rw[cB h.1,eH h.2.1,ihr h.2.2]
 | oN=>intro b h;cases b<;>first|rfl|(cases h)
def Ty.to(t u:Ty)(x:t.den):Option u.den :=
 if h:Ty.beq t u=true then some ((Ty.eq_of_beq h)▸x) else none
theorem Ty.beq_refl(t:Ty):Ty.beq t t=true:=by
 induction t with
 | int k=>cases k<;>rfl
 | bool=>rfl
 | str=>rfl
 | slice e ih=>exact ih
 | arr n e ih=>simp[Ty.beq,ih]
 | pair a b eH fF=>simp[Ty.beq,eH,fF]
 | unit=>rfl
 | alt u a r eH ihr=>simp[Ty.beq,eH,ihr]
 | oN=>rfl
theorem Ty.eY{t u:Ty}{x:t.den}{y:u.den}(h:Ty.to t u x=some y):∃e:t=u,y=e▸x:=by
 unfold Ty.to at h;split at h
 ·rename_i hb;exact⟨Ty.eq_of_beq hb,by simpa using h.symm⟩
 ·cases h
def toL(t u:Ty)(l:List t.den):Option (List u.den) :=
 if h:Ty.beq t u=true then some ((Ty.eq_of_beq h)▸l) else none
theorem eK{t u:Ty}{l:List t.den}{m:List u.den}(h:toL t u l=some m):∃e:t=u,m=e▸l:=by
 unfold toL at h;split at h
 ·rename_i hb;exact⟨Ty.eq_of_beq hb,by simpa using h.symm⟩
 ·cases h
def Ty.size:Ty→Nat
 | .int _|.bool|.str|.slice _=>1
 | .arr n e=>n*e.size
 | .pair a b=>a.size+b.size
 | .unit=>0
 | .alt _ _ r=>r.size
 | .oN=>1
def Ty.isAgg:Ty→Bool
 | .arr ..|.pair ..|.unit=>true
 | .alt _ _ r=>r.isAgg
 | _=>false
def Ty.zero:(t:Ty)→t.den
 | .int _=>(0:Int)
 | .bool=>false
 | .str=>([]:List UInt8)
 | .slice _=>[]
 | .arr n e=>List.replicate n e.zero
 | .pair a b=>(a.zero,b.zero)
 | .unit=>()
 | .alt _ _ r=>.inr r.zero
 | .oN=>()
def br{α:Type}(c:Bool)(x y:α):α:=bif c then x else y
def aj{α β:Type}(o:Option α)(f:α→Option β):Option β:=o.bind f
def nt(b:Bool):Bool:=!b
def an(a b:Bool):Bool:=a&&b
def LR(a b:Bool):Bool:=a||b
def iG(a b:Int):Bool:=decide (a=b)
def Ju(a b:Nat):Bool:=Nat.beq a b
def iH(a b:Int):Bool:=decide (a<b)
def DX(a b:Int):Bool:=decide (a≤b)
def qd(a b:List UInt8):Bool:=decide (a=b)
def Jv(a b:List UInt8):Bool:=Op.bytesLess a b
def Nh(a b:List Int):Bool:=decide (a=b)
def JX(a b:Bool):Bool:=a==b
def iK{S:Type}(o:Option (S⊕(Nat×S))):Option (S⊕S):=o.map fun r=>match r with|.inl x=>.inl x|.inr y=>.inr y.2
def bw(k:IntKind)(a b:Int):Int:=k.wrap (a+b)
def eG(k:IntKind)(a b:Int):Int:=k.wrap (a-b)
def gz(k:IntKind)(a b:Int):Int:=k.wrap (a*b)
def tu(k:IntKind)(a b:Int):Int:=k.wrap (a.tdiv b)
def gf(a b:Int):Int:=a.tmod b
def jv(k:IntKind)(a:Int):Int:=k.wrap a
def ff(k:IntKind)(x y:Int):Int:=k.wrap (BitVec.ofInt k.bits x &&& BitVec.ofInt k.bits y).toNat
def lQ(k:IntKind)(x y:Int):Int:=k.wrap (BitVec.ofInt k.bits x ||| BitVec.ofInt k.bits y).toNat
def cL(k:IntKind)(x y:Int):Int:=k.wrap (BitVec.ofInt k.bits x ^^^ BitVec.ofInt k.bits y).toNat
def Jw(k:IntKind)(x y:Int):Int:=k.wrap (BitVec.ofInt k.bits x &&& ~~~BitVec.ofInt k.bits y).toNat
def JY(a b:Int):Int:=bif decide (b<a) then b else a
def imax(a b:Int):Int:=bif decide (a<b) then b else a
def fI(k:IntKind)(a b:Int):Int:=k.wrap (a*2 ^ (min b.toNat k.bits))
def kM(k:IntKind)(a b:Int):Int:=a.fdiv (2 ^ (min b.toNat k.bits))
def plus(a b:Int):Int:=a+b
def minus(a b:Int):Int:=a-b
def len{α:Type}(l:List α):Int:=l.length
def app{α:Type}(l m:List α):List α:=l++m
def one{α:Type}(x:α):List α:=[x]
def idx{α:Type}(l:List α)(i:Int):Option α:=if 0≤i then l[i.toNat]? else none
def mF{α:Type}(l:List α)(i:Int)(x:α):List α:=l.set i.toNat x
def yo{α:Type}(n:Int)(x:α):List α:=List.replicate n.toNat x
def sub{α:Type}(l:List α)(lo n:Int):List α:=(l.drop lo.toNat).take n.toNat
def fG{α:Type}(l:List α)(n:Int):List α:=l.take n.toNat
def over{α:Type}(l:List α)(lo:Int)(c:List α):List α:=l.take lo.toNat++c++l.drop (lo.toNat+c.length)
def pick{α β γ:Type}(f:α→γ)(g:β→γ)(x:α⊕β):γ:=match x with|.inl a=>f a|.inr b=>g b
def u8(b:UInt8):Int:=(b.toNat:Int)
def ah(s:List UInt8):List Int:=s.map fun b=>(b.toNat:Int)
def aB(l:List Int):List UInt8:=l.map fun n=>UInt8.ofNat n.toNat
def fits(n:Int):Bool:=decide (n≤4294967296)
def inside(a b n:Int):Bool:=decide (0≤a)&&decide (a≤b)&&decide (b≤n)
def within(i n:Int):Bool:=decide (0≤i)&&decide (i<n)
inductive Tree (α:Type):Type 1 where
 | ret (a:α)
 | fail
 | node (c:Bool) (t e:Tree α)
 | look {T:Type} (o:Option T) (k:T→Tree α)
namespace Tree
def bind{α β:Type}:Tree α→(α→Tree β)→Tree β
 | .ret a,f=>f a
 | .fail,_=>.fail
 | .node c t e,f=>.node c (t.bind f) (e.bind f)
 | .look o k,f=>.look o fun x=>(k x).bind f
def run{α:Type}:Tree α→Option α
 | .ret a=>some a
 | .fail=>none
 | .node c t e=>br c t.run e.run
 | .look o k=>aj o fun x=>(k x).run
def join{T β:Type}(t:Tree T)(k:T→Tree β):Tree β :=
 match t with
 | .ret x=>k x
 | .node c (.ret x) (.ret y)=>k (br c x y)
 | t=>.look t.run k
def need{α:Type}(c:Bool)(t:Tree α):Tree α:=.node c t .fail
def FJ{α:Type}:Option α→Tree α
 | some a=>.ret a
 | none=>.fail
end Tree
inductive pI where
 | yp (k off:Nat)
 | idx (i:Int) (size:Nat)
inductive av where
 | undef
 | data (t:Ty) (x:t.den)
 | gA
 | iL
 | jg
 | kS (b ag:Nat)
 | cell (t:Ty) (x:t.den)
 | ptr (b ag:Nat) (p:List pI)
 | whole (b ag:Nat)
 | part (b ag:Nat) (lo n:Int)
 | win (b ag:Nat) (q:List pI) (e:Ty) (k:Nat) (lo n:Int)
 | fn (f:Nat) (caps:List (Nat×Nat))
 | mix (a b:av)
 | kN (vs:av)
 | nl
structure aI where
 val:av
 tid:TypeId
 buf:Bool
 ro:Bool
 lk:Bool
 ag:Nat
structure St where
 slots:Nat→av
 mem:Nat→Option aI
structure kJ where
 A:Ty
 R:Ty
 spec:A.den→Option R.den
inductive OT where
 | dat (t:Ty)
 | buf (e:Ty) (bN:Nat)
 | ref (tid:Nat) (o:OT)
 | pair (a b:OT)
 | unit
def OT.den:OT→Type
 | .dat t=>t.den
 | .buf e _=>List e.den
 | .ref _ o=>o.den
 | .pair a b=>a.den×b.den
 | .unit=>Unit
def OT.nr:OT→Nat
 | .ref _ o=>o.nr+1
 | .pair a b=>a.nr+b.nr
 | _=>0
def OT.nb:OT→Nat
 | .buf ..=>1
 | .ref _ o=>o.nb
 | .pair a b=>a.nb+b.nb
 | _=>0
structure pJ where
 ps:List Bool
 A:Ty
 U:OT
 R:Ty
 spec:A.den×U.den→Option (R.den×U.den)
inductive gr where
 | dat (t:Ty)
 | buf (e:Ty) (bN:Nat)
 | one
 | self
inductive EZ where
 | FK (T:Nat)
 | str (T E:Nat)
 | clone (e:Ty)
 | own (e A:Ty) (res:Bool) (spec:List e.den→A.den→Option (List e.den))
structure Ctx where
 T:List (Nat×Ty)
 jy:List Nat
 cO:List Nat
 fns:List (Nat×Func)
 gX:List (Nat×kJ)
 cI:List (Nat×pJ)
 jV:List (Nat×List gr)
 zY:List (Nat×EZ)
 els:List (Nat×Nat)
 inv:List (String×kJ)
def zZ{α:Type}:List (String×α)→String→Option α
 | [],_=>none
 | (i,a)::r,k=>bif decide (i=k) then some a else zZ r k
def find{α:Type}:List (Nat×α)→Nat→Option α
 | [],_=>none
 | (i,a)::r,k=>bif Nat.beq i k then some a else find r k
def St.put(σ:St)(d:Nat)(v:av):St:={ σ with slots:=fun t=>bif Nat.beq t d then v else σ.slots t }
def St.aA(σ:St)(d:Option Nat)(v:av):St:=match d with|some d=>σ.put d v|none=>σ
def St.aW(σ:St)(b:Nat)(x:aI):St:={ σ with mem:=fun i=>bif Nat.beq i b then some x else σ.mem i }
def St.ay{β:Type}(σ:St)(b:Nat)(val:av)(tid:TypeId)(buf:Bool)(k:Nat→St→Tree β):Tree β :=
 match σ.mem b with
 | some bx=>bif bx.lk then .fail else k (bx.ag+1) (σ.aW b { val,tid,buf,ro:=false,lk:=false,ag:=bx.ag+1 })
 | none=>k 0 (σ.aW b { val,tid,buf,ro:=false,lk:=false,ag:=0 })
def bC:List Nat→Nat→Bool
 | [],_=>false
 | i::r,t=>Nat.beq t i||bC r t
def uC:Value→av
 | .int k n=>bif decide (k.min≤n)&&decide (n≤k.max) then .data (.int k) n else .undef
 | .bool b=>.data .bool b
 | .string s=>bif Nat.ble s.data.toList.length 4294967296 then .data .str s.data.toList else .undef
 | .pointer none=>.iL
 | .nilIface=>.jg
 | .slice none 0 0=>.gA
 | _=>.undef
def aZ(σ:St):Operand→av
 | .tmp t=>σ.slots t
 | .const v=>uC v
 | .func f=>.fn f []
 | .global _=>.undef
def eA:Ty→Nat→Option Nat
 | .pair _ _,0=>some 0
 | .pair a b,k+1=>(eA b k).map (a.size+·)
 | _,_=>none
def bA:av→Nat
 | .data t _=>t.size
 | .mix a b=>bA a+bA b
 | .nl=>0
 | _=>1
def gL:(t:Ty)→t.den→Nat→Option (Nat×av)
 | .pair a _,x,0=>some (0,.data a x.1)
 | .pair a b,x,k+1=>match gL b x.2 k with|some r=>some (a.size+r.1,r.2)|none=>none
 | _,_,_=>none
def fK:av→Nat→Option (Nat×av)
 | .data t x,k=>gL t x k
 | .mix a _,0=>some (0,a)
 | .mix a b,k+1=>match fK b k with|some r=>some (bA a+r.1,r.2)|none=>none
 | _,_=>none
def DY(t:Ty):av→Option t.den
 | .data u x=>Ty.to u t x
 | .gA=>match t with|.slice _=>some []|_=>none
 | _=>none
def toS(t:Ty):av→Option t.den
 | .data u x=>Ty.to u t x
 | _=>none
def tZ:(t:Ty)→t.den→Nat→(av→Tree av)→Tree t.den
 | .pair a b,x,0,f=>(f (.data a x.1)).bind fun v=>match toS a v with
   | some y=>.ret (y,x.2)
   | none=>.fail
 | .pair a b,x,k+1,f=>(tZ b x.2 k f).bind fun y=>.ret (x.1,y)
 | _,_,_,_=>.fail
def rH:av→Nat→(av→Tree av)→Tree av
 | .data t x,k,f=>(tZ t x k f).bind fun y=>.ret (.data t y)
 | .mix a b,0,f=>(f a).bind fun v=>.ret (.mix v b)
 | .mix a b,k+1,f=>(rH b k f).bind fun v=>.ret (.mix a v)
 | _,_,_=>.fail
def DZ:List pI→av→Tree av
 | [],v=>.ret v
 | .yp k off::p,v=>match fK v k with
   | some (o,u)=>bif Nat.beq o off then DZ p u else .fail
   | none=>.fail
 | .idx i size::p,v=>match v with
   | .data (.arr _ e) l=>bif Nat.beq size e.size then .look (idx (α:=e.den) l i) fun x=>DZ p (.data e x) else .fail
   | _=>.fail
def D0(buf:Bool)(p:List pI)(v:av):Tree av :=
 match buf with
 | false=>DZ p v
 | true=>match p,v with
   | .idx i size::p,.data (.slice e) l=>bif Nat.beq size e.size then .look (idx (α:=e.den) l i) fun x=>DZ p (.data e x) else .fail
   | _,_=>.fail
def lz:List pI→av→av→Tree av
 | [],_,u=>.ret u
 | .yp k off::p,v,u=>rH v k fun w=>lz p w u
 | .idx i size::p,v,u=>match v with
   | .data (.arr n e) l=>.look (idx (α:=e.den) l i) fun x=>(lz p (.data e x) u).bind fun w=>match toS e w with
     | some y=>.ret (.data (.arr n e) (mF (α:=e.den) l i y))
     | none=>.fail
   | _=>.fail
def ua(buf:Bool)(p:List pI)(v u:av):Tree av :=
 match buf with
 | false=>lz p v u
 | true=>match p,v with
   | .idx i size::p,.data (.slice e) l=>.look (idx (α:=e.den) l i) fun x=>(lz p (.data e x) u).bind fun w=>match toS e w with
     | some y=>.ret (.data (.slice e) (mF (α:=e.den) l i y))
     | none=>.fail
   | _,_=>.fail
namespace Tree
theorem run_bind{α β:Type}(t:Tree α)(f:α→Tree β):(t.bind f).run=t.run.bind fun a=>(f a).run:=by
 induction t with
 | ret a=>rfl
 | fail=>rfl
 | node c t e BH N0=>cases c<;>simp[bind,run,BH,N0,br]
 | look o k ih=>cases o<;>simp[bind,run,ih,aj]
theorem ny{T β:Type}(t:Tree T)(k:T→Tree β):(t.join k).run=t.run.bind fun a=>(k a).run:=by
 unfold join;split
 ·rfl
 ·rename_i c x y;cases c<;>rfl
 ·rfl
end Tree
end Go.Ge
namespace Go.Ge
def jW:Ty→Nat→Option Ty
 | .pair a _,0=>some a
 | .pair _ b,k+1=>jW b k
 | _,_=>none
def Ty.flat:Ty→Bool
 | .slice _=>false
 | .arr _ e=>e.flat
 | .pair a b=>a.flat&&b.flat
 | .alt _ a r=>a.flat&&r.flat
 | _=>true
def aI.row(bx:aI):Option (Ty×Nat) :=
 match bx.buf,bx.val with
 | true,.data (.slice e) l=>some (e,List.length (α:=e.den) l)
 | false,.data (.arr n e) _=>some (e,n)
 | _,_=>none
def cV(e:Ty)(σ:St):av→Option (List e.den)
 | .data (.slice u) l=>toL u e l
 | .gA=>some []
 | .whole b ag=>match σ.mem b with
   | some bx=>bif Nat.beq bx.ag ag&&bx.buf then(match bx.val with|.data (.slice u) l=>toL u e l|_=>none) else none
   | none=>none
 | .part b ag lo n=>match σ.mem b with
   | some bx=>bif Nat.beq bx.ag ag then(match bx.buf,bx.val with
     | true,.data (.slice u) l=>toL u e (sub (α:=u.den) l lo n)
     | false,.data (.arr _ u) l=>toL u e (sub (α:=u.den) l lo n)
     | _,_=>none) else none
   | none=>none
 | _=>none
def live(σ:St)(b ag:Nat):Bool:=match σ.mem b with|some bx=>Nat.beq bx.ag ag|none=>false
def iF(σ:St):(t:Ty)→av→Option t.den
 | .slice e,v=>(cV e σ v:Option (List e.den))
 | .pair a b,v=>match v with
   | .data u x=>Ty.to u (.pair a b) x
   | .mix p q=>(match iF σ a p,iF σ b q with
     | some x,some y=>some (x,y)
     | _,_=>none)
   | _=>none
 | .alt n a r,v=>match v with
   | .data u x=>Ty.to u (.alt n a r) x
   | .jg=>match iF σ r .jg with
     | some x=>some (.inr x)
     | none=>none
   | _=>none
 | .oN,v=>match v with
   | .data u x=>Ty.to u .oN x
   | .jg=>some ()
   | _=>none
 | t,v=>match v with
   | .data u x=>Ty.to u t x
   | _=>none
def freeze(σ:St)(b:Nat):Option St :=
 match σ.mem b with
 | some bx=>bif bx.ro then some σ else bif bx.lk then none else some (σ.aW b { bx with ro:=true })
 | none=>none
def dm(σ:St):av→Option St
 | .whole b _=>freeze σ b
 | .part b _ _ _=>freeze σ b
 | .mix v w=>match dm σ v with
   | some σ=>dm σ w
   | none=>none
 | _=>some σ
def lR(σ:St)(t:Ty)(v:av):Option (t.den×St) :=
 match v with
 | .data u x=>match Ty.to u t x with|some y=>some (y,σ)|none=>none
 | v=>match iF σ t v,dm σ v with
   | some x,some σ=>some (x,σ)
   | _,_=>none
def eI(σ:St):(A:Ty)→List av→Option A.den
 | .unit,[]=>some ()
 | .pair t r,v::vs=>match iF σ t v,eI σ r vs with
   | some x,some y=>some (x,y)
   | _,_=>none
 | _,_=>none
def eZ(σ:St):(A:Ty)→List av→Option (A.den×St)
 | .unit,[]=>some ((),σ)
 | .pair t r,v::vs=>match lR σ t v with
   | some (x,σ)=>match eZ σ r vs with
     | some (y,σ)=>some ((x,y),σ)
     | none=>none
   | none=>none
 | _,_=>none
def nA:(R:Ty)→R.den→av
 | .pair t r,x=>.mix (.data t x.1) (nA r x.2)
 | _,_=>.nl
def jX(R:Ty)(x:R.den):av :=
 match R,x with
 | .pair t .unit,x=>.data t x.1
 | R,x=>.kN (nA R x)
def nth:av→Nat→Option av
 | .mix a _,0=>some a
 | .mix _ b,k+1=>nth b k
 | _,_=>none
def bitsOf(op:BinOp)(k:IntKind)(x y:Int):Option Int :=
 match op with
 | .and=>some (ff k x y)
 | .or=>some (lQ k x y)
 | .xor=>some (cL k x y)
 | .andNot=>some (Jw k x y)
 | _=>none
def Ty.eqv:(t:Ty)→t.den→t.den→Option Bool
 | .int _,x,y=>some (iG x y)
 | .bool,x,y=>some (JX x y)
 | .str,x,y=>some (qd x y)
 | .pair a b,x,y=>match Ty.eqv a x.1 y.1,Ty.eqv b x.2 y.2 with
   | some p,some q=>some (an p q)
   | _,_=>none
 | .unit,_,_=>some true
 | .arr _ e,x,y=>match e,x,y with
   | .int _,x,y=>some (Nh x y)
   | _,_,_=>none
 | _,_,_=>none
def Ty.qh:Ty→Nat
 | .pair a b=>a.qh+b.qh+1
 | .arr _ e=>e.qh+1
 | _=>1
def BI(op:BinOp)(k:IntKind)(a b:Int):Tree av :=
 match op with
 | .add=>.ret (.data (.int k) (bw k a b))
 | .sub=>.ret (.data (.int k) (eG k a b))
 | .mul=>.ret (.data (.int k) (gz k a b))
 | .quo=>.node (iG b 0) .fail (.ret (.data (.int k) (tu k a b)))
 | .rem=>.node (iG b 0) .fail (.ret (.data (.int k) (gf a b)))
 | .eql=>.ret (.data .bool (iG a b))
 | .neq=>.ret (.data .bool (nt (iG a b)))
 | .lss=>.ret (.data .bool (iH a b))
 | .leq=>.ret (.data .bool (DX a b))
 | .gtr=>.ret (.data .bool (iH b a))
 | .geq=>.ret (.data .bool (DX b a))
 | op=>match bitsOf op k a b with
   | some c=>.ret (.data (.int k) c)
   | none=>.fail
def BJ(op:BinOp)(x y:List UInt8):Tree av :=
 match op with
 | .add=>.need (fits (plus (len x) (len y))) (.ret (.data .str (app x y)))
 | .eql=>.ret (.data .bool (qd x y))
 | .neq=>.ret (.data .bool (nt (qd x y)))
 | .lss=>.ret (.data .bool (Jv x y))
 | .leq=>.ret (.data .bool (LR (Jv x y) (qd x y)))
 | .gtr=>.ret (.data .bool (nt (LR (Jv x y) (qd x y))))
 | .geq=>.ret (.data .bool (nt (Jv x y)))
 | _=>.fail
def isEq:BinOp→Option Bool
 | .eql=>some true
 | .neq=>some false
 | _=>none
def qi:BinOp→Option Bool
 | .shl=>some true
 | .shr=>some false
 | _=>none
def rI(o:Option Ty)(t:Ty):Bool:=match o with|some u=>Ty.beq u t|none=>false
def bin(tt:Option Ty)(pt:Bool)(op:BinOp)(x y:av):Tree av :=
 match x,y with
 | .data (.int k) a,.data (.int k') b =>
   match qi op with
   | some left=>.node (iH b 0) .fail (.ret (.data (.int k) (bif left then fI k a b else kM k a b)))
   | none=>bif Nat.beq (mW k) (mW k') then BI op k a b else .fail
 | .data .str a,.data .str b=>BJ op a b
 | .data .bool a,.data .bool b=>bif rI tt .bool then(match isEq op with
   | some true=>.ret (.data .bool (JX a b))
   | some false=>.ret (.data .bool (nt (JX a b)))
   | none=>.fail) else .fail
 | .data (.pair a b) x,.data t y=>bif rI tt (.pair a b)&&Nat.ble (Ty.pair a b).qh 9000 then(match Ty.to t (.pair a b) y,isEq op with
   | some y,some e=>match Ty.eqv (.pair a b) x y with
     | some c=>.ret (.data .bool (bif e then c else nt c))
     | none=>.fail
   | _,_=>.fail) else .fail
 | .data (.arr n e) x,.data t y=>bif rI tt (.arr n e)&&Nat.ble (Ty.arr n e).qh 9000 then(match Ty.to t (.arr n e) y,isEq op with
   | some y,some q=>match Ty.eqv (.arr n e) x y with
     | some c=>.ret (.data .bool (bif q then c else nt c))
     | none=>.fail
   | _,_=>.fail) else .fail
 | .iL,.iL=>match pt,isEq op with|true,some e=>.ret (.data .bool e)|_,_=>.fail
 | _,_=>.fail
def FL(σ:St)(tt:Option Ty)(pt:Bool)(op:BinOp)(x y:av):Tree av :=
 match x,y with
 | .ptr b ag _,.iL=>bif live σ b ag&&pt then(match isEq op with|some e=>.ret (.data .bool (!e))|none=>.fail) else .fail
 | .iL,.ptr b ag _=>bif live σ b ag&&pt then(match isEq op with|some e=>.ret (.data .bool (!e))|none=>.fail) else .fail
 | x,y=>bin tt pt op x y
def yq(least:Bool)(x y:av):Tree av :=
 match x,y with
 | .data (.int k) a,.data (.int k') b=>bif Nat.beq (mW k) (mW k') then .ret (.data (.int k) (bif least then JY a b else imax a b)) else .fail
 | _,_=>.fail
def un(op:UnOp)(x:av):Tree av :=
 match op,x with
 | .not,.data .bool b=>.ret (.data .bool (nt b))
 | .neg,.data (.int k) n=>.ret (.data (.int k) (eG k 0 n))
 | .xor,.data (.int k) n=>.ret (.data (.int k) (cL k (bif k.signed then -1 else k.max) n))
 | _,_=>.fail
def uD:(t:Ty)→t.den→Nat→(u:Ty)→u.den→Option t.den
 | .pair a b,x,0,u,y=>match Ty.to u a y with|some y=>some (y,x.2)|none=>none
 | .pair a b,x,k+1,u,y=>match uD b x.2 k u y with|some z=>some (x.1,z)|none=>none
 | _,_,_,_,_=>none
def cW(σ:St)(t:Ty)(x:t.den):List (Nat×Operand)→Option (t.den×St)
 | []=>some (x,σ)
 | (k,o)::r=>match jW t k with
   | some u=>match lR σ u (aZ σ o) with
     | some (y,σ)=>match uD t x k u y with
       | some x=>cW σ t x r
       | none=>none
     | none=>none
   | none=>none
def cR(σ:St)(e:Ty)(l:List e.den):List (Nat×Operand)→Option (List e.den×St)
 | []=>some (l,σ)
 | (k,o)::r=>match lR σ e (aZ σ o) with
   | some (y,σ)=>bif Nat.blt k l.length then cR σ e (l.set k y) r else none
   | none=>none
def lenOf(σ:St):av→Option Int
 | .data .str s=>some (len (α:=UInt8) s)
 | .data (.slice e) l=>some (len (α:=e.den) l)
 | .data (.arr n _) _=>bif Nat.ble n 4294967296 then some n else none
 | .gA=>some 0
 | .whole b ag=>match σ.mem b with
   | some bx=>bif Nat.beq bx.ag ag&&bx.buf then(match bx.val with|.data (.slice u) l=>some (len (α:=u.den) l)|_=>none) else none
   | none=>none
 | .part b ag _ n=>bif live σ b ag then some n else none
 | _=>none
def Dl(o:Option Ty):av→Bool
 | .data .str _=>rI o .str
 | .data (.slice e) _=>rI o (.slice e)
 | .data (.arr n e) _=>rI o (.arr n e)
 | .gA|.whole ..|.part ..=>match o with|some (.slice _)=>true|_=>false
 | _=>false
def bounds(σ:St)(n:Int)(lo hi:Option Operand):Option (Int×Int) :=
 match lo,hi with
 | none,none=>some (0,n)
 | some a,none=>match aZ σ a with|.data (.int _) x=>some (x,n)|_=>none
 | none,some b=>match aZ σ b with|.data (.int _) y=>some (0,y)|_=>none
 | some a,some b=>match aZ σ a,aZ σ b with|.data (.int _) x,.data (.int _) y=>some (x,y)|_,_=>none
def isRef:av→Bool
 | .ptr ..|.whole ..|.part ..|.fn ..|.iL|.jg|.kS ..|.mix ..|.cell ..|.gA=>true
 | _=>false
section
variable (cx:Ctx) (nb:Nat) (bf:List Nat) (inl:Nat→List av→St→Tree (av×St))
def eB(d:Option Nat)(ty:TypeId)(v:av)(σ:St):Tree St :=
 match v with
 | .undef=>bif bC cx.jy ty then .ret (σ.aA d .undef) else .fail
 | .gA=>match d,find cx.T ty with
   | some d,some (.slice e)=>bif bC bf d then σ.ay (nb+d) (.data (.slice e) []) 0 true fun ag σ=>.ret (σ.put d (.whole (nb+d) ag))
     else .ret (σ.put d (.data (.slice e) []))
   | _,_=>.ret (σ.aA d .gA)
 | v=>.ret (σ.aA d v)
def gB(d:Option Nat)(c a b:av)(σ:St):Tree St :=
 match c with
 | .data .bool c=>match a,b with
   | .data t x,.data u y=>match Ty.to u t y with
     | some y=>.ret (σ.aA d (.data t (br c x y)))
     | none=>.fail
   | a,b=>.node c (.ret (σ.aA d a)) (.ret (σ.aA d b))
 | _=>.fail
def FM:(t:Ty)→t.den→av
 | .pair a b,x=>.mix (.data a x.1) (FM b x.2)
 | t,x=>.data t x
def FN:av→av
 | .data t x=>FM t x
 | v=>v
def D1:Ty→av→Bool
 | .slice _,.whole ..=>true
 | t,.data u _=>Ty.beq u t
 | _,_=>false
def z6:Ty→av→Bool
 | .pair a b,.mix p q=>D1 a p&&z6 b q
 | t,.data u _=>Ty.beq u t
 | _,_=>false
def FO(u:Ty):av→Bool
 | .whole b ag=>D1 u (.whole b ag)
 | .mix p q=>z6 u (.mix p q)
 | _=>false
def FP:av→Bool
 | .data (.pair _ _) _=>true
 | .mix ..=>true
 | _=>false
def mG(ty:TypeId):av→Bool
 | .mix p q=>match find cx.T ty with|some u=>z6 u (.mix p q)|none=>false
 | _=>false
def lA(ty:TypeId):av→Bool
 | .data u _=>rI (find cx.T ty) u
 | .whole ..=>match find cx.T ty with|some (.slice _)=>true|_=>false
 | .ptr ..|.iL|.fn ..=>bC cx.jy ty
 | _=>false
def fh(d:Option Nat)(ty:TypeId)(a:av)(σ:St):Tree St :=
 match a with
 | .cell u x=>bif rI (find cx.T ty) u then .ret (σ.aA d (.data u x)) else .fail
 | .ptr b ag p=>match σ.mem b with
   | some bx=>bif Nat.beq bx.ag ag then(D0 bx.buf p bx.val).bind fun v=>bif lA cx ty v||mG cx ty v then .ret (σ.aA d v) else .fail else .fail
   | none=>.fail
 | _=>.fail
def storeAt(b ag:Nat)(p:List pI)(fit:av→Bool)(v:av)(σ:St):Tree St :=
 match σ.mem b with
 | some bx=>bif Nat.beq bx.ag ag&&!bx.lk&&!bx.ro then
    (D0 bx.buf p bx.val).bind fun old=>bif fit old then(ua bx.buf p bx.val v).bind fun c=>.ret (σ.aW b { bx with val:=c }) else .fail
   else .fail
 | none=>.fail
def iV(b ag:Nat)(p:List pI)(n:Nat)(v:av)(σ:St):Tree St :=
 match σ.mem b with
 | some bx=>bif Nat.beq bx.ag ag&&!bx.lk&&!bx.ro&&!bx.buf&&FP bx.val then
    (DZ p (FN bx.val)).bind fun old=>bif Nat.beq (bA old) n then(lz p (FN bx.val) v).bind fun c=>bif FP c then .ret (σ.aW b { bx with val:=c }) else .fail else .fail
   else .fail
 | none=>.fail
def D2(u:Ty):av→Bool
 | .data t _=>Ty.beq t u
 | _=>false
def Dm:av→Bool
 | .undef=>true
 | _=>false
def fq(ty:TypeId)(a v:av)(σ:St):Tree St :=
 match a with
 | .ptr b ag p=>match σ.mem b with
   | some bx=>bif Nat.beq bx.ag ag then(D0 bx.buf p bx.val).bind fun old=>match old with
      | .data u _=>bif rI (find cx.T ty) u then(bif bC bf 8000000&&FO u v then iV b ag p u.size v σ else match lR σ u v with
       | some (y,σ)=>storeAt b ag p (D2 u) (.data u y) σ
       | none=>.fail) else .fail
      | _=>bif lA cx ty v&&isRef v then storeAt b ag p (fun old=>(lA cx ty old&&isRef old)||Dm old) v σ else .fail
     else .fail
   | none=>.fail
 | _=>.fail
def fu(d:Option Nat)(ty:TypeId)(x:av)(lo hi:Option Operand)(σ:St):Tree St :=
 match find cx.T ty,x with
 | some .str,.data .str s=>match bounds σ (len (α:=UInt8) s) lo hi with
   | some (a,b)=>.need (inside a b (len (α:=UInt8) s)) (.ret (σ.aA d (.data .str (sub (α:=UInt8) s a (minus b a)))))
   | none=>.fail
 | some (.slice u),.data (.slice e) l=>bif Ty.beq u e then(match bounds σ (len (α:=e.den) l) lo hi with
   | some (a,b)=>.need (inside a b (len (α:=e.den) l)) (.ret (σ.aA d (.data (.slice e) (sub (α:=e.den) l a (minus b a)))))
   | none=>.fail) else .fail
 | some (.slice u),.part c ag l n=>match σ.mem c with
   | some bx=>bif Nat.beq bx.ag ag&&(match bx.row with|some (e,_)=>Ty.beq u e|none=>false) then(match bounds σ n lo hi with
     | some (a,b)=>.need (inside a b n) (.ret (σ.aA d (.part c ag (plus l a) (minus b a))))
     | none=>.fail) else .fail
   | none=>.fail
 | some (.slice u),.whole c ag=>match σ.mem c with
   | some bx=>bif Nat.beq bx.ag ag&&bx.buf then(match bx.val with
     | .data (.slice e) l=>bif Ty.beq u e then(match lo,hi with
       | none,none=>.ret (σ.aA d (.whole c ag))
       | lo,hi=>match bounds σ (len (α:=e.den) l) lo hi with
         | some (a,b)=>.need (inside a b (len (α:=e.den) l)) (.ret (σ.aA d (.part c ag a (minus b a))))
         | none=>.fail) else .fail
     | _=>.fail) else .fail
   | none=>.fail
 | some (.arr m u),.ptr c ag (s::q)=>bif live σ c ag&&Nat.ble m 4294967296 then(match bounds σ m lo hi with
   | some (a,b)=>.need (inside a b m) (.ret (σ.aA d (.win c ag (s::q) u m a (minus b a))))
   | none=>.fail) else .fail
 | some (.arr m u),.ptr c ag []=>match σ.mem c with
   | some bx=>bif Nat.beq bx.ag ag&&!bx.buf then(match bx.val with
     | .data (.arr n e) _=>bif Nat.beq m n&&Ty.beq u e&&Nat.ble n 4294967296 then(match bounds σ n lo hi with
       | some (a,b)=>.need (inside a b n) (.ret (σ.aA d (.part c ag a (minus b a))))
       | none=>.fail) else .fail
     | _=>.fail) else .fail
   | none=>.fail
 | _,_=>.fail
def mH(σ:St)(b ag:Nat):Option (Ty×Int):=match σ.mem b with
 | some bx=>bif Nat.beq bx.ag ag then(match bx.buf,bx.val with
   | true,.data (.slice e) l=>some (e,len (α:=e.den) l)
   | false,.data (.arr n e) _=>some (e,n)
   | _,_=>none) else none
 | none=>none
def xM(ty:TypeId):Option Nat :=
 match find cx.T ty with
 | some _=>none
 | none=>match find cx.els ty with
   | some e=>bif bC cx.jy e then some e else none
   | none=>none
def uE(d:Option Nat)(b ag:Nat)(σ:St)(i:Int):Nat→Nat→Tree St
 | 0,_=>.fail
 | m+1,k=>.node (iG i k) (.ret (σ.aA d (.ptr b ag [.yp k k]))) (uE d b ag σ i m (k+1))
def uc:List pI→Bool
 | [.yp _ off]=>Nat.beq off 0
 | _=>false
def bW(d:Option Nat)(ty:TypeId)(x:av)(i:Int)(σ:St):Tree St :=
 match find cx.T ty,x with
 | some (.slice u),.data (.slice e) l=>bif Ty.beq u e then .look (idx (l:List e.den) i) fun y=>.ret (σ.aA d (.cell e y)) else .fail
 | some (.arr m u),.cell (.arr n e) l=>bif Ty.beq u e&&Nat.beq m n then .look (idx (l:List e.den) i) fun y=>.ret (σ.aA d (.cell e y)) else .fail
 | some (.slice u),.whole b ag=>match mH σ b ag with
   | some (e,n)=>bif Ty.beq u e then .need (within i n) (.ret (σ.aA d (.ptr b ag [.idx i e.size]))) else .fail
   | none=>.fail
 | some (.slice u),.part b ag lo n=>match mH σ b ag with
   | some (e,_)=>bif Ty.beq u e then .need (within i n) (.ret (σ.aA d (.ptr b ag [.idx (plus lo i) e.size]))) else .fail
   | none=>.fail
 | some (.arr m u),.ptr b ag p=>bif live σ b ag then .need (within i m) (.ret (σ.aA d (.ptr b ag (p++[.idx i u.size])))) else .fail
 | none,.win b ag q _ _ lo n=>match xM cx ty with
   | some _=>bif uc q&&decide (lo=0)&&live σ b ag then uE d b ag σ i n.toNat 0 else .fail
   | none=>.fail
 | _,_=>.fail
def fy(d:Option Nat)(ty:TypeId)(x:av)(i:Int)(σ:St):Tree St :=
 match x,xM cx ty with
 | .win b ag q _ _ lo n,some _=>bif uc q&&decide (lo=0)&&live σ b ag then(match i with
  | .ofNat k=>bif decide ((k:Int)<n) then .ret (σ.aA d (.ptr b ag [.yp k k])) else .fail
  | .negSucc _=>.fail) else .fail
 | x,_=>bW cx d ty x i σ
def fA(d:Option Nat)(ty:TypeId)(x:av)(i:Int)(σ:St):Tree St :=
 match find cx.T ty,x with
 | some .str,.data .str s=>.look (idx (s:List UInt8) i) fun b=>.ret (σ.aA d (.data (.int .u8) (u8 b)))
 | some (.arr m u),.data (.arr n e) l=>bif Ty.beq u e&&Nat.beq m n then .look (idx (l:List e.den) i) fun y=>.ret (σ.aA d (.data e y)) else .fail
 | _,_=>.fail
def gr.size:gr→Nat
 | .dat t=>t.size
 | _=>1
def mI:List gr→Nat→Option Nat
 | [],_=>none
 | _::_,0=>some 0
 | f::r,k+1=>match mI r k with|some o=>some (f.size+o)|none=>none
def b9(d:Option Nat)(s:TypeId)(x:av)(k:Nat)(σ:St):Tree St :=
 match x with
 | .cell u y=>bif rI (find cx.T s) u then(match fK (.data u y) k with
   | some (_,.data t z)=>.ret (σ.aA d (.cell t z))
   | _=>.fail) else .fail
 | .ptr b ag p=>bif live σ b ag then(match find cx.T s with
   | some t=>match eA t k,jW t k with
     | some off,some _=>.ret (σ.aA d (.ptr b ag (p++[.yp k off])))
     | _,_=>.fail
   | none=>match find cx.jV s with
     | some fs=>match mI fs k with
       | some off=>.ret (σ.aA d (.ptr b ag (p++[.yp k off])))
       | none=>.fail
     | none=>.fail) else .fail
 | _=>.fail
def dz(d:Option Nat)(src dst:TypeId)(x:av)(σ:St):Tree St :=
 match find cx.T src,find cx.T dst,x with
 | some (.int _),some (.int k),.data (.int _) n=>.ret (σ.aA d (.data (.int k) (jv k n)))
 | some .str,some .str,.data .str s=>.ret (σ.aA d (.data .str s))
 | some .str,some (.slice (.int .u8)),.data .str s=>match d with
   | some d=>.need (fits (len (α:=UInt8) s)) (σ.ay (nb+d) (.data (.slice (.int .u8)) (ah s)) 0 true fun ag σ=>.ret (σ.put d (.whole (nb+d) ag)))
   | none=>.fail
 | some (.slice (.int .u8)),some .str,x=>match cV (.int .u8) σ x with
   | some l=>.ret (σ.aA d (.data .str (aB l)))
   | none=>.fail
 | _,_,_=>.fail
def jY(e:Ty)(σ:St)(x:av):Option (List e.den):=match x with
 | .data .str t=>toL (.int .u8) e (ah t)
 | x=>cV e σ x
def JZ(ty t:Nat):Bool:=Nat.beq t 0||(match find cx.els ty with|some e=>Nat.beq e t|none=>false)
def dG(d:Option Nat)(ty:TypeId)(s x:av)(σ:St):Tree St :=
 match d,find cx.T ty with
 | some d,some (.slice e) =>
   match jY e σ x with
   | some m=>match s with
     | .gA=>.need (fits (len (α:=e.den) m)) (σ.ay (nb+d) (.data (.slice e) m) 0 true fun ag σ=>.ret (σ.put d (.whole (nb+d) ag)))
     | .whole b ag=>match σ.mem b,cV e σ (.whole b ag) with
       | some bx,some l=>bif bx.lk||!JZ cx ty bx.tid then .fail else
         .need (fits (plus (len (α:=e.den) l) (len (α:=e.den) m))) (.ret ((σ.aW b { bx with val:=.data (.slice e) (app (α:=e.den) l m),ag:=ag+1 }).put d (.whole b (ag+1))))
       | _,_=>.fail
     | _=>.fail
   | none=>.fail
 | _,_=>.fail
def eL(e:Ty)(m:List e.den)(b ag:Nat)(q:List pI)(FK:Nat→Ty→Bool)(lo:Int)(σ:St):Tree St :=
 match σ.mem b with
 | some bx=>bif Nat.beq bx.ag ag&&!bx.lk&&!bx.ro then
    (match bx.buf with
    | true=>match q,bx.val with
      | [],.data (.slice u) l=>match toL e u m with
        | some m=>.ret (σ.aW b { bx with val:=.data (.slice u) (over (α:=u.den) l lo m) })
        | none=>.fail
      | _,_=>.fail
    | false=>(DZ q bx.val).bind fun old=>match old with
      | .data (.arr k u) l=>bif FK k u then(match toL e u m with
        | some m=>(lz q bx.val (.data (.arr k u) (over (α:=u.den) l lo m))).bind fun c=>.ret (σ.aW b { bx with val:=c })
        | none=>.fail) else .fail
      | _=>.fail)
   else .fail
 | none=>.fail
def rJ(e:Ty)(m:Int→List e.den)(t:av)(σ:St):Tree (Int×St) :=
 match t with
 | .part b ag lo n=>(eL e (m n) b ag [] (fun _ _=>true) lo σ).bind fun σ=>.ret (n,σ)
 | .whole b ag=>match lenOf σ t with|some n=>(eL e (m n) b ag [] (fun _ _=>true) 0 σ).bind fun σ=>.ret (n,σ)|none=>.fail
 | .win b ag q u k lo n=>(eL e (m n) b ag q (fun k' u'=>Nat.beq k k'&&Ty.beq u u') lo σ).bind fun σ=>.ret (n,σ)
 | _=>.fail
def lS(d:Option Nat)(ty:TypeId)(t x:av)(σ:St):Tree St :=
 match find cx.T ty with
 | some (.slice e)=>match jY e σ x with
   | none=>.fail
   | some m=>(rJ e (fun n=>fG (α:=e.den) m n) t σ).bind fun r=>.ret (r.2.aA d (.data (.int .i64) (len (fG (α:=e.den) m r.1))))
 | _=>.fail
def lT(ty:TypeId)(t:av)(σ:St):Tree St :=
 match find cx.T ty with
 | some (.slice e)=>(rJ e (fun n=>yo n e.zero) t σ).bind fun r=>.ret r.2
 | _=>.fail
def uF:(o:OT)→o.den→(N M:List (Nat×Nat))→av
 | .dat t,x,_,_=>.data t x
 | .buf _ _,_,_,M=>match M with|(b,v)::_=>.whole b v|[]=>.undef
 | .ref _ _,_,N,_=>match N with|(b,v)::_=>.ptr b v []|[]=>.undef
 | .pair p q,u,N,M=>.mix (uF p u.1 (N.take p.nr) (M.take p.nb)) (uF q u.2 (N.drop p.nr) (M.drop p.nb))
 | .unit,_,_,_=>.data .unit ()
def dN:(o:OT)→o.den→(N M:List (Nat×Nat))→Nat→Option aI
 | .dat _,_,_,_,_=>none
 | .buf e bN,l,_,M,c=>match M with
   | (b,v)::_=>bif Nat.beq c b then some { val:=.data (.slice e) l,tid:=bN,buf:=true,ro:=false,lk:=false,ag:=v } else none
   | []=>none
 | .ref tid o,u,N,M,c=>match N with
   | (b,v)::N=>bif Nat.beq c b then some { val:=uF o u N M,tid,buf:=false,ro:=false,lk:=false,ag:=v } else dN o u N M c
   | []=>none
 | .pair p q,u,N,M,c=>match dN p u.1 (N.take p.nr) (M.take p.nb) c with
   | some x=>some x
   | none=>dN q u.2 (N.drop p.nr) (M.drop p.nb) c
 | .unit,_,_,_,_=>none
def bJ(mem:Nat→Option aI):(o:OT)→av→Option (o.den×List (Nat×Nat)×List (Nat×Nat))
 | .dat t,v=>match toS t v with|some x=>some (x,[],[])|none=>none
 | .buf e bN,v=>match v with
   | .whole b ag=>match mem b with
     | some bx=>bif Nat.beq bx.ag ag&&bx.buf&&!bx.lk&&!bx.ro&&Nat.beq bx.tid bN&&Nat.blt 0 e.size then(match bx.val with
       | .data (.slice u) l=>match toL u e l with|some l=>some (l,[],[(b,ag)])|none=>none
       | _=>none) else none
     | none=>none
   | _=>none
 | .ref tid o,v=>match v with
   | .ptr b ag []=>match mem b with
     | some bx=>bif Nat.beq bx.ag ag&&!bx.buf&&!bx.lk&&!bx.ro&&Nat.beq bx.tid tid then(match bJ mem o bx.val with
       | some (u,N,M)=>some (u,(b,ag)::N,M)
       | none=>none) else none
     | none=>none
   | _=>none
 | .pair p q,v=>match v with
   | .mix a b=>match bJ mem p a,bJ mem q b with
     | some (x,N,M),some (y,N',M')=>some ((x,y),N++N',M++M')
     | _,_=>none
   | _=>none
 | .unit,v=>match v with|.data .unit _=>some ((),[],[])|_=>none
def uG:List Nat→Bool
 | []=>true
 | b::r=>!bC r b&&uG r
def aF(N M:List (Nat×Nat)):List Nat:=N.map (·.1)++M.map (·.1)
def cS(σ:St):List Bool→(A:Ty)→(U:OT)→List av→Option (A.den×U.den×List (Nat×Nat)×List (Nat×Nat))
 | [],A,U,vs=>match A,U,vs with
   | .unit,.unit,[]=>some ((),(),[],[])
   | _,_,_=>none
 | false::ps,A,U,vs=>match A,vs with
   | .pair t A,v::vs=>match DY t v,cS σ ps A U vs with
     | some x,some (y,u,q)=>some ((x,y),u,q)
     | _,_=>none
   | _,_=>none
 | true::ps,A,U,vs=>match U,vs with
   | .pair (.ref tid o) U,v::vs=>match bJ σ.mem (.ref tid o) v,cS σ ps A U vs with
     | some (x,N,M),some (y,u,N',M')=>some (y,(x,u),N++N',M++M')
     | _,_=>none
   | _,_=>none
def fc(U:OT)(u:U.den)(N M:List (Nat×Nat))(σ:St):St :=
 { σ with mem:=fun c=>match dN U u N (M.map fun p=>(p.1,p.2+1)) c with
  | some bx=>some bx
  | none=>σ.mem c }
def ud:av→Bool
 | .whole ..=>true
 | _=>false
def om(s:EZ)(d:Option Nat)(args:List av)(σ:St):Tree St :=
 match s,args with
 | .FK T,[.ptr b ag []]=>match σ.mem b with
   | some bx=>match bx.val with
     | .mix (.kS b' v') (.mix u (.data .unit _))=>bif Nat.beq bx.ag ag&&!bx.buf&&!bx.lk&&!bx.ro&&Nat.beq bx.tid T&&Nat.blt 0 T&&Nat.beq b' b&&Nat.beq v' ag&&ud u then .ret (σ.aA d (.kN .nl)) else .fail
     | _=>.fail
   | none=>.fail
 | .str T E,[.ptr b ag []]=>match σ.mem b with
   | some bx=>match bx.val with
     | .mix (.kS _ _) (.mix (.whole h hv) (.data .unit _))=>bif Nat.beq bx.ag ag&&!bx.buf&&Nat.beq bx.tid T&&Nat.blt 0 T&&!Nat.beq h b then(match σ.mem h with
       | some hx=>bif Nat.beq hx.ag hv&&hx.buf&&!hx.lk&&Nat.beq hx.tid E&&Nat.blt 0 E then(match hx.val with
         | .data (.slice (.int .u8)) l=>.ret ((σ.aW h { hx with val:=.data (.slice (.int .u8)) [],ag:=hx.ag+1 }).aA d (.data .str (aB l)))
         | _=>.fail) else .fail
       | none=>.fail) else .fail
     | _=>.fail
   | none=>.fail
 | _,_=>.fail
def z7(d:Option Nat):Option Nat:=match d with|some d=>bif bC bf d then some d else none|none=>none
def fB(e:Ty)(d:Option Nat)(args:List av)(σ:St):Tree St :=
 match d,args with
 | some d,[x]=>match lR σ (.slice e) x with
   | some (l,σ)=>bif Nat.blt 0 e.size then .need (fits (len (α:=e.den) l)) (σ.ay (nb+d) (.data (.slice e) l) 0 true fun ag σ=>.ret (σ.put d (.whole (nb+d) ag))) else .fail
   | none=>.fail
 | _,_=>.fail
def nB(e:Ty)(σ:St):av→Option (Nat×Nat×aI×List e.den)
 | .whole b ag=>match σ.mem b with
   | some bx=>bif Nat.beq bx.ag ag&&bx.buf&&!bx.lk&&!bx.ro&&Nat.beq bx.tid 0 then(match bx.val with
     | .data (.slice u) l=>(match toL u e l with|some l=>some (b,ag,bx,l)|none=>none)
     | _=>none) else none
   | none=>none
 | .part b ag lo n=>match σ.mem b with
   | some bx=>bif Nat.beq bx.ag ag&&bx.buf&&!bx.lk&&!bx.ro&&Nat.beq bx.tid 0&&decide (lo=0) then(match bx.val with
     | .data (.slice u) l=>(match toL u e l with|some l=>some (b,ag,bx,sub (α:=e.den) l lo n)|none=>none)
     | _=>none) else none
   | none=>none
 | _=>none
def iW(e A:Ty)(res:Bool)(spec:List e.den→A.den→Option (List e.den))(d:Option Nat)(args:List av)(σ:St):Tree St :=
 match args with
 | v::vs=>match eZ σ A vs with
   | some (x,σ)=>match nB e σ v with
     | some (b,ag,bx,l)=>.look (spec l x) fun l'=>match res,d with
       | true,some d=>.ret ((σ.aW b { bx with val:=.data (.slice e) l',ag:=ag+1 }).put d (.whole b (ag+1)))
       | false,d=>bif ud v then .ret ((σ.aW b { bx with val:=.data (.slice e) l' }).aA d (.kN .nl)) else .fail
       | _,_=>.fail
     | none=>.fail
   | none=>.fail
 | []=>.fail
def lB(d:Option Nat)(f:Nat):Option EZ :=
 match find cx.zY f with
 | some (.clone e)=>match z7 bf d with|some _=>some (.clone e)|none=>none
 | some (.own e A r s)=>some (.own e A r s)
 | _=>none
def lC(d:Option Nat)(f:Nat)(args:List av)(σ:St):Tree St :=
 match find cx.gX f with
 | some c=>match c.R.flat with
   | true=>match eI σ c.A args with
     | some x=>.look (c.spec x) fun y=>.ret (σ.aA d (jX c.R y))
     | none=>.fail
   | false=>match eZ σ c.A args with
     | some (x,σ)=>.look (c.spec x) fun y=>.ret (σ.aA d (jX c.R y))
     | none=>.fail
 | none=>match find cx.zY f with
  | some s=>om s d args σ
  | none=>match find cx.cI f with
   | some c=>(match cS σ c.ps c.A c.U args with
     | some (x,u,N,M)=>bif uG (aF N M) then .look (c.spec (x,u)) fun y=>.ret ((fc c.U y.2 N M σ).aA d (jX c.R y.1)) else .fail
     | none=>(inl f args σ).bind fun r=>.ret (r.2.aA d r.1))
   | none=>(inl f args σ).bind fun r=>.ret (r.2.aA d r.1)
def jI(d:Option Nat)(f:Nat)(args:List av)(σ:St):Tree St :=
 match lB cx bf d f with
 | some (.clone e)=>fB nb e d args σ
 | some (.own e A r s)=>iW e A r s d args σ
 | _=>lC cx inl d f args σ
def z8:(t:Ty)→(u:Nat)→Option ((a:Ty)×(a.den→t.den))
 | .alt n a r,u=>bif Nat.beq n u then some ⟨a,.inl⟩ else match z8 r u with
   | some ⟨b,f⟩=>some ⟨b,fun x=>.inr (f x)⟩
   | none=>none
 | _,_=>none
def iM(d:Option Nat)(ty u:TypeId)(x:av)(σ:St):Tree St :=
 match find cx.T ty with
 | some t=>match z8 t u with
   | some ⟨a,f⟩=>match lR σ a x with
     | some (y,σ)=>.ret (σ.aA d (.data t (f y)))
     | none=>.fail
   | none=>.fail
 | none=>.fail
def iN(d:Option Nat)(name:String)(args:List av)(σ:St):Tree St :=
 match zZ cx.inv name with
 | some c=>match eZ σ c.A args with
   | some (x,σ)=>.look (c.spec x) fun y=>.ret (σ.aA d (jX c.R y))
   | none=>.fail
 | none=>.fail
def jZ(d:Option Nat)(ty:TypeId)(c:Call)(σ:St):Tree St :=
 match c.callee with
 | .builtin b=>match b,c.args.toList.map (aZ σ),c.argTypes.toList with
   | .len,[x],[t]=>bif Dl (find cx.T t) x then(match lenOf σ x with
     | some n=>.ret (σ.aA d (.data (.int .i64) n))
     | none=>.fail) else(match xM cx t,x with
     | some _,.win b ag _ _ _ _ n=>bif live σ b ag&&decide (n≤64) then .ret (σ.aA d (.data (.int .i64) n)) else .fail
     | _,_=>.fail)
   | .append,[s,x],[t,u]=>match find cx.T u with
     | some .str|some (.slice _)=>dG cx nb d t s x σ
     | _=>.fail
   | .copy,[t,x],[tt,tx]=>match find cx.T tx with
     | some .str|some (.slice _)=>lS cx d tt t x σ
     | _=>.fail
   | .clear,[t],[tt]=>match d with|none=>lT cx tt t σ|some _=>.fail
   | .min,[x,y],_=>yq true x y |>.bind fun v=>.ret (σ.aA d v)
   | .max,[x,y],_=>yq false x y |>.bind fun v=>.ret (σ.aA d v)
   | _,_,_=>.fail
 | .value f=>match aZ σ f with
   | .fn f caps=>bif caps.all (fun b=>live σ b.1 b.2) then jI cx nb bf inl d f (c.args.toList.map (aZ σ)++caps.map fun b=>.ptr b.1 b.2 []) σ else .fail
   | _=>.fail
 | .invoke r name=>iN cx d name (aZ σ r::c.args.toList.map (aZ σ)) σ
def rK:List av→Option (List (Nat×Nat))
 | []=>some []
 | .ptr b ag []::r=>(rK r).map ((b,ag)::·)
 | _=>none
def ue(σ:St)(b:Nat):Nat:=match σ.mem b with|some bx=>bx.ag+1|none=>0
def mkObj(b ag:Nat):List gr→Nat→St→Tree (av×St)
 | [],_,σ=>.ret (.data .unit (),σ)
 | .dat t::r,j,σ=>(mkObj b ag r (j+1) σ).bind fun x=>.ret (.mix (.data t t.zero) x.1,x.2)
 | .one::r,j,σ=>(mkObj b ag r (j+1) σ).bind fun x=>.ret (.mix .iL x.1,x.2)
 | .self::r,j,σ=>(mkObj b ag r (j+1) σ).bind fun x=>.ret (.mix (.kS b ag) x.1,x.2)
 | .buf e bN::r,j,σ=>bif Nat.blt 0 e.size then σ.ay (b*1000+999-j) (.data (.slice e) []) bN true fun v σ=>(mkObj b ag r (j+1) σ).bind fun x=>.ret (.mix (.whole (b*1000+999-j) v) x.1,x.2) else .fail
def iX:List gr→Option av
 | []=>some (.data .unit ())
 | .dat t::r=>match iX r with|some v=>some (.mix (.data t t.zero) v)|none=>none
 | .buf _ _::r=>match iX r with|some v=>some (.mix .gA v)|none=>none
 | .one::r=>match iX r with|some v=>some (.mix .iL v)|none=>none
 | .self::_=>none
def fL(σ:St)(fs:List gr):av→List (Nat×Operand)→Option av
 | v,[]=>some v
 | v,(k,x)::r=>match fK v k,mI fs k,fs[k]? with
   | some (o,.data t _),some o',some f=>bif Nat.beq o o'&&Nat.beq t.size f.size then(match toS t (aZ σ x) with
     | some y=>match(rH v k fun _=>.ret (.data t y)).run with
       | some v=>fL σ fs v r
       | none=>none
     | none=>none) else none
   | _,_,_=>none
def gh(b:Nat):List gr→Nat→av→St→Tree (av×St)
 | [],_,.data .unit x,σ=>.ret (.data .unit x,σ)
 | .dat _::r,j,.mix (.data u y) v,σ=>(gh b r (j+1) v σ).bind fun x=>.ret (.mix (.data u y) x.1,x.2)
 | .one::r,j,.mix .iL v,σ=>(gh b r (j+1) v σ).bind fun x=>.ret (.mix .iL x.1,x.2)
 | .buf e bN::r,j,.mix .gA v,σ=>bif Nat.blt 0 e.size then σ.ay (b*1000+999-j) (.data (.slice e) []) bN true fun ag σ=>(gh b r (j+1) v σ).bind fun x=>.ret (.mix (.whole (b*1000+999-j) ag) x.1,x.2) else .fail
 | _,_,_,_=>.fail
def nC(σ:St):Nat→List (Nat×Operand)→Option av
 | _,[]=>some (.data .unit ())
 | k,(j,x)::r=>bif Nat.beq j k then(match aZ σ x,nC σ (k+1) r with
   | .iL,some v=>some (.mix .iL v)
   | .ptr b ag p,some v=>some (.mix (.ptr b ag p) v)
   | .fn f c,some v=>some (.mix (.fn f c) v)
   | _,_=>none) else none
def oq(d:Option Nat)(t:TypeId)(len:Nat)(parts:List (Nat×Operand))(σ:St):Tree St :=
 match d,xM cx t,nC σ 0 parts with
 | some d,some _,some v=>bif Nat.beq len parts.length&&Nat.blt 0 len&&Nat.ble len 64 then
  σ.ay (nb+d) v 0 false fun ag σ=>.ret (σ.put d (.win (nb+d) ag [.yp 0 0] .bool len 0 len)) else .fail
 | _,_,_=>.fail
def qj(d:Option Nat)(elem:TypeId)(x:av)(σ:St):Tree St :=
 match d,x with
 | some _,.undef=>.fail
 | some _,.kN _=>.fail
 | some d,v=>match find cx.jV elem with
   | some fs=>(gh (nb+d) fs 0 v σ).bind fun r=>r.2.ay (nb+d) r.1 elem false fun ag σ=>.ret (σ.put d (.ptr (nb+d) ag []))
   | none=>σ.ay (nb+d) v 0 false fun ag σ=>.ret (σ.put d (.ptr (nb+d) ag []))
 | none,_=>.fail
def jP(d:Nat)(t:Ty)(σ:St):Tree St :=
 match z7 bf (some d),t with
 | some _,.slice e=>bif Nat.blt 0 e.size then σ.ay ((nb+d)*1000+999) (.data (.slice e) []) 0 true fun v σ =>
  σ.ay (nb+d) (.whole ((nb+d)*1000+999) v) 0 false fun ag σ=>.ret (σ.put d (.ptr (nb+d) ag [])) else .fail
 | _,t=>σ.ay (nb+d) (.data t t.zero) 0 false fun ag σ=>.ret (σ.put d (.ptr (nb+d) ag []))
def gY(o:Oper)(σ:St):Tree St :=
 match o.op with
 | .move x|.assign x=>eB cx nb bf o.dst o.type (aZ σ x) σ
 | .pick c a b=>gB o.dst (aZ σ c) (aZ σ a) (aZ σ b) σ
 | .alloc elem=>match o.dst,find cx.T elem with
   | some d,some t=>jP nb bf d t σ
   | some d,none=>match find cx.jV elem with
     | some fs=>(mkObj (nb+d) (ue σ (nb+d)) fs 0 σ).bind fun r=>r.2.ay (nb+d) r.1 elem false fun ag σ=>.ret (σ.put d (.ptr (nb+d) ag []))
     | none=>bif bC cx.jy elem then σ.ay (nb+d) .undef 0 false fun ag σ=>.ret (σ.put d (.ptr (nb+d) ag [])) else .fail
   | _,_=>.fail
 | .box elem x=>qj cx nb o.dst elem (aZ σ x) σ
 | .build t parts=>match find cx.T t with
   | some (.pair a b)=>match cW σ (.pair a b) (Ty.pair a b).zero parts.toList with
     | some (x,σ)=>.ret (σ.aA o.dst (.data (.pair a b) x))
     | none=>.fail
   | some (.arr n e)=>match cR σ e (List.replicate n e.zero) parts.toList with
     | some (l,σ)=>.ret (σ.aA o.dst (.data (.arr n e) l))
     | none=>.fail
   | none=>match find cx.jV t with
     | some fs=>match iX fs with
       | some z=>match fL σ fs z parts.toList with
         | some (.mix p q)=>.ret (σ.aA o.dst (.mix p q))
         | some (.data .unit _)=>.ret (σ.aA o.dst (.data .unit ()))
         | _=>.fail
       | none=>.fail
     | none=>.fail
   | _=>.fail
 | .buildSlice t len parts=>match find cx.T t with
   | some (.slice e)=>match z7 bf o.dst,len,parts.toList with
     | some d,0,[]=>σ.ay (nb+d) (.data (.slice e) []) 0 true fun ag σ=>.ret (σ.put d (.whole (nb+d) ag))
     | _,_,_=>bif Nat.ble (len*e.size) 65536 then(match cR σ e (List.replicate len e.zero) parts.toList with
     | some (l,σ)=>.ret (σ.aA o.dst (.data (.slice e) l))
     | none=>.fail) else .fail
   | none=>oq cx nb o.dst t len parts.toList σ
   | _=>.fail
 | .load t a=>fh cx o.dst t (aZ σ a) σ
 | .store t a x=>match o.dst with|none=>fq cx bf t (aZ σ a) (aZ σ x) σ|some _=>.fail
 | .nilCheck x=>match aZ σ x with
   | .ptr b ag p=>bif live σ b ag then .ret (σ.aA o.dst (.ptr b ag p)) else .fail
   | .cell t x=>.ret (σ.aA o.dst (.cell t x))
   | .fn f c=>.ret (σ.aA o.dst (.fn f c))
   | _=>.fail
 | .binOp op xt x y _=>(FL σ (find cx.T xt) (bC cx.cO xt) op (aZ σ x) (aZ σ y)).bind fun v=>.ret (σ.aA o.dst v)
 | .unOp op _ x=>(un op (aZ σ x)).bind fun v=>.ret (σ.aA o.dst v)
 | .convert src dst x=>dz cx nb o.dst src dst (aZ σ x) σ
 | .makeFunc (.func f) first caps=>match first.toList,rK (caps.toList.map (aZ σ)) with
   | [],some cs=>.ret (σ.aA o.dst (.fn f cs))
   | _,_=>.fail
 | .slice t x lo hi none=>fu cx o.dst t (aZ σ x) lo hi σ
 | .fieldAddr s x k=>b9 cx o.dst s (aZ σ x) k σ
 | .field xt x k=>match aZ σ x with
   | .data u y=>bif rI (find cx.T xt) u then(match fK (.data u y) k with
     | some (_,v)=>.ret (σ.aA o.dst v)
     | none=>.fail) else .fail
   | _=>.fail
 | .indexAddr t x i=>match aZ σ i with
   | .data (.int _) i=>bif bC bf 5000000 then fy cx o.dst t (aZ σ x) i σ else bW cx o.dst t (aZ σ x) i σ
   | _=>.fail
 | .index t x i=>match aZ σ i with
   | .data (.int _) i=>fA cx o.dst t (aZ σ x) i σ
   | _=>.fail
 | .makeSlice t l c=>match o.dst,find cx.T t,aZ σ l,aZ σ c with
   | some d,some (.slice e),.data (.int _) l,.data (.int _) c =>
     .need (inside 0 l c) (.need (fits c)
      (σ.ay (nb+d) (.data (.slice e) (yo l e.zero)) 0 true fun ag σ=>.ret (σ.put d (.whole (nb+d) ag))))
   | _,_,_,_=>.fail
 | .extract t k=>match aZ σ t with
   | .kN vs=>match nth vs k with
     | some v=>.ret (σ.aA o.dst v)
     | none=>.fail
   | _=>.fail
 | .call c=>jZ cx nb bf inl o.dst o.type c σ
 | .makeInterface u x=>iM cx o.dst o.type u (aZ σ x) σ
 | _=>.fail
def mJ(g:Option (Nat×Bool))(j:Nat)(want:Bool):Bool :=
 match g with|some (i,b)=>Nat.beq i j&&(b==want)|none=>false
def under(j:Nat)(want:Bool):(inner:List Nat)→List (Nat×Oper)→List (Nat×Oper)×List (Nat×Oper)
 | _,[]=>([],[])
 | inner,(i,o)::r =>
   bif mJ o.guard j want then let x:=under j want (i::inner) r;((i,{ o with guard:=none })::x.1,x.2)
   else bif (match o.guard with|some (k,_)=>inner.any (Nat.beq k)|none=>false) then let x:=under j want (i::inner) r;((i,o)::x.1,x.2)
   else([],(i,o)::r)
def uf(cx:Ctx):List (Nat×Oper)→Bool
 | []=>false
 | (_,o)::r=>(match o.op with
   | .call c=>match c.callee with
     | .value (.func f)=>match find cx.gX f with|some _=>false|none=>true
     | .value _=>true
     | .builtin .append=>true
     | _=>false
   | .store ..=>true
   | _=>false)||uf cx r
def St.dJ(σ:St):St:={ σ with mem:=fun i=>match σ.mem i with|some b=>some { b with lk:=true }|none=>none }
def St.undef(σ:St):List (Nat×Oper)→St
 | []=>σ
 | (_,o)::r=>(σ.undef r).aA o.dst .undef
def gi(d:Nat):List (Nat×Oper)→Bool
 | []=>false
 | (_,o)::r=>(match o.dst with|some k=>Nat.beq k d|none=>false)||gi d r
def mK(σ:St)(pk:Oper)(dj:Nat)(want:Bool):Option av :=
 match pk.op with
 | .pick (.tmp c) a b=>bif Nat.beq c dj then some (aZ σ (bif want then a else b)) else none
 | _=>none
def gZ(all:Array Oper):Nat→List (Nat×Oper)→St→Tree St
 | 0,_,_=>.fail
 | n+1,[],σ=>.ret σ
 | n+1,(i,o)::r,σ =>
   match o.guard with
   | none=>(gY cx nb bf inl o σ).bind fun σ=>gZ all n r σ
   | some (j,want) =>
     let g:=under j want [] ((i,o)::r)
     match(all[j]?).bind (·.dst) with
     | none=>.fail
     | some dj=>match σ.slots dj,g.2 with
       | .data .bool c,(_,pk)::rest=>bif gi dj g.1 then .fail else match pk.guard with
         | some _=>.fail
         | none =>
           let c':=bif want then c else nt c
           bif uf cx g.1 then
            (Tree.node c' ((gZ all n g.1 σ).bind fun σ=>match mK σ pk dj want with
              | some v=>.ret (σ.aA pk.dst v)
              | none=>.fail)
             (match mK (σ.undef g.1) pk dj (!want) with
              | some v=>.ret ((σ.undef g.1).aA pk.dst v)
              | none=>.fail)).bind fun σ=>gZ all n rest σ
           else match find cx.T pk.type,pk.dst with
            | some t,some dp=>(Tree.node c' ((gZ all n g.1 σ.dJ).bind fun τ=>match(mK τ pk dj want).bind (DY t) with
              | some x=>.ret x
              | none=>.fail)
             (match(mK (σ.undef g.1) pk dj (!want)).bind (DY t) with
              | some x=>.ret x
              | none=>.fail)).join fun x=>gZ all n rest ((σ.undef g.1).put dp (.data t x))
            | _,_=>.fail
       | _,_=>.fail
def number:Nat→List Oper→List (Nat×Oper)
 | _,[]=>[]
 | k,o::r=>(k,o)::number (k+1) r
def uH(ops:Array Oper)(σ:St):Tree St:=gZ cx nb bf inl ops (2*ops.size+1) (number 0 ops.toList) σ
def cg:Op→List Operand
 | .move x|.assign x|.box _ x|.load _ x|.nilCheck x|.unOp _ _ x|.convert _ _ x|.fieldAddr _ x _|.field _ x _|.extract x _=>[x]
 | .pick c a b=>[c,a,b]
 | .build _ ps|.buildSlice _ _ ps=>ps.toList.map (·.2)
 | .store _ a x=>[a,x]
 | .binOp _ _ x y _=>[x,y]
 | .makeFunc _ f c=>f.toList++c.toList
 | .slice _ x lo hi _=>x::(lo.toList++hi.toList)
 | .indexAddr _ x i|.index _ x i=>[x,i]
 | .makeSlice _ l c=>[l,c]
 | .call c=>(match c.callee with|.value f=>[f]|.invoke r _=>[r]|_=>[])++c.args.toList
 | .makeInterface _ x=>[x]
 | _=>[]
def tmpsOf:List Operand→List Nat
 | []=>[]
 | .tmp t::r=>t::tmpsOf r
 | _::r=>tmpsOf r
def gC(o:Oper)(σ:St):Option Nat:=match o.op with
 | .call c=>match c.callee with
   | .value x=>match aZ σ x with
     | .fn f _=>some f
     | _=>none
   | _=>none
 | _=>none
def KV:Option Nat→Option Nat→Bool
 | some a,some b=>Nat.beq a b
 | none,none=>true
 | _,_=>false
def cls(g:Option Nat)(o:Oper):Nat:=match o.op with
 | .assign _|.move _|.makeSlice ..|.convert ..=>1
 | .box e _=>match find cx.jV e with
   | some _=>3
   | none=>1
 | .alloc e=>match find cx.T e with
   | some (.slice _)=>3
   | some _=>1
   | none=>match find cx.jV e with
     | some _=>3
     | none=>1
 | .build ..|.buildSlice ..|.store ..=>2
 | .call c=>match c.callee with
   | .builtin .len|.builtin .min|.builtin .max=>0
   | .builtin .append=>2
   | .builtin _=>3
   | .value _=>match g with
     | some f=>match find cx.zY f with
       | some (.clone _)=>2
       | some (.own _ _ _ _)=>2
       | s=>match find cx.gX f with
         | some c=>bif c.R.flat then 0 else 2
         | none=>match s,find cx.cI f with
           | none,some _=>2
           | _,_=>3
     | none=>3
   | .invoke ..=>2
 | .makeInterface ..=>2
 | _=>0
structure Fp where
 rd:List Nat
 wr:List Nat
 ug:Bool
 fn:Option Nat
def j7(σ:St):av→List Nat
 | .ptr b _ _=>[b]
 | .whole b _=>[b]
 | .part b _ _ _=>[b]
 | .win b _ _ _ _ _ _=>[b]
 | .fn _ caps=>caps.map (·.1)
 | .mix a b=>j7 σ a++j7 σ b
 | _=>[]
def refsOf(σ:St):List Operand→List Nat
 | []=>[]
 | x::r=>j7 σ (aZ σ x)++refsOf σ r
def KW(o:Oper)(σ:St):List Nat:=match o.op with
 | .move x|.assign x=>match aZ σ x with
   | .ptr _ _ _=>[]
   | v=>j7 σ v
 | _=>refsOf σ (cg o.op)
def reach(o:Oper)(σ:St)(g:Option Nat):List Nat:=match o.op,g with
 | .call c,some f=>match find cx.cI f with
   | some k=>match cS σ k.ps k.A k.U (c.args.toList.map (aZ σ)) with
     | some (_,_,N,M)=>aF N M
     | none=>[]
   | none=>[]
 | _,_=>[]
def own(o:Oper):List Nat:=match o.dst with|some d=>[nb+d]|none=>[]
def lU(o:Oper)(σ:St):Fp :=
 let g:=gC o σ
 let rd:=own nb o++(KW o σ++reach cx o σ g)
 match cls cx g o with
 | 0=>⟨rd,[],false,g⟩
 | 1=>⟨rd,own nb o,false,g⟩
 | 2=>⟨rd,rd,false,g⟩
 | _=>⟨[],[],true,g⟩
def St.only(σ:St)(ts rd:List Nat):St:={ slots:=fun t=>bif bC ts t then σ.slots t else .undef,mem:=fun b=>bif bC rd b then σ.mem b else none }
def lay(σ:St)(d:Option Nat)(wr:List Nat)(τ:St):St :=
 { slots:=match d with|some d=>fun t=>bif Nat.beq t d then τ.slots d else σ.slots t|none=>σ.slots
   mem:=fun b=>bif bC wr b then τ.mem b else σ.mem b }
def Aa(_:Nat)(_:List av)(_:St):Tree (av×St):=.fail
def FQ(fp:Fp)(o:Oper)(σ:St):Tree St:=bif KV (gC o σ) fp.fn then gY cx nb bf Aa o σ else .fail
def dK(fp:Fp)(o:Oper)(σ:St):Tree St :=
 bif fp.ug then gY cx nb bf inl o σ
 else(FQ cx nb bf fp o (σ.only (tmpsOf (cg o.op)) fp.rd)).bind fun τ=>.ret (lay σ o.dst fp.wr τ)
abbrev nD:=Nat×Oper×Fp×Nat
def uI:List nD→Nat→Nat
 | [],_=>0
 | (i,_,_,m)::r,k=>bif Nat.beq i k then m else uI r k
def jQ(done:List nD):List Edge→Nat
 | []=>0
 | e::r=>bif Region.binds .any e then(jQ done r ||| 2 ^ e.on) ||| uI done e.on else jQ done r
def mask(done:List nD)(o:Oper):Nat:=jQ done o.after.toList
def D3(a b:List Nat):Bool:=a.all fun x=>!bC b x
def apart(x y:Oper)(f g:Fp):Bool :=
 !f.ug&&!g.ug&&D3 f.wr g.rd&&D3 g.wr f.rd &&
 (match x.dst with|some d=>!bC (tmpsOf (cg y.op)) d&&(match y.dst with|some e=>!Nat.beq d e|none=>true)|none=>true) &&
 (match y.dst with|some e=>!bC (tmpsOf (cg x.op)) e|none=>true)
def loose(o:Oper)(f:Fp)(m:Nat):List nD→Bool
 | []=>true
 | (k,ok,fk,_)::r=>(Nat.testBit m k||apart ok o fk f)&&loose o f m r
def uJ:List (Nat×Oper)→List nD→St→Tree St
 | [],_,σ=>.ret σ
 | (i,o)::r,done,σ=>match o.guard with
   | some _=>.fail
   | none =>
     let f:=lU cx nb o σ
     let m:=mask done o
     bif loose o f m done&&(o.after.all fun e=>!Region.binds .any e||Nat.blt e.on i) then
      (dK cx nb bf inl f o σ).bind fun σ=>uJ r ((i,o,f,m)::done) σ
     else .fail
def xN(all:Array Oper)(o:Oper):List Nat:=match o.guard with
 | some (g,_)=>match(all[g]?).bind (·.dst) with|some d=>[d]|none=>[]
 | none=>[]
def pK(all:Array Oper)(o:Oper):List Nat:=xN all o++tmpsOf (cg o.op)
def lV(o:Oper)(k:Nat):Bool:=match o.guard with|some (g,_)=>!Nat.beq g k|none=>true
def nE(all:Array Oper)(i j:Nat)(x y:Oper)(f g:Fp):Bool :=
 !f.ug&&!g.ug&&D3 f.wr g.rd&&D3 g.wr f.rd&&lV x j&&lV y i &&
 (match x.dst with|some d=>!bC (pK all y) d&&(match y.dst with|some e=>!Nat.beq d e|none=>true)|none=>true) &&
 (match y.dst with|some e=>!bC (pK all x) e|none=>true)
def pL(all:Array Oper)(i:Nat)(o:Oper)(f:Fp)(m:Nat):List nD→Bool
 | []=>true
 | (k,ok,fk,_)::r=>(Nat.testBit m k||nE all k i ok o fk f)&&pL all i o f m r
def dn(i:Nat)(sk:Nat→Bool):Nat→Bool:=fun k=>Nat.beq k i||sk k
def jA(all:Array Oper):List (Nat×Oper)→List nD→St→(Nat→Bool)→Tree St
 | [],_,σ,_=>.ret σ
 | (i,o)::r,done,σ,sk =>
   let f:=lU cx nb o σ
   let m:=mask done o
   bif pL all i o f m done&&(o.after.all fun e=>!Region.binds .any e||Nat.blt e.on i) then
    match o.guard with
    | none=>(dK cx nb bf inl f o σ).bind fun σ=>jA all r ((i,o,f,m)::done) σ sk
    | some (g,want)=>match(all[g]?).bind (·.dst) with
      | none=>.fail
      | some dg=>bif sk g then jA all r ((i,o,f,m)::done) (σ.aA o.dst .undef) (dn i sk)
        else match σ.slots dg with
         | .data .bool c=>.node c
          (bif want then(dK cx nb bf inl f o (σ.put dg (.data .bool true))).bind fun σ=>jA all r ((i,o,f,m)::done) σ sk
           else jA all r ((i,o,f,m)::done) ((σ.put dg (.data .bool true)).aA o.dst .undef) (dn i sk))
          (bif want then jA all r ((i,o,f,m)::done) ((σ.put dg (.data .bool false)).aA o.dst .undef) (dn i sk)
           else(dK cx nb bf inl f o (σ.put dg (.data .bool false))).bind fun σ=>jA all r ((i,o,f,m)::done) σ sk)
         | _=>.fail
   else .fail
def fe:List Oper→Bool
 | []=>true
 | o::r=>(match o.dst with|some d=>!bC (rL r) d|none=>true)&&fe r
where rL:List Oper→List Nat
 | []=>[]
 | o::r=>match o.dst with|some d=>d::rL r|none=>rL r
def lW(ops:Array Oper)(σ:St):Tree St :=
 bif ops.any fun o=>o.guard.isSome then(bif fe ops.toList then jA cx nb bf inl ops (number 0 ops.toList) [] σ (fun _=>false) else .fail)
 else uJ cx nb bf inl (number 0 ops.toList) [] σ
end
end Go.Ge
namespace Go.Ge
def rounds{S R:Type}(f:S→Option (S⊕R)):Nat→S→Option R
 | 0,_=>none
 | n+1,s=>(f s).bind fun x=>match x with|.inl s=>rounds f n s|.inr r=>some r
theorem sE{S R:Type}{f:S→Option (S⊕R)}:∀{n:Nat} {s:S} {r:R},rounds f n s=some r→∀m,n≤m→rounds f m s=some r:=by
 intro n;induction n with
 | zero=>intro s r h;cases h
 | succ n ih =>
   intro s r h m hm;obtain⟨k,rfl⟩:∃k,m=k+1:=⟨m-1,by omega⟩;simp only[rounds] at h⊢;cases hf:f s with
   | none=>rw[hf] at h;cases h
   | some x =>
     rw[hf] at h;cases x with
     | inl s'=>exact ih h k (by omega)
     | inr r'=>exact h
open Classical in
def Ab{S R:Type}(f:S→Option (S⊕R))(s:S):Option R :=
 if h:∃n r,rounds f n s=some r then some (Classical.choose (DO h)) else none
theorem mX{S R:Type}{f:S→Option (S⊕R)}{n:Nat}{s:S}{r:R}(h:rounds f n s=some r):Ab f s=some r:=by
 have hex:∃n r,rounds f n s=some r:=⟨n,r,h⟩;unfold Ab;rw[dif_pos hex];have h2:=DO (DO hex);have a:=sE h (max n (Classical.choose hex)) (by omega);have b:=sE h2 (max n (Classical.choose hex)) (by omega);rw[a] at b;exact b.symm
class Lp where
 loop:{S R:Type}→(S→Option (S⊕R))→S→Option R
 ok:∀{S R:Type} (f:S→Option (S⊕R)) (s:S),loop f s=Ab f s
theorem Lp.one(i j:Lp):i=j:=by
 obtain⟨l,h⟩:=i;obtain⟨m,k⟩:=j;have:@l=@m:=by funext S R f s;rw[h,k]
 subst this;rfl
@[reducible] noncomputable def Lp.Mg:Lp where
 loop:=fun f s=>match rounds f 100000 s with|some r=>some r|none=>Ab f s
 ok:=fun f s=>by
  generalize 100000=k;cases hk:rounds f k s with
  | some r=>exact(mX hk).symm
  | none=>rfl
section
variable [Lp]
def Loop{S R:Type}(f:S→Option (S⊕R))(s:S):Option R:=Lp.loop f s
theorem hJ{S R:Type}{f:S→Option (S⊕R)}{n:Nat}{s:S}{r:R}(h:rounds f n s=some r):Loop f s=some r:=(Lp.ok f s).trans (mX h)
theorem hU{S R:Type}{f:S→Option (S⊕R)}{s:S}{r:R}(h:Loop f s=some r):∃n,rounds f n s=some r:=by
 replace h:=(Lp.ok f s).symm.trans h;unfold Ab at h;split at h
 ·rename_i hex;have h2:=DO (DO hex);exact⟨_,by rw[h2];exact h⟩
 ·cases h
theorem jJ{S R:Type}(f:S→Option (S⊕R))(s:S):Loop f s=(f s).bind fun x=>match x with|.inl s=>Loop f s|.inr r=>some r:=by
 cases hf:f s with
 | none =>
   cases hl:Loop f s with
   | none=>rfl
   | some r =>
     obtain⟨n,hn⟩:=hU hl;cases n with
     | zero=>cases hn
     | succ n=>simp[rounds,hf] at hn
 | some x =>
   cases x with
   | inr r=>exact hJ (n:=1) (by simp[rounds,hf])
   | inl s' =>
     show Loop f s=Loop f s'
     cases hl:Loop f s' with
     | some r =>
       obtain⟨n,hn⟩:=hU hl;exact hJ (n:=n+1) (by simp[rounds,hf,hn])
     | none =>
       cases Bw:Loop f s with
       | none=>rfl
       | some r =>
         obtain⟨n,hn⟩:=hU Bw;cases n with
         | zero=>cases hn
         | succ n =>
           simp[rounds,hf] at hn;rw[hJ hn] at hl;cases hl
end
inductive Sh where
 | d (t:Ty)
 | k (v:av)
 | m (a b:Sh)
def Sh.ty:Sh→Ty
 | .d t=>t
 | .k _=>.unit
 | .m a b=>.pair a.ty b.ty
def uh:List pI→List pI→Bool
 | [],[]=>true
 | .yp k o::p,.yp k' o'::q=>Nat.beq k k'&&Nat.beq o o'&&uh p q
 | _,_=>false
def uj:List (Nat×Nat)→List (Nat×Nat)→Bool
 | [],[]=>true
 | (a,b)::r,(c,d)::s=>Nat.beq a c&&Nat.beq b d&&uj r s
 | _,_=>false
theorem BK:∀{p q:List pI},uh p q=true→p=q:=by
 intro p;induction p with
 | nil=>intro q h;cases q<;>first|rfl|cases h
 | cons s p ih =>
   intro q h;cases s with
   | idx i n=>cases q<;>cases h
   | yp k o =>
     cases q with
     | nil=>cases h
     | cons s' q =>
       cases s' with
       | idx i n=>cases h
       | yp k' o' =>
         simp only[uh,bY] at h;rw[cB h.1.1,cB h.1.2,ih h.2]
theorem BL:∀{p q:List (Nat×Nat)},uj p q=true→p=q:=by
 intro p;induction p with
 | nil=>intro q h;cases q<;>first|rfl|cases h
 | cons s p ih =>
   intro q h;obtain⟨a,b⟩:=s;cases q with
   | nil=>cases h
   | cons s' q =>
     obtain⟨c,d⟩:=s';simp only[uj,bY] at h;rw[cB h.1.1,cB h.1.2,ih h.2]
def mL(V:Nat→Bool)(eM σ:St):av→av→Bool
 | .ptr b v p,.ptr b' v' p'=>Nat.beq b b'&&uh p p'&&(bif V b then(match eM.mem b,σ.mem b with|some x,some y=>Nat.beq x.ag v&&Nat.beq y.ag v'|_,_=>false) else Nat.beq v v')
 | .whole b v,.whole b' v'=>Nat.beq b b'&&(match eM.mem b,σ.mem b with|some x,some y=>Nat.beq x.ag v&&Nat.beq y.ag v'&&y.buf|_,_=>false)
 | .fn f c,.fn f' c'=>Nat.beq f f'&&uj c c'
 | .iL,.iL=>true
 | .jg,.jg=>true
 | .kS b v,.kS b' v'=>Nat.beq b b'&&Nat.beq v v'
 | _,_=>false
def HR:av→Sh
 | .data t _=>.d t
 | .mix a b=>.m (HR a) (HR b)
 | v=>.k v
def Sh.out(V:Nat→Bool)(eM σ:St):(s:Sh)→av→Option s.ty.den
 | .d t,v=>DY t v
 | .k u,v=>bif mL V eM σ u v then some () else none
 | .m a b,.mix v w=>match Sh.out V eM σ a v,Sh.out V eM σ b w with
   | some x,some y=>some (x,y)
   | _,_=>none
 | .m _ _,_=>none
def tw(M V:Nat→Bool):av→av
 | .whole b v=>bif M b then .whole b (v+1) else .whole b v
 | .ptr b v p=>bif M b&&V b then .ptr b (v+1) p else .ptr b v p
 | v=>v
def Sh.jh(M V:Nat→Bool):(s:Sh)→s.ty.den→av
 | .d t,x=>.data t x
 | .k v,_=>tw M V v
 | .m a b,x=>.mix (a.jh M V x.1) (b.jh M V x.2)
structure Ac where
 S:List (Nat×Nat)
 M:List Nat
 fz:Bool
structure lX where
 marks:List (Option Ac)
 yu:List Nat
structure Carry where
 S:List (Nat×Sh)
 M:List (Nat×Sh×aI)
 V:Nat→Bool
def KC:List (Nat×Sh)→Ty
 | []=>.unit
 | (_,s)::r=>.pair s.ty (KC r)
def J0:List (Nat×Sh×aI)→Ty
 | []=>.unit
 | (_,s,_)::r=>.pair s.ty (J0 r)
def Carry.ty(c:Carry):Ty:=.pair (KC c.S) (J0 c.M)
def HS(V:Nat→Bool)(eM σ:St):(l:List (Nat×Sh))→Option (KC l).den
 | []=>some ()
 | (i,s)::r=>match Sh.out V eM σ s (σ.slots i),HS V eM σ r with
   | some x,some y=>some (x,y)
   | _,_=>none
def sF(fz mv:Bool)(bx b:aI):Bool:=(fz||(bx.ro==b.ro))&&Nat.beq bx.tid b.tid&&(bx.buf==b.buf)&&(bx.buf||mv||Nat.beq bx.ag b.ag)
def HT(V:Nat→Bool)(fz:Bool)(eM σ:St):(l:List (Nat×Sh×aI))→Option (J0 l).den
 | []=>some ()
 | (i,s,b)::r=>match σ.mem i with
   | some bx=>bif sF fz (V i) bx b then(match Sh.out V eM σ s bx.val,HT V fz eM σ r with
     | some x,some y=>some (x,y)
     | _,_=>none) else none
   | none=>none
def Carry.out(c:Carry)(fz:Bool)(eM σ:St):Option c.ty.den :=
 match HS c.V eM σ c.S,HT c.V fz eM σ c.M with
 | some x,some y=>some (x,y)
 | _,_=>none
def yw(M V:Nat→Bool):(l:List (Nat×Sh))→(KC l).den→Nat→Option av
 | [],_,_=>none
 | (i,s)::r,x,t=>bif Nat.beq t i then some (s.jh M V x.1) else yw M V r x.2 t
def uK(fz:Bool)(M V:Nat→Bool):(l:List (Nat×Sh×aI))→(J0 l).den→Nat→Option aI
 | [],_,_=>none
 | (i,s,b)::r,x,t=>bif Nat.beq t i then some { b with val:=s.jh M V x.1,ro:=b.ro||fz,ag:=bif b.buf||V t then b.ag+1 else b.ag } else uK fz M V r x.2 t
def j8:List (Nat×Sh×aI)→Nat→Bool
 | [],_=>false
 | (i,_,_)::r,t=>Nat.beq t i||j8 r t
def Carry.jh(c:Carry)(fz lock:Bool)(wr:List Nat)(eM:St)(x:c.ty.den):St :=
 { slots:=fun t=>match yw (j8 c.M) c.V c.S x.1 t with
    | some v=>v
    | none=>bif bC wr t then .undef else eM.slots t
   mem:=fun b=>match uK fz (j8 c.M) c.V c.M x.2 b with
    | some bx=>some bx
    | none=>match eM.mem b with
      | some bx=>some { bx with lk:=bx.lk||lock }
      | none=>none }
def settle:List (Nat×Sh)→St→Option St
 | [],σ=>some σ
 | (i,.d t)::r,σ=>match lR σ t (σ.slots i) with
   | some (x,σ)=>settle r (σ.put i (.data t x))
   | none=>none
 | _::r,σ=>settle r σ
def Carry.uL(c:Carry)(fz:Bool)(eM σ:St):Option c.ty.den :=
 bif fz then(match settle c.S σ with
  | some σ=>c.out true eM σ
  | none=>none)
 else c.out false eM σ
def Carry.lock(c:Carry)(σ:St):St :=
 { σ with mem:=fun b=>match σ.mem b with
  | some bx=>some (bif j8 c.M b then bx else { bx with lk:=true })
  | none=>none }
def hY:List Oper→List Nat
 | []=>[]
 | o::r=>match o.dst with|some d=>d::hY r|none=>hY r
def writes:Code→List Nat
 | .region _ ops _=>hY ops.toList
 | .seq a b=>writes a++writes b
 | .cond _ a b=>writes a++writes b
 | .block _ a=>writes a
 | .loop a=>writes a
 | .scope a=>writes a
 | _=>[]
def jB:Code→List Nat
 | .seq a b=>jB a++(jB b).filter fun e=>!bC (jB a) e
 | .cond _ a b=>jB a++(jB b).filter fun e=>!bC (jB a) e
 | .block i a=>(jB a).filter fun e=>!Nat.beq e (i+2)
 | .loop a=>jB a
 | .scope a=>jB a
 | .ret=>[1]
 | .exit i=>[i+2]
 | _=>[]
def marks:Code→Nat
 | .seq a b=>marks a+marks b
 | .cond _ a b=>marks a+marks b+1
 | .block _ a=>marks a
 | .loop a=>marks a+1
 | .scope a=>marks a
 | _=>0
def tC:List Nat→Nat→Option Nat
 | [],_=>none
 | e::r,k=>bif Nat.beq e k then some 0 else(tC r k).map (·+1)
def BM:List Nat→List Nat→List Nat
 | [],l=>l
 | b::r,l=>bif bC l b then BM r l else BM r (l++[b])
section
variable (cx:Ctx)
def LS(σ:St):List (Nat×Nat)→Option (List (Nat×Sh))
 | []=>some []
 | (i,ty)::r=>match LS σ r with
   | none=>none
   | some l=>bif Nat.beq ty 999999 then(match σ.slots i with
     | .whole b v=>some ((i,.k (.whole b v))::l)
     | _=>some l) else match σ.slots i with
     | .data t _=>some ((i,.d t)::l)
     | .undef|.gA=>match find cx.T ty with
       | some t=>some ((i,.d t)::l)
       | none=>none
     | v=>some ((i,.k v)::l)
def ou(σ:St):List Nat→List Nat
 | []=>[]
 | b::r=>(match σ.mem b with|some bx=>(match bx.val with|.mix u v=>j7 σ (.mix u v)|.whole c _=>[c]|.fn f c=>j7 σ (.fn f c)|_=>[])|none=>[])++ou σ r
def yx(σ:St):List Nat→List Nat
 | []=>[]
 | i::r =>
   let r0:=j7 σ (σ.slots i)
   let r1:=ou σ r0
   let r2:=ou σ r1
   BM (r0++(r1++(r2++ou σ r2))) (yx σ r)
def KX(σ:St):List Nat→Option (List (Nat×Sh×aI))
 | []=>some []
 | b::r=>match σ.mem b,KX σ r with
   | some bx,some l=>bif bx.lk then none else some ((b,HR bx.val,bx)::l)
   | _,_=>none
def J1:av→Option Nat
 | .whole b _=>some b
 | .part b _ _ _=>some b
 | _=>none
def qk:List Nat→St→Option St
 | [],σ=>some σ
 | m::r,σ=>bif Nat.ble 2000000 m then(match J1 (σ.slots (m-2000000)) with
  | some b=>match σ.mem b with
    | some bx=>match bx.val with
      | .data (.slice e) _=>match lR σ (.slice e) (σ.slots (m-2000000)) with
        | some (x,σ)=>qk r (σ.put (m-2000000) (.data (.slice e) x))
        | none=>none
      | _=>none
    | none=>none
  | none=>qk r σ) else qk r σ
def KY(nb:Nat)(bf:List Nat)(σ:St)(b:Nat):Bool:=bC (bf.map (nb+·)) b&&(match σ.mem b with|some x=>!x.buf&&!ud x.val|none=>false)
def uk(nb:Nat)(bf:List Nat)(σ:St)(p:Ac):Option Carry :=
 match LS cx σ p.S,KX σ (yx σ p.M) with
 | some s,some m=>some ⟨s,m,KY nb bf σ⟩
 | _,_=>none
variable (nb:Nat) (bf:List Nat) (inl:Nat→List av→St→Tree (av×St))
def ql{α:Type}:List Nat→Nat→(Nat→Tree α)→Tree α
 | [],_,_=>.fail
 | [e],_,f=>f e
 | e::r,i,f=>.node (Ju i 0) (f e) (ql r (i-1) f)
variable [Lp]
def again{S:Type}(f:S→Tree (Nat×S)):Nat→S→Tree (Nat×S)
 | 0,_=>.fail
 | n+1,s=>(f s).bind fun r=>bif Nat.beq r.1 0 then again f n r.2 else .ret r
def BN(p:Ac):Option Nat:=match p.M with
 | [m]=>bif Nat.ble 6000000 m then some (m-6000000) else none
 | _=>none
def rM(f:St→Tree (Nat×St))(c:Nat):Nat→Nat→St→Tree (Nat×St)
 | 0,_,_=>.fail
 | n+1,j,σ=>match σ.slots c with
   | .data (.int .i64) x=>.need (iG x j) ((f (σ.put c (.data (.int .i64) (j:Int)))).bind fun r=>bif Nat.beq r.1 0 then rM f c n (j+1) r.2 else .ret r)
   | _=>.fail
def eW:Code→List (Option Ac)→St→Tree (Nat×St)
 | .skip,_,σ=>.ret (0,σ)
 | .label _,_,σ=>.ret (0,σ)
 | .ret,_,σ=>.ret (1,σ)
 | .exit i,_,σ=>.ret (i+2,σ)
 | .region _ ops dr,_,σ=>(bif dr then lW cx nb bf inl ops σ else uH cx nb bf inl ops σ).bind fun σ=>.ret (0,σ)
 | .seq a b,pl,σ=>(eW a pl σ).bind fun r=>bif Nat.beq r.1 0 then eW b (pl.drop (marks a)) r.2 else .ret r
 | .block i a,pl,σ=>(eW a pl σ).bind fun r=>.ret (bif Nat.beq r.1 (i+2) then 0 else r.1,r.2)
 | .scope a,pl,σ=>eW a pl σ
 | .cond c a b,pl,σ=>match aZ σ c,pl with
   | .data .bool c,none::pl=>.node c (eW a pl σ) (eW b (pl.drop (marks a)) σ)
   | .data .bool c,some p::pl=>match qk p.M σ with
    | none=>.fail
    | some σ=>match uk cx nb bf σ p with
     | none=>.fail
     | some k =>
       let t:=Tree.node c (eW a pl (k.lock σ)) (eW b (pl.drop (marks a)) (k.lock σ))
       let wr:=writes a++writes b
       match jB a++(jB b).filter (fun e=>!bC (jB a) e) with
       | []=>(t.bind fun r=>bif Nat.beq r.1 0 then Tree.FJ (k.uL p.fz σ r.2) else .fail).join fun x=>.ret (0,k.jh p.fz false wr σ x)
       | es=>(t.bind fun r=>match tC (0::es) r.1,k.uL p.fz σ r.2 with
        | some i,some x=>.ret (i,x)
        | _,_=>.fail).join fun x=>ql (0::es) x.1 fun e=>.ret (e,k.jh p.fz false wr σ x.2)
   | _,_=>.fail
 | .loop a,pl,σ=>match pl with
   | some p::pl=>match BN p with
    | some c=>rM (fun σ=>eW a pl σ) c 100 0 σ
    | none=>match qk p.M σ with
    | none=>.fail
    | some σ=>match uk cx nb bf σ p with
     | none=>.fail
     | some k=>match k.out false σ σ with
       | none=>.fail
       | some x0 =>
         let wr:=writes a
         let es:=jB a
         let body (x:k.ty.den):Option (k.ty.den⊕(Nat×k.ty.den)):=((eW a pl (k.jh false true wr σ x)).bind fun r=>bif Nat.beq r.1 0 then(match k.out false σ r.2 with
           | some y=>.ret (.inl y)
           | none=>.fail)
          else match tC es r.1,k.uL p.fz σ r.2 with
           | some i,some y=>.ret (.inr (i,y))
           | _,_=>.fail).run
         match es with
         | [e]=>.look (Loop (fun x=>iK (body x)) x0) fun x=>.ret (e,k.jh p.fz false wr σ x)
         | es=>.look (Loop body x0) fun x=>ql es x.1 fun e=>.ret (e,k.jh p.fz false wr σ x.2)
   | none::pl=>again (fun σ=>eW a pl σ) 100000 σ
   | _=>.fail
 | _,_,_=>.fail
end
variable [Lp]
def Dn(mem:Nat→Option aI)(args:List av):St:={ slots:=fun t=>(args[t]?).getD .undef,mem }
def rN(cx:Ctx)(σ:St):ResultVar→Tree av
 | .tmp t=>.ret (σ.slots t)
 | .cell a ty=>(fh cx (some 0) ty (σ.slots a) σ).bind fun τ=>.ret (τ.slots 0)
def qm(cx:Ctx)(σ:St):List ResultVar→Tree av
 | []=>.ret .nl
 | r::rs=>(rN cx σ r).bind fun v=>(qm cx σ rs).bind fun l=>.ret (.mix v l)
def results1(cx:Ctx)(σ:St):List ResultVar→Tree av
 | [r]=>rN cx σ r
 | rs=>(qm cx σ rs).bind fun l=>.ret (.kN l)
def eX(mem:Nat→Option aI):St:={ slots:=fun _=>.undef,mem }
def Jx(cx:Ctx):List TypeId→Option (List Ty)
 | []=>some []
 | t::r=>match find cx.T t,Jx cx r with
   | some u,some l=>some (u::l)
   | _,_=>none
def joinTy(cx:Ctx)(res:List TypeId):List Nat→Option (Bool×List Ty)
 | []=>none
 | m::r=>bif Nat.ble 7000000 m&&Nat.ble m 7999999 then(bif Nat.beq m 7999999 then(Jx cx res).map fun l=>(true,l) else(find cx.T (m-7000000)).map fun R=>(false,[R])) else joinTy cx res r
def spread(kN:Bool)(v:av):Nat→av :=
 match kN,v with
 | false,v=>fun t=>bif Nat.beq t 0 then v else .undef
 | true,.kN m=>fun t=>match nth m t with|some u=>u|none=>.undef
 | true,_=>fun _=>.undef
def uM:av→Nat
 | .mix _ b=>uM b+1
 | _=>0
def Ad(kN:Bool)(v:av)(n:Nat):Bool :=
 match kN,v with
 | false,_=>Nat.beq n 1
 | true,.kN m=>Nat.beq (uM m) n
 | true,_=>false
def J2(slots:Nat→av):Nat→Nat→av
 | _,0=>.nl
 | i,n+1=>.mix (slots i) (J2 slots (i+1) n)
def yy(kN:Bool)(n:Nat)(slots:Nat→av):av :=
 match kN with
 | false=>slots 0
 | true=>.kN (J2 slots 0 n)
def FR(kN:Bool)(v:av)(mem:Nat→Option aI):St:={ slots:=spread kN v,mem }
def Dp:List Ty→Nat→List (Nat×Sh)
 | [],_=>[]
 | t::r,i=>(i,.d t)::Dp r (i+1)
def Dq(R:Bool×List Ty)(args:List av)(mem:Nat→Option aI)(F:(Nat→Option aI)→Tree (av×(Nat→Option aI))):Tree (av×(Nat→Option aI)) :=
 match KX (eX mem) (yx (Dn mem args) (List.range args.length)) with
 | none=>.fail
 | some m =>
   let k:Carry:=⟨Dp R.2 0,m,fun _=>false⟩
   let wr:=List.range R.2.length
   ((F (k.lock (eX mem)).mem).bind fun r=>bif Ad R.1 r.1 R.2.length then Tree.FJ (k.out false (eX mem) (FR R.1 r.1 r.2)) else .fail).join fun x =>
    .ret (yy R.1 R.2.length (k.jh false false wr (eX mem) x).slots,(k.jh false false wr (eX mem) x).mem)
def uN(cx:Ctx)(nb:Nat)(p:lX)(inl:Nat→List av→St→Tree (av×St))(fn:Func)(c:Code)(args:List av)(mem:Nat→Option aI):Tree (av×(Nat→Option aI)) :=
 (eW cx nb p.yu inl c p.marks (Dn mem args)).bind fun r =>
  bif Nat.beq r.1 0||Nat.beq r.1 1 then(results1 cx r.2 fn.results.toList).bind fun v=>.ret (v,r.2.mem) else .fail
def FT(mem:Nat→Option aI)(s:Nat):Nat→Nat→Nat
 | 0,b=>b
 | k+1,b=>match mem (b+s) with
   | none=>b
   | some _=>FT mem s k (b+200)
def pM(mem:Nat→Option aI)(b:Nat):List Nat→Nat
 | []=>b
 | m::r=>bif Nat.ble 9000000 m then FT mem (m-9000000) 4 b else pM mem b r
def mY(cx:Ctx):Nat→(nb:Nat)→(bS:Nat→lX)→Nat→List av→(Nat→Option aI)→Tree (av×(Nat→Option aI))
 | 0,_,_,_,_,_=>.fail
 | n+1,nb,bS,f,args,mem=>match find cx.fns f with
   | some fn=>match fn.body with
     | some c=>match joinTy cx fn.resultTypes.toList (bS f).yu with
       | none=>uN cx nb (bS f) (fun g xs σ=>(mY cx n (pM σ.mem ((nb+g+1)*1000) (bS g).yu) bS g xs σ.mem).bind fun r=>.ret (r.1,{ σ with mem:=r.2 })) fn c args mem
       | some R=>Dq R args mem (uN cx nb (bS f) (fun g xs σ=>(mY cx n (pM σ.mem ((nb+g+1)*1000) (bS g).yu) bS g xs σ.mem).bind fun r=>.ret (r.1,{ σ with mem:=r.2 })) fn c args)
     | none=>.fail
   | none=>.fail
def rO:(A:Ty)→A.den→List av
 | .pair t r,x=>.data t x.1::rO r x.2
 | _,_=>[]
def qn:av→List av
 | .mix a b=>a::qn b
 | _=>[]
def uO:(R:Ty)→av→List av
 | .pair _ .unit,v=>[v]
 | _,.kN v=>qn v
 | _,v=>[v]
def qo(k:Nat):Nat:=777000000+k
def HU(k:Nat):Nat:=778000000+k
def gj(k:Nat):Nat→List (Nat×Nat)
 | 0=>[]
 | n+1=>(qo k,0)::gj (k+1) n
def iO(k:Nat):Nat→List (Nat×Nat)
 | 0=>[]
 | n+1=>(HU k,0)::iO (k+1) n
def qp:List Bool→OT→(A:Ty)→A.den→Nat→List av
 | [],_,_,_,_=>[]
 | false::ps,U,A,x,k=>match A,x with
   | .pair t A,x=>.data t x.1::qp ps U A x.2 k
   | _,_=>[]
 | true::ps,U,A,x,k=>match U with
   | .pair o U=>.ptr (qo k) 0 []::qp ps U A x (k+o.nr)
   | _=>[]
def Ae(mem:Nat→Option aI):(U:OT)→Nat→Option (U.den×List (Nat×Nat)×List (Nat×Nat))
 | .pair o U,k=>match bJ mem o (.ptr (qo k) 0 []),Ae mem U (k+o.nr) with
   | some (x,N,M),some (u,N',M')=>some ((x,u),N++N',M++M')
   | _,_=>none
 | .unit,_=>some ((),[],[])
 | _,_=>none
def yz:List (Nat×Nat)→List (Nat×Nat)→Bool
 | [],[]=>true
 | (a,b)::r,(c,d)::s=>Nat.beq a c&&Nat.beq b d&&yz r s
 | _,_=>false
def J3(cx:Ctx)(n:Nat)(bS:Nat→lX)(f:Nat)(ps:List Bool)(A:Ty)(U:OT)(R:Ty)(x:A.den×U.den):Option (R.den×U.den) :=
 ((mY cx n 0 bS f (qp ps U A x.1 0) (dN U x.2 (gj 0 U.nr) (iO 0 U.nb))).bind fun r=>match eZ (eX r.2) R (uO R r.1) with
  | some (y,σ)=>(match Ae σ.mem U 0 with
    | some (u,N,M)=>bif yz N (gj 0 U.nr)&&uG (aF N M)&&uG (aF (gj 0 U.nr) (iO 0 U.nb)) then .ret (y,u) else .fail
    | none=>.fail)
  | none=>.fail).run
def sem(cx:Ctx)(n:Nat)(bS:Nat→lX)(f:Nat)(A R:Ty)(x:A.den):Option R.den :=
 ((mY cx n 0 bS f (rO A x) (fun _=>none)).bind fun r=>match eI (eX r.2) R (uO R r.1) with
  | some y=>.ret y
  | none=>.fail).run
end Go.Ge
