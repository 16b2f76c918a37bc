/- A ghost interpreter of the model's code, and that it tells the truth: part 1. It says of a function of plain data what a call of it comes to. -/
import Derived.WalkKit
set_option linter.unusedVariables false
set_option linter.unusedSectionVars false
set_option linter.unusedSimpArgs false
abbrev ax:=@Option.some.inj
abbrev dz:=@Nat.eq_of_beq_eq_true
abbrev cP:=@Bool.and_eq_true
abbrev cr:=@Prod.mk.inj
abbrev qV:=@List.getElem?_eq_getElem
abbrev pM:=@List.length_append
abbrev sK:=@List.mem_append_right
abbrev tC:=@List.mem_append_left
abbrev kS:=@Nat.le_refl
abbrev jk:=@cond_true
abbrev iE:=@Bool.not_eq_true'
abbrev iA:=@List.length_take
abbrev mJ:=@List.head_eq_of_cons_eq
abbrev lT:=@Nat.mul_le_mul_right
abbrev jU:=@Option.some.injEq
abbrev lU:=@List.getElem?_take
abbrev nF:=@List.mem_cons_of_mem
abbrev kV:=@List.length_cons
abbrev gj:=@cond_false
abbrev nG:=@List.mem_cons_self
abbrev nH:=@List.append_assoc
abbrev jq:=@Nat.le_trans
abbrev cT:=@if_neg
abbrev ou:=@List.length_drop
abbrev ek:=@if_pos
abbrev rz:=@List.getElem?_drop
abbrev oX:=@List.length_nil
abbrev mT:=@List.map_cons
abbrev ud:=@Nat.lt_of_lt_of_le
abbrev qm:=@List.drop_drop
abbrev oY:=@Nat.zero_add
abbrev ya:=@Nat.le_of_ble_eq_true
abbrev tc:=@List.map_append
abbrev oZ:=@Nat.zero_le
abbrev jr:=@if_true
abbrev wq:=@of_decide_eq_true
abbrev ue:=@List.drop_left
abbrev A6:=@List.take_append_drop
abbrev qn:=@Nat.add_mul
abbrev rF:=@Nat.succ_mul
abbrev A7:=@Bool.or_eq_false_iff
abbrev CE:=@List.take_of_length_le
abbrev wu:=@Option.map_some
abbrev wz:=@Nat.min_eq_left
abbrev yb:=@List.all_eq_true
abbrev FT:=@Array.getD_eq_getD_getElem?
abbrev zb:=@List.getElem?_map
abbrev FU:=@List.getD_eq_getElem?_getD
abbrev uf:=@Nat.add_zero
abbrev yc:=@decide_eq_false
abbrev A8:=@decide_eq_true_eq
abbrev wB:=@Nat.add_assoc
abbrev zd:=@Bool.or_eq_true
abbrev zf:=@List.length_map
abbrev D5:=@List.mem_of_getElem?
abbrev wC:=@Nat.lt_or_ge
abbrev A9:=@List.append_nil
abbrev FV:=@Classical.choose_spec
abbrev Kp:=@List.drop_append_of_le_length
abbrev Kq:=@List.eq_nil_of_length_eq_zero
abbrev CF:=@Option.bind_some
abbrev Ba:=@decide_eq_true
abbrev D6:=@List.ext_getElem?
abbrev D7:=@Int.toNat_natCast
abbrev CG:=@List.nil_append
abbrev FW:=@List.getElem_of_mem
abbrev FX:=@List.map_congr_left
abbrev D8:=@List.cons_append
abbrev FY:=@Bool.false_eq_true
abbrev IG:=@List.getElem?_eq_none
abbrev D9:=@List.mem_append
abbrev CH:=@List.mem_cons
abbrev Kr:=@List.drop_of_length_le
abbrev Ks:=@Array.getElem?_eq_none
abbrev M7:=@List.take_length_add_append
abbrev CI:=@Nat.beq_refl
abbrev CJ:=@Nat.le_of_eq
abbrev Kt:=@Array.getElem?_modify
abbrev Ea:=@Prod.mk.injEq
abbrev wD:=@if_false
abbrev M8:=@List.getElem?_append_left
abbrev FZ:=@List.drop_zero
abbrev M9:=@List.filterMap_cons_some
abbrev II:=@List.getElem_mem
abbrev Ku:=@Array.length_toList
abbrev Kv:=@Array.toList_append
abbrev Kw:=@Nat.eq_zero_or_pos
abbrev CK:=@Nat.mod_lt
abbrev IJ:=@List.cons.injEq
abbrev IK:=@List.drop_left'
abbrev IL:=@List.nodup_cons
abbrev O5:=@List.take_append_of_le_length
abbrev O6:=@Array.getElem?_setIfInBounds
abbrev IM:=@List.take_left
abbrev Na:=@List.length_singleton
abbrev Kx:=@Array.toList_map
abbrev IP:=@Bool.false_or
abbrev F0:=@Nat.mul_one
abbrev F1:=@decide_true
abbrev Nb:=@List.getElem?_range
abbrev Eb:=@List.take_left'
abbrev HK:=@Int.natAbs_natCast
abbrev Ec:=@List.take_zero
abbrev Ed:=@List.take_take
abbrev Ky:=@List.getElem?_replicate
abbrev Kz:=@List.getElem?_cons_zero
abbrev KA:=@List.getElem?_cons_succ
abbrev KB:=@decide_eq_false_iff_not
abbrev HL:=@List.getElem?_set
abbrev HM:=@Nat.lt_of_not_le
abbrev HN:=@List.take_length
abbrev HO:=@Nat.lt_succ_self
abbrev KC:=@Nat.div_lt_iff_lt_mul
abbrev KD:=@Array.getElem?_toList
abbrev KE:=@Array.mem_of_getElem?
abbrev KF:=@BitVec.eq_of_toNat_eq
abbrev Ee:=@Nat.zero_mul
abbrev KG:=@List.getElem?_append
abbrev Ef:=@List.map_map
abbrev KH:=@Int.toNat_of_nonneg
abbrev HP:=@List.drop_take
abbrev zg:=@and_self
abbrev HQ:=@List.mapM_cons
abbrev HR:=@Int.natAbs_neg
abbrev KI:=@List.filterMap_map
abbrev Oo:=@Array.toList_setIfInBounds
abbrev Oq:=@List.getElem?_append_right
abbrev Ot:=@Nat.mod_two_eq_zero_or_one
abbrev KJ:=@List.size_toArray
abbrev KK:=@Array.size_append
abbrev Eg:=@Array.ext'
abbrev Ou:=@List.sublist_append_right
abbrev Ov:=@List.drop_eq_getElem_cons
abbrev zh:=@Ne.symm
abbrev HS:=@Nat.add_comm
abbrev Ow:=@List.sublist_append_left
abbrev Ox:=@List.filterMap_cons_none
abbrev HT:=@decide_false
abbrev Oy:=@Array.setIfInBounds_comm
abbrev Oz:=@Bool.eq_false_or_eq_true
abbrev KL:=@Nat.div_add_mod
abbrev HU:=@Int.le_refl
abbrev OA:=@Bool.and_eq_false_iff
abbrev OB:=@List.filterMap_append
abbrev OC:=@List.getElem?_toArray
abbrev KM:=@Bool.or_false
abbrev KN:=@List.map_take
abbrev KO:=@Bool.or_assoc
abbrev KP:=@List.cons.inj
abbrev KQ:=@Nat.le_of_lt
abbrev KR:=@Nat.ne_of_gt
noncomputable section
namespace Go.Ge
inductive Ty where
 | int (k:IntKind)|bool|str|slice (e:Ty)|arr (n:Nat) (e:Ty)|pair (a b:Ty)|unit
 | alt (u:Nat) (a r:Ty)|td
def Ty.den:Ty→Type
 | .int _=>Int
 | .bool=>Bool
 | .str=>List UInt8
 | .slice e=>List e.den
 | .arr _ e=>List e.den
 | .pair a b=>a.den×b.den
 | .unit=>Unit
 | .alt _ a r=>a.den⊕r.den
 | .td=>Unit
def qW:IntKind→Nat
 | .i8=>0|.i16=>1|.i32=>2|.i64=>3|.u8=>4|.u16=>5|.u32=>6|.u64=>7
theorem pN{a b:IntKind}(h:Nat.beq (qW a) (qW b)=true):a=b:=by
 cases a<;>cases b<;>first|rfl|(exact absurd h (by decide))
def Ty.beq:Ty→Ty→Bool
 | .int k,.int k'=>Nat.beq (qW k) (qW k')
 | .bool,.bool=>true
 | .str,.str=>true
 | .slice e,.slice f=>Ty.beq e f
 | .arr n e,.arr m f=>Nat.beq n m&&Ty.beq e f
 | .pair a b,.pair c d=>Ty.beq a c&&Ty.beq b d
 | .unit,.unit=>true
 | .alt u a r,.alt v b s=>Nat.beq u v&&(Ty.beq a b&&Ty.beq r s)
 | .td,.td=>true
 | _,_=>false
theorem Ty.eq_of_beq:∀{a b:Ty},Ty.beq a b=true→a=b:=by
 intro a;induction a with
 | int k=>intro b h;cases b<;>first|(exact congrArg _ (pN h))|(cases h)
 | bool=>intro b h;cases b<;>first|rfl|(cases h)
 | str=>intro b h;cases b<;>first|rfl|(cases h)
 | slice e ih=>intro b h;cases b<;>first|(exact congrArg _ (ih h))|(cases h)
 | arr n e ih =>
   intro b h;cases b<;>first|(cases h;done)|skip
   simp only[Ty.beq,cP] at h;rw[dz h.1,ih h.2]
 | pair a b gy iu =>
   intro c h;cases c<;>first|(cases h;done)|skip
   simp only[Ty.beq,cP] at h;rw[gy h.1,iu h.2]
 | unit=>intro b h;cases b<;>first|rfl|(cases h)
 | alt u a r gy ihr =>
   intro c h;cases c<;>first|(cases h;done)|skip
   simp only[Ty.beq,cP] at h;rw[dz h.1,gy h.2.1,ihr h.2.2]
 | td=>intro b h;cases b<;>first|rfl|(cases h)
def Ty.to(t u:Ty)(x:t.den):Option u.den :=
 if h:Ty.beq t u=true then some ((Ty.eq_of_beq h)▸x) else none
theorem Ty.beq_refl(t:Ty):Ty.beq t t=true:=by
 induction t with
 | int k=>cases k<;>rfl
 | bool=>rfl
 | str=>rfl
 | slice e ih=>exact ih
 | arr n e ih=>simp[Ty.beq,ih]
 | pair a b gy iu=>simp[Ty.beq,gy,iu]
 | unit=>rfl
 | alt u a r gy ihr=>simp[Ty.beq,gy,ihr]
 | td=>rfl
theorem Ty.gL{t u:Ty}{x:t.den}{y:u.den}(h:Ty.to t u x=some y):∃e:t=u,y=e▸x:=by
 unfold Ty.to at h;split at h
 ·rename_i hb;exact⟨Ty.eq_of_beq hb,by simpa using h.symm⟩
 ·cases h
def toL(t u:Ty)(l:List t.den):Option (List u.den) :=
 if h:Ty.beq t u=true then some ((Ty.eq_of_beq h)▸l) else none
theorem gA{t u:Ty}{l:List t.den}{m:List u.den}(h:toL t u l=some m):∃e:t=u,m=e▸l:=by
 unfold toL at h;split at h
 ·rename_i hb;exact⟨Ty.eq_of_beq hb,by simpa using h.symm⟩
 ·cases h
def Ty.size:Ty→Nat
 | .int _|.bool|.str|.slice _=>1
 | .arr n e=>n*e.size
 | .pair a b=>a.size+b.size
 | .unit=>0
 | .alt _ _ r=>r.size
 | .td=>1
def Ty.isAgg:Ty→Bool
 | .arr ..|.pair ..|.unit=>true
 | .alt _ _ r=>r.isAgg
 | _=>false
def Ty.zero:(t:Ty)→t.den
 | .int _=>(0:Int)
 | .bool=>false
 | .str=>([]:List UInt8)
 | .slice _=>[]
 | .arr n e=>List.replicate n e.zero
 | .pair a b=>(a.zero,b.zero)
 | .unit=>()
 | .alt _ _ r=>.inr r.zero
 | .td=>()
def aO{α:Type}(c:Bool)(x y:α):α:=bif c then x else y
def ah{α β:Type}(o:Option α)(f:α→Option β):Option β:=o.bind f
def nt(b:Bool):Bool:=!b
def an(a b:Bool):Bool:=a&&b
def Rt(a b:Bool):Bool:=a||b
def b9(a b:Int):Bool:=decide (a=b)
def uQ(a b:Nat):Bool:=Nat.beq a b
def fE(a b:Int):Bool:=decide (a<b)
def yI(a b:Int):Bool:=decide (a≤b)
def ig(a b:List UInt8):Bool:=decide (a=b)
def OD(a b:List UInt8):Bool:=Op.bytesLess a b
def Ti(a b:List Int):Bool:=decide (a=b)
def F2(a b:Bool):Bool:=a==b
def kQ{S:Type}(o:Option (S⊕(Nat×S))):Option (S⊕S):=o.map fun r=>match r with|.inl x=>.inl x|.inr y=>.inr y.2
def bA(k:IntKind)(a b:Int):Int:=k.wrap (a+b)
def dn(k:IntKind)(a b:Int):Int:=k.wrap (a-b)
def iB(k:IntKind)(a b:Int):Int:=k.wrap (a*b)
def ug(k:IntKind)(a b:Int):Int:=k.wrap (a.tdiv b)
def gJ(a b:Int):Int:=a.tmod b
def kP(k:IntKind)(a:Int):Int:=k.wrap a
def ja(k:IntKind)(x y:Int):Int:=k.wrap (BitVec.ofInt k.bits x &&& BitVec.ofInt k.bits y).toNat
def pO(k:IntKind)(x y:Int):Int:=k.wrap (BitVec.ofInt k.bits x ||| BitVec.ofInt k.bits y).toNat
def ew(k:IntKind)(x y:Int):Int:=k.wrap (BitVec.ofInt k.bits x ^^^ BitVec.ofInt k.bits y).toNat
def OE(k:IntKind)(x y:Int):Int:=k.wrap (BitVec.ofInt k.bits x &&& ~~~BitVec.ofInt k.bits y).toNat
def O7(a b:Int):Int:=bif decide (b<a) then b else a
def imax(a b:Int):Int:=bif decide (a<b) then b else a
def iC(k:IntKind)(a b:Int):Int:=k.wrap (a*2 ^ (min b.toNat k.bits))
def ow(k:IntKind)(a b:Int):Int:=a.fdiv (2 ^ (min b.toNat k.bits))
def plus(a b:Int):Int:=a+b
def minus(a b:Int):Int:=a-b
def len{α:Type}(l:List α):Int:=l.length
def app{α:Type}(l m:List α):List α:=l++m
def one{α:Type}(x:α):List α:=[x]
def idx{α:Type}(l:List α)(i:Int):Option α:=if 0≤i then l[i.toNat]? else none
def qo{α:Type}(l:List α)(i:Int)(x:α):List α:=l.set i.toNat x
def CL{α:Type}(n:Int)(x:α):List α:=List.replicate n.toNat x
def sub{α:Type}(l:List α)(lo n:Int):List α:=(l.drop lo.toNat).take n.toNat
def iw{α:Type}(l:List α)(n:Int):List α:=l.take n.toNat
def over{α:Type}(l:List α)(lo:Int)(c:List α):List α:=l.take lo.toNat++c++l.drop (lo.toNat+c.length)
def pick{α β γ:Type}(f:α→γ)(g:β→γ)(x:α⊕β):γ:=match x with|.inl a=>f a|.inr b=>g b
def u8(b:UInt8):Int:=(b.toNat:Int)
def ak(s:List UInt8):List Int:=s.map fun b=>(b.toNat:Int)
def aG(l:List Int):List UInt8:=l.map fun n=>UInt8.ofNat n.toNat
def fits(n:Int):Bool:=decide (n≤4294967296)
def inside(a b n:Int):Bool:=decide (0≤a)&&decide (a≤b)&&decide (b≤n)
def within(i n:Int):Bool:=decide (0≤i)&&decide (i<n)
inductive Tree (α:Type):Type 1 where
 | ret (a:α)
 | fail
 | node (c:Bool) (t e:Tree α)
 | look {T:Type} (o:Option T) (k:T→Tree α)
namespace Tree
def bind{α β:Type}:Tree α→(α→Tree β)→Tree β
 | .ret a,f=>f a
 | .fail,_=>.fail
 | .node c t e,f=>.node c (t.bind f) (e.bind f)
 | .look o k,f=>.look o fun x=>(k x).bind f
def run{α:Type}:Tree α→Option α
 | .ret a=>some a
 | .fail=>none
 | .node c t e=>aO c t.run e.run
 | .look o k=>ah o fun x=>(k x).run
def join{T β:Type}(t:Tree T)(k:T→Tree β):Tree β :=
 match t with
 | .ret x=>k x
 | .node c (.ret x) (.ret y)=>k (aO c x y)
 | t=>.look t.run k
def need{α:Type}(c:Bool)(t:Tree α):Tree α:=.node c t .fail
def KS{α:Type}:Option α→Tree α
 | some a=>.ret a
 | none=>.fail
end Tree
inductive uh where
 | CM (k off:Nat)
 | idx (i:Int) (size:Nat)
inductive ay where
 | undef
 | data (t:Ty) (x:t.den)
 | js
 | kW
 | lV
 | oB (b aj:Nat)
 | cell (t:Ty) (x:t.den)
 | ptr (b aj:Nat) (p:List uh)
 | whole (b aj:Nat)
 | part (b aj:Nat) (lo n:Int)
 | win (b aj:Nat) (q:List uh) (e:Ty) (k:Nat) (lo n:Int)
 | fn (f:Nat) (caps:List (Nat×Nat))
 | mix (a b:ay)
 | om (vs:ay)
 | nl
structure aY where
 val:ay
 tid:TypeId
 buf:Bool
 ro:Bool
 lk:Bool
 aj:Nat
structure St where
 slots:Nat→ay
 mem:Nat→Option aY
structure jt where
 A:Ty
 R:Ty
 spec:A.den→Option R.den
inductive OT where
 | dat (t:Ty)
 | buf (e:Ty) (cq:Nat)
 | ref (tid:Nat) (o:OT)
 | pair (a b:OT)
 | unit
def OT.den:OT→Type
 | .dat t=>t.den
 | .buf e _=>List e.den
 | .ref _ o=>o.den
 | .pair a b=>a.den×b.den
 | .unit=>Unit
def OT.nr:OT→Nat
 | .ref _ o=>o.nr+1
 | .pair a b=>a.nr+b.nr
 | _=>0
def OT.nb:OT→Nat
 | .buf ..=>1
 | .ref _ o=>o.nb
 | .pair a b=>a.nb+b.nb
 | _=>0
structure jX where
 ps:List Bool
 A:Ty
 U:OT
 R:Ty
 spec:A.den×U.den→Option (R.den×U.den)
inductive jl where
 | dat (t:Ty)
 | buf (e:Ty) (cq:Nat)
 | one
 | self
inductive Ka where
 | KT (T:Nat)
 | str (T E:Nat)
 | clone (e:Ty)
 | own (e A:Ty) (res:Bool) (spec:List e.den→A.den→Option (List e.den))
 | rG (g:Nat)
structure Ctx where
 T:List (Nat×Ty)
 lW:List Nat
 en:List Nat
 fns:List (Nat×Func)
 fH:List (Nat×jt)
 bU:List (Nat×jX)
 mU:List (Nat×List jl)
 D2:List (Nat×Ka)
 els:List (Nat×Nat)
 inv:List (String×jt)
def Eh{α:Type}:List (String×α)→String→Option α
 | [],_=>none
 | (i,a)::r,k=>bif decide (i=k) then some a else Eh r k
def find{α:Type}:List (Nat×α)→Nat→Option α
 | [],_=>none
 | (i,a)::r,k=>bif Nat.beq i k then some a else find r k
def St.put(σ:St)(d:Nat)(v:ay):St:={ σ with slots:=fun t=>bif Nat.beq t d then v else σ.slots t }
def St.aD(σ:St)(d:Option Nat)(v:ay):St:=match d with|some d=>σ.put d v|none=>σ
def St.bJ(σ:St)(b:Nat)(x:aY):St:={ σ with mem:=fun i=>bif Nat.beq i b then some x else σ.mem i }
def St.aA{β:Type}(σ:St)(b:Nat)(val:ay)(tid:TypeId)(buf:Bool)(k:Nat→St→Tree β):Tree β :=
 match σ.mem b with
 | some bx=>bif bx.lk then .fail else k (bx.aj+1) (σ.bJ b { val,tid,buf,ro:=false,lk:=false,aj:=bx.aj+1 })
 | none=>k 0 (σ.bJ b { val,tid,buf,ro:=false,lk:=false,aj:=0 })
def b6:List Nat→Nat→Bool
 | [],_=>false
 | i::r,t=>Nat.beq t i||b6 r t
def zi:Value→ay
 | .int k n=>bif decide (k.min≤n)&&decide (n≤k.max) then .data (.int k) n else .undef
 | .bool b=>.data .bool b
 | .string s=>bif Nat.ble s.data.toList.length 4294967296 then .data .str s.data.toList else .undef
 | .pointer none=>.kW
 | .nilIface=>.lV
 | .slice none 0 0=>.js
 | _=>.undef
def bN(σ:St):Operand→ay
 | .tmp t=>σ.slots t
 | .const v=>zi v
 | .func f=>.fn f []
 | .global _=>.undef
def gk:Ty→Nat→Option Nat
 | .pair _ _,0=>some 0
 | .pair a b,k+1=>(gk b k).map (a.size+·)
 | _,_=>none
def bY:ay→Nat
 | .data t _=>t.size
 | .mix a b=>bY a+bY b
 | .nl=>0
 | _=>1
def jF:(t:Ty)→t.den→Nat→Option (Nat×ay)
 | .pair a _,x,0=>some (0,.data a x.1)
 | .pair a b,x,k+1=>match jF b x.2 k with|some r=>some (a.size+r.1,r.2)|none=>none
 | _,_,_=>none
def iF:ay→Nat→Option (Nat×ay)
 | .data t x,k=>jF t x k
 | .mix a _,0=>some (0,a)
 | .mix a b,k+1=>match iF b k with|some r=>some (bY a+r.1,r.2)|none=>none
 | _,_=>none
def IQ(t:Ty):ay→Option t.den
 | .data u x=>Ty.to u t x
 | .js=>match t with|.slice _=>some []|_=>none
 | _=>none
def toS(t:Ty):ay→Option t.den
 | .data u x=>Ty.to u t x
 | _=>none
def yJ:(t:Ty)→t.den→Nat→(ay→Tree ay)→Tree t.den
 | .pair a b,x,0,f=>(f (.data a x.1)).bind fun v=>match toS a v with
   | some y=>.ret (y,x.2)
   | none=>.fail
 | .pair a b,x,k+1,f=>(yJ b x.2 k f).bind fun y=>.ret (x.1,y)
 | _,_,_,_=>.fail
def wE:ay→Nat→(ay→Tree ay)→Tree ay
 | .data t x,k,f=>(yJ t x k f).bind fun y=>.ret (.data t y)
 | .mix a b,0,f=>(f a).bind fun v=>.ret (.mix v b)
 | .mix a b,k+1,f=>(wE b k f).bind fun v=>.ret (.mix a v)
 | _,_,_=>.fail
def IU:List uh→ay→Tree ay
 | [],v=>.ret v
 | .CM k off::p,v=>match iF v k with
   | some (o,u)=>bif Nat.beq o off then IU p u else .fail
   | none=>.fail
 | .idx i size::p,v=>match v with
   | .data (.arr _ e) l=>bif Nat.beq size e.size then .look (idx (α:=e.den) l i) fun x=>IU p (.data e x) else .fail
   | _=>.fail
def IV(buf:Bool)(p:List uh)(v:ay):Tree ay :=
 match buf with
 | false=>IU p v
 | true=>match p,v with
   | .idx i size::p,.data (.slice e) l=>bif Nat.beq size e.size then .look (idx (α:=e.den) l i) fun x=>IU p (.data e x) else .fail
   | _,_=>.fail
def o5:List uh→ay→ay→Tree ay
 | [],_,u=>.ret u
 | .CM k off::p,v,u=>wE v k fun w=>o5 p w u
 | .idx i size::p,v,u=>match v with
   | .data (.arr n e) l=>.look (idx (α:=e.den) l i) fun x=>(o5 p (.data e x) u).bind fun w=>match toS e w with
     | some y=>.ret (.data (.arr n e) (qo (α:=e.den) l i y))
     | none=>.fail
   | _=>.fail
def yK(buf:Bool)(p:List uh)(v u:ay):Tree ay :=
 match buf with
 | false=>o5 p v u
 | true=>match p,v with
   | .idx i size::p,.data (.slice e) l=>.look (idx (α:=e.den) l i) fun x=>(o5 p (.data e x) u).bind fun w=>match toS e w with
     | some y=>.ret (.data (.slice e) (qo (α:=e.den) l i y))
     | none=>.fail
   | _,_=>.fail
namespace Tree
theorem run_bind{α β:Type}(t:Tree α)(f:α→Tree β):(t.bind f).run=t.run.bind fun a=>(f a).run:=by
 induction t with
 | ret a=>rfl
 | fail=>rfl
 | node c t e F3 T3=>cases c<;>simp[bind,run,F3,T3,aO]
 | look o k ih=>cases o<;>simp[bind,run,ih,ah]
theorem rH{T β:Type}(t:Tree T)(k:T→Tree β):(t.join k).run=t.run.bind fun a=>(k a).run:=by
 unfold join;split
 ·rfl
 ·rename_i c x y;cases c<;>rfl
 ·rfl
end Tree
end Go.Ge
namespace Go.Ge
def nI:Ty→Nat→Option Ty
 | .pair a _,0=>some a
 | .pair _ b,k+1=>nI b k
 | _,_=>none
def Ty.flat:Ty→Bool
 | .slice _=>false
 | .arr _ e=>e.flat
 | .pair a b=>a.flat&&b.flat
 | .alt _ a r=>a.flat&&r.flat
 | _=>true
def aY.row(bx:aY):Option (Ty×Nat) :=
 match bx.buf,bx.val with
 | true,.data (.slice e) l=>some (e,List.length (α:=e.den) l)
 | false,.data (.arr n e) _=>some (e,n)
 | _,_=>none
def eK(e:Ty)(σ:St):ay→Option (List e.den)
 | .data (.slice u) l=>toL u e l
 | .js=>some []
 | .whole b aj=>match σ.mem b with
   | some bx=>bif Nat.beq bx.aj aj&&bx.buf then(match bx.val with|.data (.slice u) l=>toL u e l|_=>none) else none
   | none=>none
 | .part b aj lo n=>match σ.mem b with
   | some bx=>bif Nat.beq bx.aj aj then(match bx.buf,bx.val with
     | true,.data (.slice u) l=>toL u e (sub (α:=u.den) l lo n)
     | false,.data (.arr _ u) l=>toL u e (sub (α:=u.den) l lo n)
     | _,_=>none) else none
   | none=>none
 | _=>none
def live(σ:St)(b aj:Nat):Bool:=match σ.mem b with|some bx=>Nat.beq bx.aj aj|none=>false
def kR(σ:St):(t:Ty)→ay→Option t.den
 | .slice e,v=>(eK e σ v:Option (List e.den))
 | .pair a b,v=>match v with
   | .data u x=>Ty.to u (.pair a b) x
   | .mix p q=>(match kR σ a p,kR σ b q with
     | some x,some y=>some (x,y)
     | _,_=>none)
   | _=>none
 | .alt n a r,v=>match v with
   | .data u x=>Ty.to u (.alt n a r) x
   | .lV=>match kR σ r .lV with
     | some x=>some (.inr x)
     | none=>none
   | _=>none
 | .td,v=>match v with
   | .data u x=>Ty.to u .td x
   | .lV=>some ()
   | _=>none
 | t,v=>match v with
   | .data u x=>Ty.to u t x
   | _=>none
def freeze(σ:St)(b:Nat):Option St :=
 match σ.mem b with
 | some bx=>bif bx.ro then some σ else bif bx.lk then none else some (σ.bJ b { bx with ro:=true })
 | none=>none
def eT(σ:St):ay→Option St
 | .whole b _=>freeze σ b
 | .part b _ _ _=>freeze σ b
 | .mix v w=>match eT σ v with
   | some σ=>eT σ w
   | none=>none
 | _=>some σ
def pP(σ:St)(t:Ty)(v:ay):Option (t.den×St) :=
 match v with
 | .data u x=>match Ty.to u t x with|some y=>some (y,σ)|none=>none
 | v=>match kR σ t v,eT σ v with
   | some x,some σ=>some (x,σ)
   | _,_=>none
def fy(σ:St):(A:Ty)→List ay→Option A.den
 | .unit,[]=>some ()
 | .pair t r,v::vs=>match kR σ t v,fy σ r vs with
   | some x,some y=>some (x,y)
   | _,_=>none
 | _,_=>none
def gM(σ:St):(A:Ty)→List ay→Option (A.den×St)
 | .unit,[]=>some ((),σ)
 | .pair t r,v::vs=>match pP σ t v with
   | some (x,σ)=>match gM σ r vs with
     | some (y,σ)=>some ((x,y),σ)
     | none=>none
   | none=>none
 | _,_=>none
def rI:(R:Ty)→R.den→ay
 | .pair t r,x=>.mix (.data t x.1) (rI r x.2)
 | _,_=>.nl
def nJ(R:Ty)(x:R.den):ay :=
 match R,x with
 | .pair t .unit,x=>.data t x.1
 | R,x=>.om (rI R x)
def nth:ay→Nat→Option ay
 | .mix a _,0=>some a
 | .mix _ b,k+1=>nth b k
 | _,_=>none
def bitsOf(op:BinOp)(k:IntKind)(x y:Int):Option Int :=
 match op with
 | .and=>some (ja k x y)
 | .or=>some (pO k x y)
 | .xor=>some (ew k x y)
 | .andNot=>some (OE k x y)
 | _=>none
def Ty.eqv:(t:Ty)→t.den→t.den→Option Bool
 | .int _,x,y=>some (b9 x y)
 | .bool,x,y=>some (F2 x y)
 | .str,x,y=>some (ig x y)
 | .pair a b,x,y=>match Ty.eqv a x.1 y.1,Ty.eqv b x.2 y.2 with
   | some p,some q=>some (an p q)
   | _,_=>none
 | .unit,_,_=>some true
 | .arr _ e,x,y=>match e,x,y with
   | .int _,x,y=>some (Ti x y)
   | _,_,_=>none
 | _,_,_=>none
def Ty.uR:Ty→Nat
 | .pair a b=>a.uR+b.uR+1
 | .arr _ e=>e.uR+1
 | _=>1
def F4(op:BinOp)(k:IntKind)(a b:Int):Tree ay :=
 match op with
 | .add=>.ret (.data (.int k) (bA k a b))
 | .sub=>.ret (.data (.int k) (dn k a b))
 | .mul=>.ret (.data (.int k) (iB k a b))
 | .quo=>.node (b9 b 0) .fail (.ret (.data (.int k) (ug k a b)))
 | .rem=>.node (b9 b 0) .fail (.ret (.data (.int k) (gJ a b)))
 | .eql=>.ret (.data .bool (b9 a b))
 | .neq=>.ret (.data .bool (nt (b9 a b)))
 | .lss=>.ret (.data .bool (fE a b))
 | .leq=>.ret (.data .bool (yI a b))
 | .gtr=>.ret (.data .bool (fE b a))
 | .geq=>.ret (.data .bool (yI b a))
 | op=>match bitsOf op k a b with
   | some c=>.ret (.data (.int k) c)
   | none=>.fail
def F5(op:BinOp)(x y:List UInt8):Tree ay :=
 match op with
 | .add=>.need (fits (plus (len x) (len y))) (.ret (.data .str (app x y)))
 | .eql=>.ret (.data .bool (ig x y))
 | .neq=>.ret (.data .bool (nt (ig x y)))
 | .lss=>.ret (.data .bool (OD x y))
 | .leq=>.ret (.data .bool (Rt (OD x y) (ig x y)))
 | .gtr=>.ret (.data .bool (nt (Rt (OD x y) (ig x y))))
 | .geq=>.ret (.data .bool (nt (OD x y)))
 | _=>.fail
def isEq:BinOp→Option Bool
 | .eql=>some true
 | .neq=>some false
 | _=>none
def uS:BinOp→Option Bool
 | .shl=>some true
 | .shr=>some false
 | _=>none
def wF(o:Option Ty)(t:Ty):Bool:=match o with|some u=>Ty.beq u t|none=>false
def bin(tt:Option Ty)(pt:Bool)(op:BinOp)(x y:ay):Tree ay :=
 match x,y with
 | .data (.int k) a,.data (.int k') b =>
   match uS op with
   | some left=>.node (fE b 0) .fail (.ret (.data (.int k) (bif left then iC k a b else ow k a b)))
   | none=>bif Nat.beq (qW k) (qW k') then F4 op k a b else .fail
 | .data .str a,.data .str b=>F5 op a b
 | .data .bool a,.data .bool b=>bif wF tt .bool then(match isEq op with
   | some true=>.ret (.data .bool (F2 a b))
   | some false=>.ret (.data .bool (nt (F2 a b)))
   | none=>.fail) else .fail
 | .data (.pair a b) x,.data t y=>bif wF tt (.pair a b)&&Nat.ble (Ty.pair a b).uR 9000 then(match Ty.to t (.pair a b) y,isEq op with
   | some y,some e=>match Ty.eqv (.pair a b) x y with
     | some c=>.ret (.data .bool (bif e then c else nt c))
     | none=>.fail
   | _,_=>.fail) else .fail
 | .data (.arr n e) x,.data t y=>bif wF tt (.arr n e)&&Nat.ble (Ty.arr n e).uR 9000 then(match Ty.to t (.arr n e) y,isEq op with
   | some y,some q=>match Ty.eqv (.arr n e) x y with
     | some c=>.ret (.data .bool (bif q then c else nt c))
     | none=>.fail
   | _,_=>.fail) else .fail
 | .kW,.kW=>match pt,isEq op with|true,some e=>.ret (.data .bool e)|_,_=>.fail
 | _,_=>.fail
def KU(σ:St)(tt:Option Ty)(pt:Bool)(op:BinOp)(x y:ay):Tree ay :=
 match x,y with
 | .ptr b aj _,.kW=>bif live σ b aj&&pt then(match isEq op with|some e=>.ret (.data .bool (!e))|none=>.fail) else .fail
 | .kW,.ptr b aj _=>bif live σ b aj&&pt then(match isEq op with|some e=>.ret (.data .bool (!e))|none=>.fail) else .fail
 | x,y=>bin tt pt op x y
def CN(least:Bool)(x y:ay):Tree ay :=
 match x,y with
 | .data (.int k) a,.data (.int k') b=>bif Nat.beq (qW k) (qW k') then .ret (.data (.int k) (bif least then O7 a b else imax a b)) else .fail
 | _,_=>.fail
def un(op:UnOp)(x:ay):Tree ay :=
 match op,x with
 | .not,.data .bool b=>.ret (.data .bool (nt b))
 | .neg,.data (.int k) n=>.ret (.data (.int k) (dn k 0 n))
 | .xor,.data (.int k) n=>.ret (.data (.int k) (ew k (bif k.signed then -1 else k.max) n))
 | _,_=>.fail
def zj:(t:Ty)→t.den→Nat→(u:Ty)→u.den→Option t.den
 | .pair a b,x,0,u,y=>match Ty.to u a y with|some y=>some (y,x.2)|none=>none
 | .pair a b,x,k+1,u,y=>match zj b x.2 k u y with|some z=>some (x.1,z)|none=>none
 | _,_,_,_,_=>none
def eL(σ:St)(t:Ty)(x:t.den):List (Nat×Operand)→Option (t.den×St)
 | []=>some (x,σ)
 | (k,o)::r=>match nI t k with
   | some u=>match pP σ u (bN σ o) with
     | some (y,σ)=>match zj t x k u y with
       | some x=>eL σ t x r
       | none=>none
     | none=>none
   | none=>none
def eF(σ:St)(e:Ty)(l:List e.den):List (Nat×Operand)→Option (List e.den×St)
 | []=>some (l,σ)
 | (k,o)::r=>match pP σ e (bN σ o) with
   | some (y,σ)=>bif Nat.blt k l.length then eF σ e (l.set k y) r else none
   | none=>none
def lenOf(σ:St):ay→Option Int
 | .data .str s=>some (len (α:=UInt8) s)
 | .data (.slice e) l=>some (len (α:=e.den) l)
 | .data (.arr n _) _=>bif Nat.ble n 4294967296 then some n else none
 | .js=>some 0
 | .whole b aj=>match σ.mem b with
   | some bx=>bif Nat.beq bx.aj aj&&bx.buf then(match bx.val with|.data (.slice u) l=>some (len (α:=u.den) l)|_=>none) else none
   | none=>none
 | .part b aj _ n=>bif live σ b aj then some n else none
 | _=>none
def HV(o:Option Ty):ay→Bool
 | .data .str _=>wF o .str
 | .data (.slice e) _=>wF o (.slice e)
 | .data (.arr n e) _=>wF o (.arr n e)
 | .js|.whole ..|.part ..=>match o with|some (.slice _)=>true|_=>false
 | _=>false
def bounds(σ:St)(n:Int)(lo hi:Option Operand):Option (Int×Int) :=
 match lo,hi with
 | none,none=>some (0,n)
 | some a,none=>match bN σ a with|.data (.int _) x=>some (x,n)|_=>none
 | none,some b=>match bN σ b with|.data (.int _) y=>some (0,y)|_=>none
 | some a,some b=>match bN σ a,bN σ b with|.data (.int _) x,.data (.int _) y=>some (x,y)|_,_=>none
def isRef:ay→Bool
 | .ptr ..|.whole ..|.part ..|.fn ..|.kW|.lV|.oB ..|.mix ..|.cell ..|.js=>true
 | _=>false
section
variable (cx:Ctx) (nb:Nat) (bf:List Nat) (inl:Nat→List ay→St→Tree (ay×St))
def gm(d:Option Nat)(ty:TypeId)(v:ay)(σ:St):Tree St :=
 match v with
 | .undef=>bif b6 cx.lW ty then .ret (σ.aD d .undef) else .fail
 | .js=>match d,find cx.T ty with
   | some d,some (.slice e)=>bif b6 bf d then σ.aA (nb+d) (.data (.slice e) []) 0 true fun aj σ=>.ret (σ.put d (.whole (nb+d) aj))
     else .ret (σ.put d (.data (.slice e) []))
   | _,_=>.ret (σ.aD d .js)
 | v=>.ret (σ.aD d v)
def ju(d:Option Nat)(c a b:ay)(σ:St):Tree St :=
 match c with
 | .data .bool c=>match a,b with
   | .data t x,.data u y=>match Ty.to u t y with
     | some y=>.ret (σ.aD d (.data t (aO c x y)))
     | none=>.fail
   | a,b=>.node c (.ret (σ.aD d a)) (.ret (σ.aD d b))
 | _=>.fail
def KV:(t:Ty)→t.den→ay
 | .pair a b,x=>.mix (.data a x.1) (KV b x.2)
 | t,x=>.data t x
def KW:ay→ay
 | .data t x=>KV t x
 | v=>v
def IW:Ty→ay→Bool
 | .slice _,.whole ..=>true
 | t,.data u _=>Ty.beq u t
 | _,_=>false
def Ei:Ty→ay→Bool
 | .pair a b,.mix p q=>IW a p&&Ei b q
 | t,.data u _=>Ty.beq u t
 | _,_=>false
def KX(u:Ty):ay→Bool
 | .whole b aj=>IW u (.whole b aj)
 | .mix p q=>Ei u (.mix p q)
 | _=>false
def KY:ay→Bool
 | .data (.pair _ _) _=>true
 | .mix ..=>true
 | _=>false
def qp(ty:TypeId):ay→Bool
 | .mix p q=>match find cx.T ty with|some u=>Ei u (.mix p q)|none=>false
 | _=>false
def o6(ty:TypeId):ay→Bool
 | .data u _=>wF (find cx.T ty) u
 | .whole ..=>match find cx.T ty with|some (.slice _)=>true|_=>false
 | .ptr ..|.kW|.fn ..=>b6 cx.lW ty
 | _=>false
def gR(d:Option Nat)(ty:TypeId)(a:ay)(σ:St):Tree St :=
 match a with
 | .cell u x=>bif wF (find cx.T ty) u then .ret (σ.aD d (.data u x)) else .fail
 | .ptr b aj p=>match σ.mem b with
   | some bx=>bif Nat.beq bx.aj aj then(IV bx.buf p bx.val).bind fun v=>bif o6 cx ty v||qp cx ty v then .ret (σ.aD d v) else .fail else .fail
   | none=>.fail
 | _=>.fail
def storeAt(b aj:Nat)(p:List uh)(fit:ay→Bool)(v:ay)(σ:St):Tree St :=
 match σ.mem b with
 | some bx=>bif Nat.beq bx.aj aj&&!bx.lk&&!bx.ro then
    (IV bx.buf p bx.val).bind fun old=>bif fit old then(yK bx.buf p bx.val v).bind fun c=>.ret (σ.bJ b { bx with val:=c }) else .fail
   else .fail
 | none=>.fail
def lC(b aj:Nat)(p:List uh)(n:Nat)(v:ay)(σ:St):Tree St :=
 match σ.mem b with
 | some bx=>bif Nat.beq bx.aj aj&&!bx.lk&&!bx.ro&&!bx.buf&&KY bx.val then
    (IU p (KW bx.val)).bind fun old=>bif Nat.beq (bY old) n then(o5 p (KW bx.val) v).bind fun c=>bif KY c then .ret (σ.bJ b { bx with val:=c }) else .fail else .fail
   else .fail
 | none=>.fail
def IX(u:Ty):ay→Bool
 | .data t _=>Ty.beq t u
 | _=>false
def HW:ay→Bool
 | .undef=>true
 | _=>false
def gX(ty:TypeId)(a v:ay)(σ:St):Tree St :=
 match a with
 | .ptr b aj p=>match σ.mem b with
   | some bx=>bif Nat.beq bx.aj aj then(IV bx.buf p bx.val).bind fun old=>match old with
      | .data u _=>bif wF (find cx.T ty) u then(bif b6 bf 8000000&&KX u v then lC b aj p u.size v σ else match pP σ u v with
       | some (y,σ)=>storeAt b aj p (IX u) (.data u y) σ
       | none=>.fail) else .fail
      | _=>bif o6 cx ty v&&isRef v then storeAt b aj p (fun old=>(o6 cx ty old&&isRef old)||HW old) v σ else .fail
     else .fail
   | none=>.fail
 | _=>.fail
def gY(d:Option Nat)(ty:TypeId)(x:ay)(lo hi:Option Operand)(σ:St):Tree St :=
 match find cx.T ty,x with
 | some .str,.data .str s=>match bounds σ (len (α:=UInt8) s) lo hi with
   | some (a,b)=>.need (inside a b (len (α:=UInt8) s)) (.ret (σ.aD d (.data .str (sub (α:=UInt8) s a (minus b a)))))
   | none=>.fail
 | some (.slice u),.data (.slice e) l=>bif Ty.beq u e then(match bounds σ (len (α:=e.den) l) lo hi with
   | some (a,b)=>.need (inside a b (len (α:=e.den) l)) (.ret (σ.aD d (.data (.slice e) (sub (α:=e.den) l a (minus b a)))))
   | none=>.fail) else .fail
 | some (.slice u),.part c aj l n=>match σ.mem c with
   | some bx=>bif Nat.beq bx.aj aj&&(match bx.row with|some (e,_)=>Ty.beq u e|none=>false) then(match bounds σ n lo hi with
     | some (a,b)=>.need (inside a b n) (.ret (σ.aD d (.part c aj (plus l a) (minus b a))))
     | none=>.fail) else .fail
   | none=>.fail
 | some (.slice u),.whole c aj=>match σ.mem c with
   | some bx=>bif Nat.beq bx.aj aj&&bx.buf then(match bx.val with
     | .data (.slice e) l=>bif Ty.beq u e then(match lo,hi with
       | none,none=>.ret (σ.aD d (.whole c aj))
       | lo,hi=>match bounds σ (len (α:=e.den) l) lo hi with
         | some (a,b)=>.need (inside a b (len (α:=e.den) l)) (.ret (σ.aD d (.part c aj a (minus b a))))
         | none=>.fail) else .fail
     | _=>.fail) else .fail
   | none=>.fail
 | some (.arr m u),.ptr c aj (s::q)=>bif live σ c aj&&Nat.ble m 4294967296 then(match bounds σ m lo hi with
   | some (a,b)=>.need (inside a b m) (.ret (σ.aD d (.win c aj (s::q) u m a (minus b a))))
   | none=>.fail) else .fail
 | some (.arr m u),.ptr c aj []=>match σ.mem c with
   | some bx=>bif Nat.beq bx.aj aj&&!bx.buf then(match bx.val with
     | .data (.arr n e) _=>bif Nat.beq m n&&Ty.beq u e&&Nat.ble n 4294967296 then(match bounds σ n lo hi with
       | some (a,b)=>.need (inside a b n) (.ret (σ.aD d (.part c aj a (minus b a))))
       | none=>.fail) else .fail
     | _=>.fail) else .fail
   | none=>.fail
 | _,_=>.fail
def qq(σ:St)(b aj:Nat):Option (Ty×Int):=match σ.mem b with
 | some bx=>bif Nat.beq bx.aj aj then(match bx.buf,bx.val with
   | true,.data (.slice e) l=>some (e,len (α:=e.den) l)
   | false,.data (.arr n e) _=>some (e,n)
   | _,_=>none) else none
 | none=>none
def B6(ty:TypeId):Option Nat :=
 match find cx.T ty with
 | some _=>none
 | none=>match find cx.els ty with
   | some e=>bif b6 cx.lW e then some e else none
   | none=>none
def zk(d:Option Nat)(b aj:Nat)(σ:St)(i:Int):Nat→Nat→Tree St
 | 0,_=>.fail
 | m+1,k=>.node (b9 i k) (.ret (σ.aD d (.ptr b aj [.CM k k]))) (zk d b aj σ i m (k+1))
def yL:List uh→Bool
 | [.CM _ off]=>Nat.beq off 0
 | _=>false
def cQ(d:Option Nat)(ty:TypeId)(x:ay)(i:Int)(σ:St):Tree St :=
 match find cx.T ty,x with
 | some (.slice u),.data (.slice e) l=>bif Ty.beq u e then .look (idx (l:List e.den) i) fun y=>.ret (σ.aD d (.cell e y)) else .fail
 | some (.arr m u),.cell (.arr n e) l=>bif Ty.beq u e&&Nat.beq m n then .look (idx (l:List e.den) i) fun y=>.ret (σ.aD d (.cell e y)) else .fail
 | some (.slice u),.whole b aj=>match qq σ b aj with
   | some (e,n)=>bif Ty.beq u e then .need (within i n) (.ret (σ.aD d (.ptr b aj [.idx i e.size]))) else .fail
   | none=>.fail
 | some (.slice u),.part b aj lo n=>match qq σ b aj with
   | some (e,_)=>bif Ty.beq u e then .need (within i n) (.ret (σ.aD d (.ptr b aj [.idx (plus lo i) e.size]))) else .fail
   | none=>.fail
 | some (.arr m u),.ptr b aj p=>bif live σ b aj then .need (within i m) (.ret (σ.aD d (.ptr b aj (p++[.idx i u.size])))) else .fail
 | none,.win b aj q _ _ lo n=>match B6 cx ty with
   | some _=>bif yL q&&decide (lo=0)&&live σ b aj then zk d b aj σ i n.toNat 0 else .fail
   | none=>.fail
 | _,_=>.fail
def gZ(d:Option Nat)(ty:TypeId)(x:ay)(i:Int)(σ:St):Tree St :=
 match x,B6 cx ty with
 | .win b aj q _ _ lo n,some _=>bif yL q&&decide (lo=0)&&live σ b aj then(match i with
  | .ofNat k=>bif decide ((k:Int)<n) then .ret (σ.aD d (.ptr b aj [.CM k k])) else .fail
  | .negSucc _=>.fail) else .fail
 | x,_=>cQ cx d ty x i σ
def hJ(d:Option Nat)(ty:TypeId)(x:ay)(i:Int)(σ:St):Tree St :=
 match find cx.T ty,x with
 | some .str,.data .str s=>.look (idx (s:List UInt8) i) fun b=>.ret (σ.aD d (.data (.int .u8) (u8 b)))
 | some (.arr m u),.data (.arr n e) l=>bif Ty.beq u e&&Nat.beq m n then .look (idx (l:List e.den) i) fun y=>.ret (σ.aD d (.data e y)) else .fail
 | _,_=>.fail
def jl.size:jl→Nat
 | .dat t=>t.size
 | _=>1
def qt:List jl→Nat→Option Nat
 | [],_=>none
 | _::_,0=>some 0
 | f::r,k+1=>match qt r k with|some o=>some (f.size+o)|none=>none
def dw(d:Option Nat)(s:TypeId)(x:ay)(k:Nat)(σ:St):Tree St :=
 match x with
 | .cell u y=>bif wF (find cx.T s) u then(match iF (.data u y) k with
   | some (_,.data t z)=>.ret (σ.aD d (.cell t z))
   | _=>.fail) else .fail
 | .ptr b aj p=>bif live σ b aj then(match find cx.T s with
   | some t=>match gk t k,nI t k with
     | some off,some _=>.ret (σ.aD d (.ptr b aj (p++[.CM k off])))
     | _,_=>.fail
   | none=>match find cx.mU s with
     | some fs=>match qt fs k with
       | some off=>.ret (σ.aD d (.ptr b aj (p++[.CM k off])))
       | none=>.fail
     | none=>.fail) else .fail
 | _=>.fail
def eW(d:Option Nat)(src dst:TypeId)(x:ay)(σ:St):Tree St :=
 match find cx.T src,find cx.T dst,x with
 | some (.int _),some (.int k),.data (.int _) n=>.ret (σ.aD d (.data (.int k) (kP k n)))
 | some .str,some .str,.data .str s=>.ret (σ.aD d (.data .str s))
 | some .str,some (.slice (.int .u8)),.data .str s=>match d with
   | some d=>.need (fits (len (α:=UInt8) s)) (σ.aA (nb+d) (.data (.slice (.int .u8)) (ak s)) 0 true fun aj σ=>.ret (σ.put d (.whole (nb+d) aj)))
   | none=>.fail
 | some (.slice (.int .u8)),some .str,x=>match eK (.int .u8) σ x with
   | some l=>.ret (σ.aD d (.data .str (aG l)))
   | none=>.fail
 | _,_,_=>.fail
def nK(e:Ty)(σ:St)(x:ay):Option (List e.den):=match x with
 | .data .str t=>toL (.int .u8) e (ak t)
 | x=>eK e σ x
def O8(ty t:Nat):Bool:=Nat.beq t 0||(match find cx.els ty with|some e=>Nat.beq e t|none=>false)
def fh(d:Option Nat)(ty:TypeId)(s x:ay)(σ:St):Tree St :=
 match d,find cx.T ty with
 | some d,some (.slice e) =>
   match nK e σ x with
   | some m=>match s with
     | .js=>.need (fits (len (α:=e.den) m)) (σ.aA (nb+d) (.data (.slice e) m) 0 true fun aj σ=>.ret (σ.put d (.whole (nb+d) aj)))
     | .whole b aj=>match σ.mem b,eK e σ (.whole b aj) with
       | some bx,some l=>bif bx.lk||!O8 cx ty bx.tid then .fail else
         .need (fits (plus (len (α:=e.den) l) (len (α:=e.den) m))) (.ret ((σ.bJ b { bx with val:=.data (.slice e) (app (α:=e.den) l m),aj:=aj+1 }).put d (.whole b (aj+1))))
       | _,_=>.fail
     | _=>.fail
   | none=>.fail
 | _,_=>.fail
def gB(e:Ty)(m:List e.den)(b aj:Nat)(q:List uh)(KT:Nat→Ty→Bool)(lo:Int)(σ:St):Tree St :=
 match σ.mem b with
 | some bx=>bif Nat.beq bx.aj aj&&!bx.lk&&!bx.ro then
    (match bx.buf with
    | true=>match q,bx.val with
      | [],.data (.slice u) l=>match toL e u m with
        | some m=>.ret (σ.bJ b { bx with val:=.data (.slice u) (over (α:=u.den) l lo m) })
        | none=>.fail
      | _,_=>.fail
    | false=>(IU q bx.val).bind fun old=>match old with
      | .data (.arr k u) l=>bif KT k u then(match toL e u m with
        | some m=>(o5 q bx.val (.data (.arr k u) (over (α:=u.den) l lo m))).bind fun c=>.ret (σ.bJ b { bx with val:=c })
        | none=>.fail) else .fail
      | _=>.fail)
   else .fail
 | none=>.fail
def wG(e:Ty)(m:Int→List e.den)(t:ay)(σ:St):Tree (Int×St) :=
 match t with
 | .part b aj lo n=>(gB e (m n) b aj [] (fun _ _=>true) lo σ).bind fun σ=>.ret (n,σ)
 | .whole b aj=>match lenOf σ t with|some n=>(gB e (m n) b aj [] (fun _ _=>true) 0 σ).bind fun σ=>.ret (n,σ)|none=>.fail
 | .win b aj q u k lo n=>(gB e (m n) b aj q (fun k' u'=>Nat.beq k k'&&Ty.beq u u') lo σ).bind fun σ=>.ret (n,σ)
 | _=>.fail
def pQ(d:Option Nat)(ty:TypeId)(t x:ay)(σ:St):Tree St :=
 match find cx.T ty with
 | some (.slice e)=>match nK e σ x with
   | none=>.fail
   | some m=>(wG e (fun n=>iw (α:=e.den) m n) t σ).bind fun r=>.ret (r.2.aD d (.data (.int .i64) (len (iw (α:=e.den) m r.1))))
 | _=>.fail
def pR(ty:TypeId)(t:ay)(σ:St):Tree St :=
 match find cx.T ty with
 | some (.slice e)=>(wG e (fun n=>CL n e.zero) t σ).bind fun r=>.ret r.2
 | _=>.fail
def zl:(o:OT)→o.den→(N M:List (Nat×Nat))→ay
 | .dat t,x,_,_=>.data t x
 | .buf _ _,_,_,M=>match M with|(b,v)::_=>.whole b v|[]=>.undef
 | .ref _ _,_,N,_=>match N with|(b,v)::_=>.ptr b v []|[]=>.undef
 | .pair p q,u,N,M=>.mix (zl p u.1 (N.take p.nr) (M.take p.nb)) (zl q u.2 (N.drop p.nr) (M.drop p.nb))
 | .unit,_,_,_=>.data .unit ()
def fI:(o:OT)→o.den→(N M:List (Nat×Nat))→Nat→Option aY
 | .dat _,_,_,_,_=>none
 | .buf e cq,l,_,M,c=>match M with
   | (b,v)::_=>bif Nat.beq c b then some { val:=.data (.slice e) l,tid:=cq,buf:=true,ro:=false,lk:=false,aj:=v } else none
   | []=>none
 | .ref tid o,u,N,M,c=>match N with
   | (b,v)::N=>bif Nat.beq c b then some { val:=zl o u N M,tid,buf:=false,ro:=false,lk:=false,aj:=v } else fI o u N M c
   | []=>none
 | .pair p q,u,N,M,c=>match fI p u.1 (N.take p.nr) (M.take p.nb) c with
   | some x=>some x
   | none=>fI q u.2 (N.drop p.nr) (M.drop p.nb) c
 | .unit,_,_,_,_=>none
def cj(mem:Nat→Option aY):(o:OT)→ay→Option (o.den×List (Nat×Nat)×List (Nat×Nat))
 | .dat t,v=>match toS t v with|some x=>some (x,[],[])|none=>none
 | .buf e cq,v=>match v with
   | .whole b aj=>match mem b with
     | some bx=>bif Nat.beq bx.aj aj&&bx.buf&&!bx.lk&&!bx.ro&&Nat.beq bx.tid cq&&Nat.blt 0 e.size then(match bx.val with
       | .data (.slice u) l=>match toL u e l with|some l=>some (l,[],[(b,aj)])|none=>none
       | _=>none) else none
     | none=>none
   | _=>none
 | .ref tid o,v=>match v with
   | .ptr b aj []=>match mem b with
     | some bx=>bif Nat.beq bx.aj aj&&!bx.buf&&!bx.lk&&!bx.ro&&Nat.beq bx.tid tid then(match cj mem o bx.val with
       | some (u,N,M)=>some (u,(b,aj)::N,M)
       | none=>none) else none
     | none=>none
   | _=>none
 | .pair p q,v=>match v with
   | .mix a b=>match cj mem p a,cj mem q b with
     | some (x,N,M),some (y,N',M')=>some ((x,y),N++N',M++M')
     | _,_=>none
   | _=>none
 | .unit,v=>match v with|.data .unit _=>some ((),[],[])|_=>none
def zm:List Nat→Bool
 | []=>true
 | b::r=>!b6 r b&&zm r
def aT(N M:List (Nat×Nat)):List Nat:=N.map (·.1)++M.map (·.1)
def eG(σ:St):List Bool→(A:Ty)→(U:OT)→List ay→Option (A.den×U.den×List (Nat×Nat)×List (Nat×Nat))
 | [],A,U,vs=>match A,U,vs with
   | .unit,.unit,[]=>some ((),(),[],[])
   | _,_,_=>none
 | false::ps,A,U,vs=>match A,vs with
   | .pair t A,v::vs=>match IQ t v,eG σ ps A U vs with
     | some x,some (y,u,q)=>some ((x,y),u,q)
     | _,_=>none
   | _,_=>none
 | true::ps,A,U,vs=>match U,vs with
   | .pair (.ref tid o) U,v::vs=>match cj σ.mem (.ref tid o) v,eG σ ps A U vs with
     | some (x,N,M),some (y,u,N',M')=>some (y,(x,u),N++N',M++M')
     | _,_=>none
   | _,_=>none
def gN(U:OT)(u:U.den)(N M:List (Nat×Nat))(σ:St):St :=
 { σ with mem:=fun c=>match fI U u N (M.map fun p=>(p.1,p.2+1)) c with
  | some bx=>some bx
  | none=>σ.mem c }
def yM:ay→Bool
 | .whole ..=>true
 | _=>false
def sL(s:Ka)(d:Option Nat)(args:List ay)(σ:St):Tree St :=
 match s,args with
 | .KT T,[.ptr b aj []]=>match σ.mem b with
   | some bx=>match bx.val with
     | .mix (.oB b' v') (.mix u (.data .unit _))=>bif Nat.beq bx.aj aj&&!bx.buf&&!bx.lk&&!bx.ro&&Nat.beq bx.tid T&&Nat.blt 0 T&&Nat.beq b' b&&Nat.beq v' aj&&yM u then .ret (σ.aD d (.om .nl)) else .fail
     | _=>.fail
   | none=>.fail
 | .str T E,[.ptr b aj []]=>match σ.mem b with
   | some bx=>match bx.val with
     | .mix (.oB _ _) (.mix (.whole h hv) (.data .unit _))=>bif Nat.beq bx.aj aj&&!bx.buf&&Nat.beq bx.tid T&&Nat.blt 0 T&&!Nat.beq h b then(match σ.mem h with
       | some hx=>bif Nat.beq hx.aj hv&&hx.buf&&!hx.lk&&Nat.beq hx.tid E&&Nat.blt 0 E then(match hx.val with
         | .data (.slice (.int .u8)) l=>.ret ((σ.bJ h { hx with val:=.data (.slice (.int .u8)) [],aj:=hx.aj+1 }).aD d (.data .str (aG l)))
         | _=>.fail) else .fail
       | none=>.fail) else .fail
     | _=>.fail
   | none=>.fail
 | _,_=>.fail
def Ej(d:Option Nat):Option Nat:=match d with|some d=>bif b6 bf d then some d else none|none=>none
def hU(e:Ty)(d:Option Nat)(args:List ay)(σ:St):Tree St :=
 match d,args with
 | some d,[x]=>match pP σ (.slice e) x with
   | some (l,σ)=>bif Nat.blt 0 e.size then .need (fits (len (α:=e.den) l)) (σ.aA (nb+d) (.data (.slice e) l) 0 true fun aj σ=>.ret (σ.put d (.whole (nb+d) aj))) else .fail
   | none=>.fail
 | _,_=>.fail
def hY(g:Nat)(d:Option Nat)(args:List ay)(σ:St):Tree St :=
 match d,args with
 | some _,[.undef]=>.fail
 | some _,[.om _]=>.fail
 | some d,[v]=>σ.aA (nb+d) v 0 false fun aj σ=>.ret (σ.put d (.fn g [(nb+d,aj)]))
 | _,_=>.fail
def qu(e:Ty)(σ:St):ay→Option (Nat×Nat×aY×List e.den)
 | .whole b aj=>match σ.mem b with
   | some bx=>bif Nat.beq bx.aj aj&&bx.buf&&!bx.lk&&!bx.ro&&Nat.beq bx.tid 0 then(match bx.val with
     | .data (.slice u) l=>(match toL u e l with|some l=>some (b,aj,bx,l)|none=>none)
     | _=>none) else none
   | none=>none
 | .part b aj lo n=>match σ.mem b with
   | some bx=>bif Nat.beq bx.aj aj&&bx.buf&&!bx.lk&&!bx.ro&&Nat.beq bx.tid 0&&decide (lo=0) then(match bx.val with
     | .data (.slice u) l=>(match toL u e l with|some l=>some (b,aj,bx,sub (α:=e.den) l lo n)|none=>none)
     | _=>none) else none
   | none=>none
 | _=>none
def lD(e A:Ty)(res:Bool)(spec:List e.den→A.den→Option (List e.den))(d:Option Nat)(args:List ay)(σ:St):Tree St :=
 match args with
 | v::vs=>match gM σ A vs with
   | some (x,σ)=>match qu e σ v with
     | some (b,aj,bx,l)=>.look (spec l x) fun l'=>match res,d with
       | true,some d=>.ret ((σ.bJ b { bx with val:=.data (.slice e) l',aj:=aj+1 }).put d (.whole b (aj+1)))
       | false,d=>bif yM v then .ret ((σ.bJ b { bx with val:=.data (.slice e) l' }).aD d (.om .nl)) else .fail
       | _,_=>.fail
     | none=>.fail
   | none=>.fail
 | []=>.fail
def nL(d:Option Nat)(f:Nat):Option Ka :=
 match find cx.D2 f with
 | some (.clone e)=>match Ej bf d with|some _=>some (.clone e)|none=>none
 | some (.own e A r s)=>some (.own e A r s)
 | some (.rG g)=>some (.rG g)
 | _=>none
def o7(d:Option Nat)(f:Nat)(args:List ay)(σ:St):Tree St :=
 match find cx.fH f with
 | some c=>match c.R.flat with
   | true=>match fy σ c.A args with
     | some x=>.look (c.spec x) fun y=>.ret (σ.aD d (nJ c.R y))
     | none=>.fail
   | false=>match gM σ c.A args with
     | some (x,σ)=>.look (c.spec x) fun y=>.ret (σ.aD d (nJ c.R y))
     | none=>.fail
 | none=>match find cx.D2 f with
  | some s=>sL s d args σ
  | none=>match find cx.bU f with
   | some c=>(match eG σ c.ps c.A c.U args with
     | some (x,u,N,M)=>bif zm (aT N M) then .look (c.spec (x,u)) fun y=>.ret ((gN c.U y.2 N M σ).aD d (nJ c.R y.1)) else .fail
     | none=>(inl f args σ).bind fun r=>.ret (r.2.aD d r.1))
   | none=>(inl f args σ).bind fun r=>.ret (r.2.aD d r.1)
def mV(d:Option Nat)(f:Nat)(args:List ay)(σ:St):Tree St :=
 match nL cx bf d f with
 | some (.clone e)=>hU nb e d args σ
 | some (.own e A r s)=>lD e A r s d args σ
 | some (.rG g)=>hY nb g d args σ
 | _=>o7 cx inl d f args σ
def Ek:(t:Ty)→(u:Nat)→Option ((a:Ty)×(a.den→t.den))
 | .alt n a r,u=>bif Nat.beq n u then some ⟨a,.inl⟩ else match Ek r u with
   | some ⟨b,f⟩=>some ⟨b,fun x=>.inr (f x)⟩
   | none=>none
 | _,_=>none
def kX(d:Option Nat)(ty u:TypeId)(x:ay)(σ:St):Tree St :=
 match find cx.T ty with
 | some t=>match Ek t u with
   | some ⟨a,f⟩=>match pP σ a x with
     | some (y,σ)=>.ret (σ.aD d (.data t (f y)))
     | none=>.fail
   | none=>.fail
 | none=>.fail
def kY(d:Option Nat)(name:String)(args:List ay)(σ:St):Tree St :=
 match Eh cx.inv name with
 | some c=>match gM σ c.A args with
   | some (x,σ)=>.look (c.spec x) fun y=>.ret (σ.aD d (nJ c.R y))
   | none=>.fail
 | none=>.fail
def nM(d:Option Nat)(ty:TypeId)(c:Call)(σ:St):Tree St :=
 match c.callee with
 | .builtin b=>match b,c.args.toList.map (bN σ),c.argTypes.toList with
   | .len,[x],[t]=>bif HV (find cx.T t) x then(match lenOf σ x with
     | some n=>.ret (σ.aD d (.data (.int .i64) n))
     | none=>.fail) else(match B6 cx t,x with
     | some _,.win b aj _ _ _ _ n=>bif live σ b aj&&decide (n≤64) then .ret (σ.aD d (.data (.int .i64) n)) else .fail
     | _,_=>.fail)
   | .append,[s,x],[t,u]=>match find cx.T u with
     | some .str|some (.slice _)=>fh cx nb d t s x σ
     | _=>.fail
   | .copy,[t,x],[tt,tx]=>match find cx.T tx with
     | some .str|some (.slice _)=>pQ cx d tt t x σ
     | _=>.fail
   | .clear,[t],[tt]=>match d with|none=>pR cx tt t σ|some _=>.fail
   | .min,[x,y],_=>CN true x y |>.bind fun v=>.ret (σ.aD d v)
   | .max,[x,y],_=>CN false x y |>.bind fun v=>.ret (σ.aD d v)
   | _,_,_=>.fail
 | .value f=>match bN σ f with
   | .fn f caps=>bif caps.all (fun b=>live σ b.1 b.2) then mV cx nb bf inl d f (c.args.toList.map (bN σ)++caps.map fun b=>.ptr b.1 b.2 []) σ else .fail
   | _=>.fail
 | .invoke r name=>kY cx d name (bN σ r::c.args.toList.map (bN σ)) σ
def wH:List ay→Option (List (Nat×Nat))
 | []=>some []
 | .ptr b aj []::r=>(wH r).map ((b,aj)::·)
 | _=>none
def yN(σ:St)(b:Nat):Nat:=match σ.mem b with|some bx=>bx.aj+1|none=>0
def mkObj(b aj:Nat):List jl→Nat→St→Tree (ay×St)
 | [],_,σ=>.ret (.data .unit (),σ)
 | .dat t::r,j,σ=>(mkObj b aj r (j+1) σ).bind fun x=>.ret (.mix (.data t t.zero) x.1,x.2)
 | .one::r,j,σ=>(mkObj b aj r (j+1) σ).bind fun x=>.ret (.mix .kW x.1,x.2)
 | .self::r,j,σ=>(mkObj b aj r (j+1) σ).bind fun x=>.ret (.mix (.oB b aj) x.1,x.2)
 | .buf e cq::r,j,σ=>bif Nat.blt 0 e.size then σ.aA (b*1000+999-j) (.data (.slice e) []) cq true fun v σ=>(mkObj b aj r (j+1) σ).bind fun x=>.ret (.mix (.whole (b*1000+999-j) v) x.1,x.2) else .fail
def lE:List jl→Option ay
 | []=>some (.data .unit ())
 | .dat t::r=>match lE r with|some v=>some (.mix (.data t t.zero) v)|none=>none
 | .buf _ _::r=>match lE r with|some v=>some (.mix .js v)|none=>none
 | .one::r=>match lE r with|some v=>some (.mix .kW v)|none=>none
 | .self::_=>none
def iG(σ:St)(fs:List jl):ay→List (Nat×Operand)→Option ay
 | v,[]=>some v
 | v,(k,x)::r=>match iF v k,qt fs k,fs[k]? with
   | some (o,.data t _),some o',some f=>bif Nat.beq o o'&&Nat.beq t.size f.size then(match toS t (bN σ x) with
     | some y=>match(wE v k fun _=>.ret (.data t y)).run with
       | some v=>iG σ fs v r
       | none=>none
     | none=>none) else none
   | _,_,_=>none
def jb(b:Nat):List jl→Nat→ay→St→Tree (ay×St)
 | [],_,.data .unit x,σ=>.ret (.data .unit x,σ)
 | .dat _::r,j,.mix (.data u y) v,σ=>(jb b r (j+1) v σ).bind fun x=>.ret (.mix (.data u y) x.1,x.2)
 | .one::r,j,.mix .kW v,σ=>(jb b r (j+1) v σ).bind fun x=>.ret (.mix .kW x.1,x.2)
 | .buf e cq::r,j,.mix .js v,σ=>bif Nat.blt 0 e.size then σ.aA (b*1000+999-j) (.data (.slice e) []) cq true fun aj σ=>(jb b r (j+1) v σ).bind fun x=>.ret (.mix (.whole (b*1000+999-j) aj) x.1,x.2) else .fail
 | _,_,_,_=>.fail
def rJ(σ:St):Nat→List (Nat×Operand)→Option ay
 | _,[]=>some (.data .unit ())
 | k,(j,x)::r=>bif Nat.beq j k then(match bN σ x,rJ σ (k+1) r with
   | .kW,some v=>some (.mix .kW v)
   | .ptr b aj p,some v=>some (.mix (.ptr b aj p) v)
   | .fn f c,some v=>some (.mix (.fn f c) v)
   | _,_=>none) else none
def sM(d:Option Nat)(t:TypeId)(len:Nat)(parts:List (Nat×Operand))(σ:St):Tree St :=
 match d,B6 cx t,rJ σ 0 parts with
 | some d,some _,some v=>bif Nat.beq len parts.length&&Nat.blt 0 len&&Nat.ble len 64 then
  σ.aA (nb+d) v 0 false fun aj σ=>.ret (σ.put d (.win (nb+d) aj [.CM 0 0] .bool len 0 len)) else .fail
 | _,_,_=>.fail
def uT(d:Option Nat)(elem:TypeId)(x:ay)(σ:St):Tree St :=
 match d,x with
 | some _,.undef=>.fail
 | some _,.om _=>.fail
 | some d,v=>match find cx.mU elem with
   | some fs=>(jb (nb+d) fs 0 v σ).bind fun r=>r.2.aA (nb+d) r.1 elem false fun aj σ=>.ret (σ.put d (.ptr (nb+d) aj []))
   | none=>σ.aA (nb+d) v 0 false fun aj σ=>.ret (σ.put d (.ptr (nb+d) aj []))
 | none,_=>.fail
def nB(d:Nat)(t:Ty)(σ:St):Tree St :=
 match Ej bf (some d),t with
 | some _,.slice e=>bif Nat.blt 0 e.size then σ.aA ((nb+d)*1000+999) (.data (.slice e) []) 0 true fun v σ =>
  σ.aA (nb+d) (.whole ((nb+d)*1000+999) v) 0 false fun aj σ=>.ret (σ.put d (.ptr (nb+d) aj [])) else .fail
 | _,t=>σ.aA (nb+d) (.data t t.zero) 0 false fun aj σ=>.ret (σ.put d (.ptr (nb+d) aj []))
def jY(o:Oper)(σ:St):Tree St :=
 match o.op with
 | .move x|.assign x=>gm cx nb bf o.dst o.type (bN σ x) σ
 | .pick c a b=>ju o.dst (bN σ c) (bN σ a) (bN σ b) σ
 | .alloc elem=>match o.dst,find cx.T elem with
   | some d,some t=>nB nb bf d t σ
   | some d,none=>match find cx.mU elem with
     | some fs=>(mkObj (nb+d) (yN σ (nb+d)) fs 0 σ).bind fun r=>r.2.aA (nb+d) r.1 elem false fun aj σ=>.ret (σ.put d (.ptr (nb+d) aj []))
     | none=>bif b6 cx.lW elem then σ.aA (nb+d) .undef 0 false fun aj σ=>.ret (σ.put d (.ptr (nb+d) aj [])) else .fail
   | _,_=>.fail
 | .box elem x=>uT cx nb o.dst elem (bN σ x) σ
 | .build t parts=>match find cx.T t with
   | some (.pair a b)=>match eL σ (.pair a b) (Ty.pair a b).zero parts.toList with
     | some (x,σ)=>.ret (σ.aD o.dst (.data (.pair a b) x))
     | none=>.fail
   | some (.arr n e)=>match eF σ e (List.replicate n e.zero) parts.toList with
     | some (l,σ)=>.ret (σ.aD o.dst (.data (.arr n e) l))
     | none=>.fail
   | none=>match find cx.mU t with
     | some fs=>match lE fs with
       | some z=>match iG σ fs z parts.toList with
         | some (.mix p q)=>.ret (σ.aD o.dst (.mix p q))
         | some (.data .unit _)=>.ret (σ.aD o.dst (.data .unit ()))
         | _=>.fail
       | none=>.fail
     | none=>.fail
   | _=>.fail
 | .buildSlice t len parts=>match find cx.T t with
   | some (.slice e)=>match Ej bf o.dst,len,parts.toList with
     | some d,0,[]=>σ.aA (nb+d) (.data (.slice e) []) 0 true fun aj σ=>.ret (σ.put d (.whole (nb+d) aj))
     | _,_,_=>bif Nat.ble (len*e.size) 65536 then(match eF σ e (List.replicate len e.zero) parts.toList with
     | some (l,σ)=>.ret (σ.aD o.dst (.data (.slice e) l))
     | none=>.fail) else .fail
   | none=>sM cx nb o.dst t len parts.toList σ
   | _=>.fail
 | .load t a=>gR cx o.dst t (bN σ a) σ
 | .store t a x=>match o.dst with|none=>gX cx bf t (bN σ a) (bN σ x) σ|some _=>.fail
 | .nilCheck x=>match bN σ x with
   | .ptr b aj p=>bif live σ b aj then .ret (σ.aD o.dst (.ptr b aj p)) else .fail
   | .cell t x=>.ret (σ.aD o.dst (.cell t x))
   | .fn f c=>.ret (σ.aD o.dst (.fn f c))
   | _=>.fail
 | .binOp op xt x y _=>(KU σ (find cx.T xt) (b6 cx.en xt) op (bN σ x) (bN σ y)).bind fun v=>.ret (σ.aD o.dst v)
 | .unOp op _ x=>(un op (bN σ x)).bind fun v=>.ret (σ.aD o.dst v)
 | .convert src dst x=>eW cx nb o.dst src dst (bN σ x) σ
 | .makeFunc (.func f) first caps=>match first.toList,wH (caps.toList.map (bN σ)) with
   | [],some cs=>.ret (σ.aD o.dst (.fn f cs))
   | _,_=>.fail
 | .slice t x lo hi none=>gY cx o.dst t (bN σ x) lo hi σ
 | .fieldAddr s x k=>dw cx o.dst s (bN σ x) k σ
 | .field xt x k=>match bN σ x with
   | .data u y=>bif wF (find cx.T xt) u then(match iF (.data u y) k with
     | some (_,v)=>.ret (σ.aD o.dst v)
     | none=>.fail) else .fail
   | _=>.fail
 | .indexAddr t x i=>match bN σ i with
   | .data (.int _) i=>bif b6 bf 5000000 then gZ cx o.dst t (bN σ x) i σ else cQ cx o.dst t (bN σ x) i σ
   | _=>.fail
 | .index t x i=>match bN σ i with
   | .data (.int _) i=>hJ cx o.dst t (bN σ x) i σ
   | _=>.fail
 | .makeSlice t l c=>match o.dst,find cx.T t,bN σ l,bN σ c with
   | some d,some (.slice e),.data (.int _) l,.data (.int _) c =>
     .need (inside 0 l c) (.need (fits c)
      (σ.aA (nb+d) (.data (.slice e) (CL l e.zero)) 0 true fun aj σ=>.ret (σ.put d (.whole (nb+d) aj))))
   | _,_,_,_=>.fail
 | .extract t k=>match bN σ t with
   | .om vs=>match nth vs k with
     | some v=>.ret (σ.aD o.dst v)
     | none=>.fail
   | _=>.fail
 | .call c=>nM cx nb bf inl o.dst o.type c σ
 | .makeInterface u x=>kX cx o.dst o.type u (bN σ x) σ
 | _=>.fail
def qv(g:Option (Nat×Bool))(j:Nat)(want:Bool):Bool :=
 match g with|some (i,b)=>Nat.beq i j&&(b==want)|none=>false
def under(j:Nat)(want:Bool):(inner:List Nat)→List (Nat×Oper)→List (Nat×Oper)×List (Nat×Oper)
 | _,[]=>([],[])
 | inner,(i,o)::r =>
   bif qv o.guard j want then let x:=under j want (i::inner) r;((i,{ o with guard:=none })::x.1,x.2)
   else bif (match o.guard with|some (k,_)=>inner.any (Nat.beq k)|none=>false) then let x:=under j want (i::inner) r;((i,o)::x.1,x.2)
   else([],(i,o)::r)
def yO(cx:Ctx):List (Nat×Oper)→Bool
 | []=>false
 | (_,o)::r=>(match o.op with
   | .call c=>match c.callee with
     | .value (.func f)=>match find cx.fH f with|some _=>false|none=>true
     | .value _=>true
     | .builtin .append=>true
     | _=>false
   | .store ..=>true
   | _=>false)||yO cx r
def St.fA(σ:St):St:={ σ with mem:=fun i=>match σ.mem i with|some b=>some { b with lk:=true }|none=>none }
def St.undef(σ:St):List (Nat×Oper)→St
 | []=>σ
 | (_,o)::r=>(σ.undef r).aD o.dst .undef
def jc(d:Nat):List (Nat×Oper)→Bool
 | []=>false
 | (_,o)::r=>(match o.dst with|some k=>Nat.beq k d|none=>false)||jc d r
def qw(σ:St)(pk:Oper)(dj:Nat)(want:Bool):Option ay :=
 match pk.op with
 | .pick (.tmp c) a b=>bif Nat.beq c dj then some (bN σ (bif want then a else b)) else none
 | _=>none
def jZ(all:Array Oper):Nat→List (Nat×Oper)→St→Tree St
 | 0,_,_=>.fail
 | n+1,[],σ=>.ret σ
 | n+1,(i,o)::r,σ =>
   match o.guard with
   | none=>(jY cx nb bf inl o σ).bind fun σ=>jZ all n r σ
   | some (j,want) =>
     let g:=under j want [] ((i,o)::r)
     match(all[j]?).bind (·.dst) with
     | none=>.fail
     | some dj=>match σ.slots dj,g.2 with
       | .data .bool c,(_,pk)::rest=>bif jc dj g.1 then .fail else match pk.guard with
         | some _=>.fail
         | none =>
           let c':=bif want then c else nt c
           bif yO cx g.1 then
            (Tree.node c' ((jZ all n g.1 σ).bind fun σ=>match qw σ pk dj want with
              | some v=>.ret (σ.aD pk.dst v)
              | none=>.fail)
             (match qw (σ.undef g.1) pk dj (!want) with
              | some v=>.ret ((σ.undef g.1).aD pk.dst v)
              | none=>.fail)).bind fun σ=>jZ all n rest σ
           else match find cx.T pk.type,pk.dst with
            | some t,some dp=>(Tree.node c' ((jZ all n g.1 σ.fA).bind fun τ=>match(qw τ pk dj want).bind (IQ t) with
              | some x=>.ret x
              | none=>.fail)
             (match(qw (σ.undef g.1) pk dj (!want)).bind (IQ t) with
              | some x=>.ret x
              | none=>.fail)).join fun x=>jZ all n rest ((σ.undef g.1).put dp (.data t x))
            | _,_=>.fail
       | _,_=>.fail
def number:Nat→List Oper→List (Nat×Oper)
 | _,[]=>[]
 | k,o::r=>(k,o)::number (k+1) r
def zn(ops:Array Oper)(σ:St):Tree St:=jZ cx nb bf inl ops (2*ops.size+1) (number 0 ops.toList) σ
def dA:Op→List Operand
 | .move x|.assign x|.box _ x|.load _ x|.nilCheck x|.unOp _ _ x|.convert _ _ x|.fieldAddr _ x _|.field _ x _|.extract x _=>[x]
 | .pick c a b=>[c,a,b]
 | .build _ ps|.buildSlice _ _ ps=>ps.toList.map (·.2)
 | .store _ a x=>[a,x]
 | .binOp _ _ x y _=>[x,y]
 | .makeFunc _ f c=>f.toList++c.toList
 | .slice _ x lo hi _=>x::(lo.toList++hi.toList)
 | .indexAddr _ x i|.index _ x i=>[x,i]
 | .makeSlice _ l c=>[l,c]
 | .call c=>(match c.callee with|.value f=>[f]|.invoke r _=>[r]|_=>[])++c.args.toList
 | .makeInterface _ x=>[x]
 | _=>[]
def tmpsOf:List Operand→List Nat
 | []=>[]
 | .tmp t::r=>t::tmpsOf r
 | _::r=>tmpsOf r
def jv(o:Oper)(σ:St):Option Nat:=match o.op with
 | .call c=>match c.callee with
   | .value x=>match bN σ x with
     | .fn f _=>some f
     | _=>none
   | _=>none
 | _=>none
def Qt:Option Nat→Option Nat→Bool
 | some a,some b=>Nat.beq a b
 | none,none=>true
 | _,_=>false
def cls(g:Option Nat)(o:Oper):Nat:=match o.op with
 | .assign _|.move _|.makeSlice ..|.convert ..=>1
 | .box e _=>match find cx.mU e with
   | some _=>3
   | none=>1
 | .alloc e=>match find cx.T e with
   | some (.slice _)=>3
   | some _=>1
   | none=>match find cx.mU e with
     | some _=>3
     | none=>1
 | .build ..|.buildSlice ..|.store ..=>2
 | .call c=>match c.callee with
   | .builtin .len|.builtin .min|.builtin .max=>0
   | .builtin .append=>2
   | .builtin _=>3
   | .value _=>match g with
     | some f=>match find cx.D2 f with
       | some (.clone _)=>2
       | some (.own _ _ _ _)=>2
       | some (.rG _)=>2
       | s=>match find cx.fH f with
         | some c=>bif c.R.flat then 0 else 2
         | none=>match s,find cx.bU f with
           | none,some _=>2
           | _,_=>3
     | none=>3
   | .invoke ..=>2
 | .makeInterface ..=>2
 | _=>0
structure Fp where
 rd:List Nat
 wr:List Nat
 yP:Bool
 fn:Option Nat
def nN(σ:St):ay→List Nat
 | .ptr b _ _=>[b]
 | .whole b _=>[b]
 | .part b _ _ _=>[b]
 | .win b _ _ _ _ _ _=>[b]
 | .fn _ caps=>caps.map (·.1)
 | .mix a b=>nN σ a++nN σ b
 | _=>[]
def refsOf(σ:St):List Operand→List Nat
 | []=>[]
 | x::r=>nN σ (bN σ x)++refsOf σ r
def Qu(o:Oper)(σ:St):List Nat:=match o.op with
 | .move x|.assign x=>match bN σ x with
   | .ptr _ _ _=>[]
   | v=>nN σ v
 | _=>refsOf σ (dA o.op)
def reach(o:Oper)(σ:St)(g:Option Nat):List Nat:=match o.op,g with
 | .call c,some f=>match find cx.bU f with
   | some k=>match eG σ k.ps k.A k.U (c.args.toList.map (bN σ)) with
     | some (_,_,N,M)=>aT N M
     | none=>[]
   | none=>[]
 | _,_=>[]
def own(o:Oper):List Nat:=match o.dst with|some d=>[nb+d]|none=>[]
def pS(o:Oper)(σ:St):Fp :=
 let g:=jv o σ
 let rd:=own nb o++(Qu o σ++reach cx o σ g)
 match cls cx g o with
 | 0=>⟨rd,[],false,g⟩
 | 1=>⟨rd,own nb o,false,g⟩
 | 2=>⟨rd,rd,false,g⟩
 | _=>⟨[],[],true,g⟩
def St.only(σ:St)(ts rd:List Nat):St:={ slots:=fun t=>bif b6 ts t then σ.slots t else .undef,mem:=fun b=>bif b6 rd b then σ.mem b else none }
def lay(σ:St)(d:Option Nat)(wr:List Nat)(τ:St):St :=
 { slots:=match d with|some d=>fun t=>bif Nat.beq t d then τ.slots d else σ.slots t|none=>σ.slots
   mem:=fun b=>bif b6 wr b then τ.mem b else σ.mem b }
def rL(_:Nat)(_:List ay)(_:St):Tree (ay×St):=.fail
def KZ(fp:Fp)(o:Oper)(σ:St):Tree St:=bif Qt (jv o σ) fp.fn then jY cx nb bf rL o σ else .fail
def fB(fp:Fp)(o:Oper)(σ:St):Tree St :=
 bif fp.yP then jY cx nb bf inl o σ
 else(KZ cx nb bf fp o (σ.only (tmpsOf (dA o.op)) fp.rd)).bind fun τ=>.ret (lay σ o.dst fp.wr τ)
abbrev rM:=Nat×Oper×Fp×Nat
def maskAt:List rM→Nat→Nat
 | [],_=>0
 | (i,_,_,m)::r,k=>bif Nat.beq i k then m else maskAt r k
def nC(done:List rM):List Edge→Nat
 | []=>0
 | e::r=>bif Region.binds .any e then(nC done r ||| 2 ^ e.on) ||| maskAt done e.on else nC done r
def mask(done:List rM)(o:Oper):Nat:=nC done o.after.toList
def IY(a b:List Nat):Bool:=a.all fun x=>!b6 b x
def apart(x y:Oper)(f g:Fp):Bool :=
 !f.yP&&!g.yP&&IY f.wr g.rd&&IY g.wr f.rd &&
 (match x.dst with|some d=>!b6 (tmpsOf (dA y.op)) d&&(match y.dst with|some e=>!Nat.beq d e|none=>true)|none=>true) &&
 (match y.dst with|some e=>!b6 (tmpsOf (dA x.op)) e|none=>true)
def loose(o:Oper)(f:Fp)(m:Nat):List rM→Bool
 | []=>true
 | (k,ok,fk,_)::r=>(Nat.testBit m k||apart ok o fk f)&&loose o f m r
def zo:List (Nat×Oper)→List rM→St→Tree St
 | [],_,σ=>.ret σ
 | (i,o)::r,done,σ=>match o.guard with
   | some _=>.fail
   | none =>
     let f:=pS cx nb o σ
     let m:=mask done o
     bif loose o f m done&&(o.after.all fun e=>!Region.binds .any e||Nat.blt e.on i) then
      (fB cx nb bf inl f o σ).bind fun σ=>zo r ((i,o,f,m)::done) σ
     else .fail
def B7(all:Array Oper)(o:Oper):List Nat:=match o.guard with
 | some (g,_)=>match(all[g]?).bind (·.dst) with|some d=>[d]|none=>[]
 | none=>[]
def uj(all:Array Oper)(o:Oper):List Nat:=B7 all o++tmpsOf (dA o.op)
def pT(o:Oper)(k:Nat):Bool:=match o.guard with|some (g,_)=>!Nat.beq g k|none=>true
def rN(all:Array Oper)(i j:Nat)(x y:Oper)(f g:Fp):Bool :=
 !f.yP&&!g.yP&&IY f.wr g.rd&&IY g.wr f.rd&&pT x j&&pT y i &&
 (match x.dst with|some d=>!b6 (uj all y) d&&(match y.dst with|some e=>!Nat.beq d e|none=>true)|none=>true) &&
 (match y.dst with|some e=>!b6 (uj all x) e|none=>true)
def uk(all:Array Oper)(i:Nat)(o:Oper)(f:Fp)(m:Nat):List rM→Bool
 | []=>true
 | (k,ok,fk,_)::r=>(Nat.testBit m k||rN all k i ok o fk f)&&uk all i o f m r
def eU(i:Nat)(sk:Nat→Bool):Nat→Bool:=fun k=>Nat.beq k i||sk k
def mM(all:Array Oper):List (Nat×Oper)→List rM→St→(Nat→Bool)→Tree St
 | [],_,σ,_=>.ret σ
 | (i,o)::r,done,σ,sk =>
   let f:=pS cx nb o σ
   let m:=mask done o
   bif uk all i o f m done&&(o.after.all fun e=>!Region.binds .any e||Nat.blt e.on i) then
    match o.guard with
    | none=>(fB cx nb bf inl f o σ).bind fun σ=>mM all r ((i,o,f,m)::done) σ sk
    | some (g,want)=>match(all[g]?).bind (·.dst) with
      | none=>.fail
      | some dg=>bif sk g then mM all r ((i,o,f,m)::done) (σ.aD o.dst .undef) (eU i sk)
        else match σ.slots dg with
         | .data .bool c=>.node c
          (bif want then(fB cx nb bf inl f o (σ.put dg (.data .bool true))).bind fun σ=>mM all r ((i,o,f,m)::done) σ sk
           else mM all r ((i,o,f,m)::done) ((σ.put dg (.data .bool true)).aD o.dst .undef) (eU i sk))
          (bif want then mM all r ((i,o,f,m)::done) ((σ.put dg (.data .bool false)).aD o.dst .undef) (eU i sk)
           else(fB cx nb bf inl f o (σ.put dg (.data .bool false))).bind fun σ=>mM all r ((i,o,f,m)::done) σ sk)
         | _=>.fail
   else .fail
def gO:List Oper→Bool
 | []=>true
 | o::r=>(match o.dst with|some d=>!b6 (wI r) d|none=>true)&&gO r
where wI:List Oper→List Nat
 | []=>[]
 | o::r=>match o.dst with|some d=>d::wI r|none=>wI r
def pU(ops:Array Oper)(σ:St):Tree St :=
 bif ops.any fun o=>o.guard.isSome then(bif gO ops.toList then mM cx nb bf inl ops (number 0 ops.toList) [] σ (fun _=>false) else .fail)
 else zo cx nb bf inl (number 0 ops.toList) [] σ
end
end Go.Ge
namespace Go.Ge
def rounds{S R:Type}(f:S→Option (S⊕R)):Nat→S→Option R
 | 0,_=>none
 | n+1,s=>(f s).bind fun x=>match x with|.inl s=>rounds f n s|.inr r=>some r
theorem xA{S R:Type}{f:S→Option (S⊕R)}:∀{n:Nat} {s:S} {r:R},rounds f n s=some r→∀m,n≤m→rounds f m s=some r:=by
 intro n;induction n with
 | zero=>intro s r h;cases h
 | succ n ih =>
   intro s r h m hm;obtain⟨k,rfl⟩:∃k,m=k+1:=⟨m-1,by omega⟩;simp only[rounds] at h⊢;cases hf:f s with
   | none=>rw[hf] at h;cases h
   | some x =>
     rw[hf] at h;cases x with
     | inl s'=>exact ih h k (by omega)
     | inr r'=>exact h
open Classical in
def El{S R:Type}(f:S→Option (S⊕R))(s:S):Option R :=
 if h:∃n r,rounds f n s=some r then some (Classical.choose (FV h)) else none
theorem qX{S R:Type}{f:S→Option (S⊕R)}{n:Nat}{s:S}{r:R}(h:rounds f n s=some r):El f s=some r:=by
 have hex:∃n r,rounds f n s=some r:=⟨n,r,h⟩;unfold El;rw[dif_pos hex];have h2:=FV (FV hex);have a:=xA h (max n (Classical.choose hex)) (by omega);have b:=xA h2 (max n (Classical.choose hex)) (by omega);rw[a] at b;exact b.symm
class Lp where
 loop:{S R:Type}→(S→Option (S⊕R))→S→Option R
 ok:∀{S R:Type} (f:S→Option (S⊕R)) (s:S),loop f s=El f s
theorem Lp.one(i j:Lp):i=j:=by
 obtain⟨l,h⟩:=i;obtain⟨m,k⟩:=j;have:@l=@m:=by funext S R f s;rw[h,k]
 subst this;rfl
@[reducible] noncomputable def Lp.O9:Lp where
 loop:=fun f s=>match rounds f 100000 s with|some r=>some r|none=>El f s
 ok:=fun f s=>by
  generalize 100000=k;cases hk:rounds f k s with
  | some r=>exact(qX hk).symm
  | none=>rfl
section
variable [Lp]
def Loop{S R:Type}(f:S→Option (S⊕R))(s:S):Option R:=Lp.loop f s
theorem j7{S R:Type}{f:S→Option (S⊕R)}{n:Nat}{s:S}{r:R}(h:rounds f n s=some r):Loop f s=some r:=(Lp.ok f s).trans (qX h)
theorem j8{S R:Type}{f:S→Option (S⊕R)}{s:S}{r:R}(h:Loop f s=some r):∃n,rounds f n s=some r:=by
 replace h:=(Lp.ok f s).symm.trans h;unfold El at h;split at h
 ·rename_i hex;have h2:=FV (FV hex);exact⟨_,by rw[h2];exact h⟩
 ·cases h
theorem cL{S R:Type}(f:S→Option (S⊕R))(s:S):Loop f s=(f s).bind fun x=>match x with|.inl s=>Loop f s|.inr r=>some r:=by
 cases hf:f s with
 | none =>
   cases hl:Loop f s with
   | none=>rfl
   | some r =>
     obtain⟨n,hn⟩:=j8 hl;cases n with
     | zero=>cases hn
     | succ n=>simp[rounds,hf] at hn
 | some x =>
   cases x with
   | inr r=>exact j7 (n:=1) (by simp[rounds,hf])
   | inl s' =>
     show Loop f s=Loop f s'
     cases hl:Loop f s' with
     | some r =>
       obtain⟨n,hn⟩:=j8 hl;exact j7 (n:=n+1) (by simp[rounds,hf,hn])
     | none =>
       cases FP:Loop f s with
       | none=>rfl
       | some r =>
         obtain⟨n,hn⟩:=j8 FP;cases n with
         | zero=>cases hn
         | succ n =>
           simp[rounds,hf] at hn;rw[j7 hn] at hl;cases hl
end
inductive Sh where
 | d (t:Ty)
 | k (v:ay)
 | m (a b:Sh)
def Sh.ty:Sh→Ty
 | .d t=>t
 | .k _=>.unit
 | .m a b=>.pair a.ty b.ty
def yQ:List uh→List uh→Bool
 | [],[]=>true
 | .CM k o::p,.CM k' o'::q=>Nat.beq k k'&&Nat.beq o o'&&yQ p q
 | _,_=>false
def yR:List (Nat×Nat)→List (Nat×Nat)→Bool
 | [],[]=>true
 | (a,b)::r,(c,d)::s=>Nat.beq a c&&Nat.beq b d&&yR r s
 | _,_=>false
theorem F6:∀{p q:List uh},yQ p q=true→p=q:=by
 intro p;induction p with
 | nil=>intro q h;cases q<;>first|rfl|cases h
 | cons s p ih =>
   intro q h;cases s with
   | idx i n=>cases q<;>cases h
   | CM k o =>
     cases q with
     | nil=>cases h
     | cons s' q =>
       cases s' with
       | idx i n=>cases h
       | CM k' o' =>
         simp only[yQ,cP] at h;rw[dz h.1.1,dz h.1.2,ih h.2]
theorem F7:∀{p q:List (Nat×Nat)},yR p q=true→p=q:=by
 intro p;induction p with
 | nil=>intro q h;cases q<;>first|rfl|cases h
 | cons s p ih =>
   intro q h;obtain⟨a,b⟩:=s;cases q with
   | nil=>cases h
   | cons s' q =>
     obtain⟨c,d⟩:=s';simp only[yR,cP] at h;rw[dz h.1.1,dz h.1.2,ih h.2]
def qx(V:Nat→Bool)(gC σ:St):ay→ay→Bool
 | .ptr b v p,.ptr b' v' p'=>Nat.beq b b'&&yQ p p'&&(bif V b then(match gC.mem b,σ.mem b with|some x,some y=>Nat.beq x.aj v&&Nat.beq y.aj v'|_,_=>false) else Nat.beq v v')
 | .whole b v,.whole b' v'=>Nat.beq b b'&&(match gC.mem b,σ.mem b with|some x,some y=>Nat.beq x.aj v&&Nat.beq y.aj v'&&y.buf|_,_=>false)
 | .fn f c,.fn f' c'=>Nat.beq f f'&&yR c c'
 | .kW,.kW=>true
 | .lV,.lV=>true
 | .oB b v,.oB b' v'=>Nat.beq b b'&&Nat.beq v v'
 | _,_=>false
def Nc:ay→Sh
 | .data t _=>.d t
 | .mix a b=>.m (Nc a) (Nc b)
 | v=>.k v
def Sh.out(V:Nat→Bool)(gC σ:St):(s:Sh)→ay→Option s.ty.den
 | .d t,v=>IQ t v
 | .k u,v=>bif qx V gC σ u v then some () else none
 | .m a b,.mix v w=>match Sh.out V gC σ a v,Sh.out V gC σ b w with
   | some x,some y=>some (x,y)
   | _,_=>none
 | .m _ _,_=>none
def bump(M V:Nat→Bool):ay→ay
 | .whole b v=>bif M b then .whole b (v+1) else .whole b v
 | .ptr b v p=>bif M b&&V b then .ptr b (v+1) p else .ptr b v p
 | v=>v
def Sh.lF(M V:Nat→Bool):(s:Sh)→s.ty.den→ay
 | .d t,x=>.data t x
 | .k v,_=>bump M V v
 | .m a b,x=>.mix (a.lF M V x.1) (b.lF M V x.2)
structure Em where
 S:List (Nat×Nat)
 M:List Nat
 fz:Bool
structure pV where
 marks:List (Option Em)
 CO:List Nat
structure Carry where
 S:List (Nat×Sh)
 M:List (Nat×Sh×aY)
 V:Nat→Bool
def Qb:List (Nat×Sh)→Ty
 | []=>.unit
 | (_,s)::r=>.pair s.ty (Qb r)
def Pb:List (Nat×Sh×aY)→Ty
 | []=>.unit
 | (_,s,_)::r=>.pair s.ty (Pb r)
def Carry.ty(c:Carry):Ty:=.pair (Qb c.S) (Pb c.M)
def Nd(V:Nat→Bool)(gC σ:St):(l:List (Nat×Sh))→Option (Qb l).den
 | []=>some ()
 | (i,s)::r=>match Sh.out V gC σ s (σ.slots i),Nd V gC σ r with
   | some x,some y=>some (x,y)
   | _,_=>none
def xB(fz mv:Bool)(bx b:aY):Bool:=(fz||(bx.ro==b.ro))&&Nat.beq bx.tid b.tid&&(bx.buf==b.buf)&&(bx.buf||mv||Nat.beq bx.aj b.aj)
def Nf(V:Nat→Bool)(fz:Bool)(gC σ:St):(l:List (Nat×Sh×aY))→Option (Pb l).den
 | []=>some ()
 | (i,s,b)::r=>match σ.mem i with
   | some bx=>bif xB fz (V i) bx b then(match Sh.out V gC σ s bx.val,Nf V fz gC σ r with
     | some x,some y=>some (x,y)
     | _,_=>none) else none
   | none=>none
def Carry.out(c:Carry)(fz:Bool)(gC σ:St):Option c.ty.den :=
 match Nd c.V gC σ c.S,Nf c.V fz gC σ c.M with
 | some x,some y=>some (x,y)
 | _,_=>none
def CP(M V:Nat→Bool):(l:List (Nat×Sh))→(Qb l).den→Nat→Option ay
 | [],_,_=>none
 | (i,s)::r,x,t=>bif Nat.beq t i then some (s.lF M V x.1) else CP M V r x.2 t
def zp(fz:Bool)(M V:Nat→Bool):(l:List (Nat×Sh×aY))→(Pb l).den→Nat→Option aY
 | [],_,_=>none
 | (i,s,b)::r,x,t=>bif Nat.beq t i then some { b with val:=s.lF M V x.1,ro:=b.ro||fz,aj:=bif b.buf||V t then b.aj+1 else b.aj } else zp fz M V r x.2 t
def nO:List (Nat×Sh×aY)→Nat→Bool
 | [],_=>false
 | (i,_,_)::r,t=>Nat.beq t i||nO r t
def Carry.lF(c:Carry)(fz lock:Bool)(wr:List Nat)(gC:St)(x:c.ty.den):St :=
 { slots:=fun t=>match CP (nO c.M) c.V c.S x.1 t with
    | some v=>v
    | none=>bif b6 wr t then .undef else gC.slots t
   mem:=fun b=>match zp fz (nO c.M) c.V c.M x.2 b with
    | some bx=>some bx
    | none=>match gC.mem b with
      | some bx=>some { bx with lk:=bx.lk||lock }
      | none=>none }
def settle:List (Nat×Sh)→St→Option St
 | [],σ=>some σ
 | (i,.d t)::r,σ=>match pP σ t (σ.slots i) with
   | some (x,σ)=>settle r (σ.put i (.data t x))
   | none=>none
 | _::r,σ=>settle r σ
def Carry.zq(c:Carry)(fz:Bool)(gC σ:St):Option c.ty.den :=
 bif fz then(match settle c.S σ with
  | some σ=>c.out true gC σ
  | none=>none)
 else c.out false gC σ
def Carry.lock(c:Carry)(σ:St):St :=
 { σ with mem:=fun b=>match σ.mem b with
  | some bx=>some (bif nO c.M b then bx else { bx with lk:=true })
  | none=>none }
def j9:List Oper→List Nat
 | []=>[]
 | o::r=>match o.dst with|some d=>d::j9 r|none=>j9 r
def writes:Code→List Nat
 | .region _ ops _=>j9 ops.toList
 | .seq a b=>writes a++writes b
 | .cond _ a b=>writes a++writes b
 | .block _ a=>writes a
 | .loop a=>writes a
 | .scope a=>writes a
 | _=>[]
def mN:Code→List Nat
 | .seq a b=>mN a++(mN b).filter fun e=>!b6 (mN a) e
 | .cond _ a b=>mN a++(mN b).filter fun e=>!b6 (mN a) e
 | .block i a=>(mN a).filter fun e=>!Nat.beq e (i+2)
 | .loop a=>mN a
 | .scope a=>mN a
 | .ret=>[1]
 | .exit i=>[i+2]
 | _=>[]
def marks:Code→Nat
 | .seq a b=>marks a+marks b
 | .cond _ a b=>marks a+marks b+1
 | .block _ a=>marks a
 | .loop a=>marks a+1
 | .scope a=>marks a
 | _=>0
def yd:List Nat→Nat→Option Nat
 | [],_=>none
 | e::r,k=>bif Nat.beq e k then some 0 else(yd r k).map (·+1)
def F8:List Nat→List Nat→List Nat
 | [],l=>l
 | b::r,l=>bif b6 l b then F8 r l else F8 r (l++[b])
section
variable (cx:Ctx)
def Ru(σ:St):List (Nat×Nat)→Option (List (Nat×Sh))
 | []=>some []
 | (i,ty)::r=>match Ru σ r with
   | none=>none
   | some l=>bif Nat.beq ty 999999 then(match σ.slots i with
     | .whole b v=>some ((i,.k (.whole b v))::l)
     | _=>some l) else match σ.slots i with
     | .data t _=>some ((i,.d t)::l)
     | .undef|.js=>match find cx.T ty with
       | some t=>some ((i,.d t)::l)
       | none=>none
     | v=>some ((i,.k v)::l)
def sN(σ:St):List Nat→List Nat
 | []=>[]
 | b::r=>(match σ.mem b with|some bx=>(match bx.val with|.mix u v=>nN σ (.mix u v)|.whole c _=>[c]|.fn f c=>nN σ (.fn f c)|_=>[])|none=>[])++sN σ r
def CQ(σ:St):List Nat→List Nat
 | []=>[]
 | i::r =>
   let r0:=nN σ (σ.slots i)
   let r1:=sN σ r0
   let r2:=sN σ r1
   F8 (r0++(r1++(r2++sN σ r2))) (CQ σ r)
def Qv(σ:St):List Nat→Option (List (Nat×Sh×aY))
 | []=>some []
 | b::r=>match σ.mem b,Qv σ r with
   | some bx,some l=>bif bx.lk then none else some ((b,Nc bx.val,bx)::l)
   | _,_=>none
def Pc:ay→Option Nat
 | .whole b _=>some b
 | .part b _ _ _=>some b
 | _=>none
def uU:List Nat→St→Option St
 | [],σ=>some σ
 | m::r,σ=>bif Nat.ble 2000000 m then(match Pc (σ.slots (m-2000000)) with
  | some b=>match σ.mem b with
    | some bx=>match bx.val with
      | .data (.slice e) _=>match pP σ (.slice e) (σ.slots (m-2000000)) with
        | some (x,σ)=>uU r (σ.put (m-2000000) (.data (.slice e) x))
        | none=>none
      | _=>none
    | none=>none
  | none=>uU r σ) else uU r σ
def Qw(nb:Nat)(bf:List Nat)(σ:St)(b:Nat):Bool:=b6 (bf.map (nb+·)) b&&(match σ.mem b with|some x=>!x.buf&&!yM x.val|none=>false)
def yS(nb:Nat)(bf:List Nat)(σ:St)(p:Em):Option Carry :=
 match Ru cx σ p.S,Qv σ (CQ σ p.M) with
 | some s,some m=>some ⟨s,m,Qw nb bf σ⟩
 | _,_=>none
variable (nb:Nat) (bf:List Nat) (inl:Nat→List ay→St→Tree (ay×St))
def uV{α:Type}:List Nat→Nat→(Nat→Tree α)→Tree α
 | [],_,_=>.fail
 | [e],_,f=>f e
 | e::r,i,f=>.node (uQ i 0) (f e) (uV r (i-1) f)
variable [Lp]
def again{S:Type}(f:S→Tree (Nat×S)):Nat→S→Tree (Nat×S)
 | 0,_=>.fail
 | n+1,s=>(f s).bind fun r=>bif Nat.beq r.1 0 then again f n r.2 else .ret r
def F9(p:Em):Option Nat:=match p.M with
 | [m]=>bif Nat.ble 6000000 m then some (m-6000000) else none
 | _=>none
def wJ(f:St→Tree (Nat×St))(c:Nat):Nat→Nat→St→Tree (Nat×St)
 | 0,_,_=>.fail
 | n+1,j,σ=>match σ.slots c with
   | .data (.int .i64) x=>.need (b9 x j) ((f (σ.put c (.data (.int .i64) (j:Int)))).bind fun r=>bif Nat.beq r.1 0 then wJ f c n (j+1) r.2 else .ret r)
   | _=>.fail
def fF:Code→List (Option Em)→St→Tree (Nat×St)
 | .skip,_,σ=>.ret (0,σ)
 | .label _,_,σ=>.ret (0,σ)
 | .ret,_,σ=>.ret (1,σ)
 | .exit i,_,σ=>.ret (i+2,σ)
 | .region _ ops dr,_,σ=>(bif dr then pU cx nb bf inl ops σ else zn cx nb bf inl ops σ).bind fun σ=>.ret (0,σ)
 | .seq a b,pl,σ=>(fF a pl σ).bind fun r=>bif Nat.beq r.1 0 then fF b (pl.drop (marks a)) r.2 else .ret r
 | .block i a,pl,σ=>(fF a pl σ).bind fun r=>.ret (bif Nat.beq r.1 (i+2) then 0 else r.1,r.2)
 | .scope a,pl,σ=>fF a pl σ
 | .cond c a b,pl,σ=>match bN σ c,pl with
   | .data .bool c,none::pl=>.node c (fF a pl σ) (fF b (pl.drop (marks a)) σ)
   | .data .bool c,some p::pl=>match uU p.M σ with
    | none=>.fail
    | some σ=>match yS cx nb bf σ p with
     | none=>.fail
     | some k =>
       let t:=Tree.node c (fF a pl (k.lock σ)) (fF b (pl.drop (marks a)) (k.lock σ))
       let wr:=writes a++writes b
       match mN a++(mN b).filter (fun e=>!b6 (mN a) e) with
       | []=>(t.bind fun r=>bif Nat.beq r.1 0 then Tree.KS (k.zq p.fz σ r.2) else .fail).join fun x=>.ret (0,k.lF p.fz false wr σ x)
       | es=>(t.bind fun r=>match yd (0::es) r.1,k.zq p.fz σ r.2 with
        | some i,some x=>.ret (i,x)
        | _,_=>.fail).join fun x=>uV (0::es) x.1 fun e=>.ret (e,k.lF p.fz false wr σ x.2)
   | _,_=>.fail
 | .loop a,pl,σ=>match pl with
   | some p::pl=>match F9 p with
    | some c=>wJ (fun σ=>fF a pl σ) c 100 0 σ
    | none=>match uU p.M σ with
    | none=>.fail
    | some σ=>match yS cx nb bf σ p with
     | none=>.fail
     | some k=>match k.out false σ σ with
       | none=>.fail
       | some x0 =>
         let wr:=writes a
         let es:=mN a
         let body (x:k.ty.den):Option (k.ty.den⊕(Nat×k.ty.den)):=((fF a pl (k.lF false true wr σ x)).bind fun r=>bif Nat.beq r.1 0 then(match k.out false σ r.2 with
           | some y=>.ret (.inl y)
           | none=>.fail)
          else match yd es r.1,k.zq p.fz σ r.2 with
           | some i,some y=>.ret (.inr (i,y))
           | _,_=>.fail).run
         match es with
         | [e]=>.look (Loop (fun x=>kQ (body x)) x0) fun x=>.ret (e,k.lF p.fz false wr σ x)
         | es=>.look (Loop body x0) fun x=>uV es x.1 fun e=>.ret (e,k.lF p.fz false wr σ x.2)
   | none::pl=>again (fun σ=>fF a pl σ) 100000 σ
   | _=>.fail
 | _,_,_=>.fail
end
variable [Lp]
def xC(mem:Nat→Option aY)(args:List ay):St:={ slots:=fun t=>(args[t]?).getD .undef,mem }
def wK(cx:Ctx)(σ:St):ResultVar→Tree ay
 | .tmp t=>.ret (σ.slots t)
 | .cell a ty=>(gR cx (some 0) ty (σ.slots a) σ).bind fun τ=>.ret (τ.slots 0)
def uW(cx:Ctx)(σ:St):List ResultVar→Tree ay
 | []=>.ret .nl
 | r::rs=>(wK cx σ r).bind fun v=>(uW cx σ rs).bind fun l=>.ret (.mix v l)
def results1(cx:Ctx)(σ:St):List ResultVar→Tree ay
 | [r]=>wK cx σ r
 | rs=>(uW cx σ rs).bind fun l=>.ret (.om l)
def fO(mem:Nat→Option aY):St:={ slots:=fun _=>.undef,mem }
def OG(cx:Ctx):List TypeId→Option (List Ty)
 | []=>some []
 | t::r=>match find cx.T t,OG cx r with
   | some u,some l=>some (u::l)
   | _,_=>none
def joinTy(cx:Ctx)(res:List TypeId):List Nat→Option (Bool×List Ty)
 | []=>none
 | m::r=>bif Nat.ble 7000000 m&&Nat.ble m 7999999 then(bif Nat.beq m 7999999 then(OG cx res).map fun l=>(true,l) else(find cx.T (m-7000000)).map fun R=>(false,[R])) else joinTy cx res r
def spread(om:Bool)(v:ay):Nat→ay :=
 match om,v with
 | false,v=>fun t=>bif Nat.beq t 0 then v else .undef
 | true,.om m=>fun t=>match nth m t with|some u=>u|none=>.undef
 | true,_=>fun _=>.undef
def zu:ay→Nat
 | .mix _ b=>zu b+1
 | _=>0
def En(om:Bool)(v:ay)(n:Nat):Bool :=
 match om,v with
 | false,_=>Nat.beq n 1
 | true,.om m=>Nat.beq (zu m) n
 | true,_=>false
def Pd(slots:Nat→ay):Nat→Nat→ay
 | _,0=>.nl
 | i,n+1=>.mix (slots i) (Pd slots (i+1) n)
def CR(om:Bool)(n:Nat)(slots:Nat→ay):ay :=
 match om with
 | false=>slots 0
 | true=>.om (Pd slots 0 n)
def K1(om:Bool)(v:ay)(mem:Nat→Option aY):St:={ slots:=spread om v,mem }
def HX:List Ty→Nat→List (Nat×Sh)
 | [],_=>[]
 | t::r,i=>(i,.d t)::HX r (i+1)
def HY(R:Bool×List Ty)(args:List ay)(mem:Nat→Option aY)(F:(Nat→Option aY)→Tree (ay×(Nat→Option aY))):Tree (ay×(Nat→Option aY)) :=
 match Qv (fO mem) (CQ (xC mem args) (List.range args.length)) with
 | none=>.fail
 | some m =>
   let k:Carry:=⟨HX R.2 0,m,fun _=>false⟩
   let wr:=List.range R.2.length
   ((F (k.lock (fO mem)).mem).bind fun r=>bif En R.1 r.1 R.2.length then Tree.KS (k.out false (fO mem) (K1 R.1 r.1 r.2)) else .fail).join fun x =>
    .ret (CR R.1 R.2.length (k.lF false false wr (fO mem) x).slots,(k.lF false false wr (fO mem) x).mem)
def zv(cx:Ctx)(nb:Nat)(p:pV)(inl:Nat→List ay→St→Tree (ay×St))(fn:Func)(c:Code)(args:List ay)(mem:Nat→Option aY):Tree (ay×(Nat→Option aY)) :=
 (fF cx nb p.CO inl c p.marks (xC mem args)).bind fun r =>
  bif Nat.beq r.1 0||Nat.beq r.1 1 then(results1 cx r.2 fn.results.toList).bind fun v=>.ret (v,r.2.mem) else .fail
def K2(mem:Nat→Option aY)(s:Nat):Nat→Nat→Nat
 | 0,b=>b
 | k+1,b=>match mem (b+s) with
   | none=>b
   | some _=>K2 mem s k (b+200)
def uo(mem:Nat→Option aY)(b:Nat):List Nat→Nat
 | []=>b
 | m::r=>bif Nat.ble 9000000 m then K2 mem (m-9000000) 4 b else uo mem b r
def qY(cx:Ctx):Nat→(nb:Nat)→(cG:Nat→pV)→Nat→List ay→(Nat→Option aY)→Tree (ay×(Nat→Option aY))
 | 0,_,_,_,_,_=>.fail
 | n+1,nb,cG,f,args,mem=>match find cx.fns f with
   | some fn=>match fn.body with
     | some c=>match joinTy cx fn.resultTypes.toList (cG f).CO with
       | none=>zv cx nb (cG f) (fun g xs σ=>(qY cx n (uo σ.mem ((nb+g+1)*1000) (cG g).CO) cG g xs σ.mem).bind fun r=>.ret (r.1,{ σ with mem:=r.2 })) fn c args mem
       | some R=>HY R args mem (zv cx nb (cG f) (fun g xs σ=>(qY cx n (uo σ.mem ((nb+g+1)*1000) (cG g).CO) cG g xs σ.mem).bind fun r=>.ret (r.1,{ σ with mem:=r.2 })) fn c args)
     | none=>.fail
   | none=>.fail
def wL:(A:Ty)→A.den→List ay
 | .pair t r,x=>.data t x.1::wL r x.2
 | _,_=>[]
def uX:ay→List ay
 | .mix a b=>a::uX b
 | _=>[]
def uY:(R:Ty)→ay→List ay
 | .pair _ .unit,v=>[v]
 | _,.om v=>uX v
 | _,v=>[v]
def uZ(k:Nat):Nat:=777000000+k
def Ng(k:Nat):Nat:=778000000+k
def jd(k:Nat):Nat→List (Nat×Nat)
 | 0=>[]
 | n+1=>(uZ k,0)::jd (k+1) n
def kZ(k:Nat):Nat→List (Nat×Nat)
 | 0=>[]
 | n+1=>(Ng k,0)::kZ (k+1) n
def u5:List Bool→OT→(A:Ty)→A.den→Nat→List ay
 | [],_,_,_,_=>[]
 | false::ps,U,A,x,k=>match A,x with
   | .pair t A,x=>.data t x.1::u5 ps U A x.2 k
   | _,_=>[]
 | true::ps,U,A,x,k=>match U with
   | .pair o U=>.ptr (uZ k) 0 []::u5 ps U A x (k+o.nr)
   | _=>[]
def Eo(mem:Nat→Option aY):(U:OT)→Nat→Option (U.den×List (Nat×Nat)×List (Nat×Nat))
 | .pair o U,k=>match cj mem o (.ptr (uZ k) 0 []),Eo mem U (k+o.nr) with
   | some (x,N,M),some (u,N',M')=>some ((x,u),N++N',M++M')
   | _,_=>none
 | .unit,_=>some ((),[],[])
 | _,_=>none
def CS:List (Nat×Nat)→List (Nat×Nat)→Bool
 | [],[]=>true
 | (a,b)::r,(c,d)::s=>Nat.beq a c&&Nat.beq b d&&CS r s
 | _,_=>false
def Pe(cx:Ctx)(n:Nat)(cG:Nat→pV)(f:Nat)(ps:List Bool)(A:Ty)(U:OT)(R:Ty)(x:A.den×U.den):Option (R.den×U.den) :=
 ((qY cx n 0 cG f (u5 ps U A x.1 0) (fI U x.2 (jd 0 U.nr) (kZ 0 U.nb))).bind fun r=>match gM (fO r.2) R (uY R r.1) with
  | some (y,σ)=>(match Eo σ.mem U 0 with
    | some (u,N,M)=>bif CS N (jd 0 U.nr)&&zm (aT N M)&&zm (aT (jd 0 U.nr) (kZ 0 U.nb)) then .ret (y,u) else .fail
    | none=>.fail)
  | none=>.fail).run
def sem(cx:Ctx)(n:Nat)(cG:Nat→pV)(f:Nat)(A R:Ty)(x:A.den):Option R.den :=
 ((qY cx n 0 cG f (wL A x) (fun _=>none)).bind fun r=>match fy (fO r.2) R (uY R r.1) with
  | some y=>.ret y
  | none=>.fail).run
end Go.Ge
