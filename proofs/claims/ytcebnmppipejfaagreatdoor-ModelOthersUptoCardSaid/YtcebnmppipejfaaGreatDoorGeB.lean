import Derived.Test.YtcebnmppipejfaaGreatDoorGeA
import Derived.Laws.StructEq
import Derived.ChangeKeysEq
set_option linter.unusedVariables false
set_option linter.unusedSimpArgs false
set_option linter.unusedSectionVars false
set_option linter.defProp false
open Option renaming some->ab,none->ah
namespace Go.Ge
def gA:Ty->List Value
 | .int k=>[.int k 0]
 | .bool=>[.bool false]
 | .str=>[.string ⟨#[]⟩]
 | .slice _=>[.slice ah 0 0]
 | .arr n e=>(List.replicate n<|gA e).flatten
 | .pair a b=>gA a++gA b
 | .unit=>[]
 | .alt _ _ r=>gA r
 | .Bz=>[.nilIface]
def eA t:(gA t).length=t.size:=by
 induction t with
 | arr n e h=>simp[gA,Ty.size,h]
 | pair a b c f=>simp[gA,Ty.size,c,f]
 | alt u a r c g=>exact g
 | _=>rfl
def fu{b:Type}(l:List b):∀n i,i<n->((List.replicate n l).flatten.drop<|i*l.length).take l.length=l
 | 0,i,h=>absurd h ai
 | n+1,0,_=>by simp[adm]
 | n+1,i+1,h=>by
   rw[adm,adq,JL,ZE,<-yy,JK];exact fu l n i ai
def oK w I:∀t,bY w I t t.zero (gA t):=by
 intro t;induction t with
 | int k=>exact⟨rfl,by cases k<;>decide,by cases k<;>decide⟩
 | bool=>rfl
 | str=>exact⟨rfl,qK _⟩
 | slice e j=>exact .inl ⟨⟨ah,rfl⟩,rfl⟩
 | arr n e j =>
   refine⟨P1,by rw[eA];rfl,λi x l=>?_⟩;have c:(List.replicate n e.zero)[i]?=ab x:=l;rw[Zk] at c;split at c
   .rename_i m;obtain rfl:e.zero=x:=by simpa using c
    have:=fu (gA e) n i m;rw[eA] at this;show bY w I e e.zero (((List.replicate n _).flatten.drop _).take e.size)
    grind
   .grind
 | pair a b f g=>exact⟨_,_,rfl,f,g⟩
 | unit=>rfl
 | alt u a r f h=>exact h
 | Bz=>rfl
def RA:Value->Value->Bool
 | .int k n,.int c m=>Nat.beq (A2 k) (A2 c)&&decide (n=m)
 | .bool a,.bool b=>a==b
 | .string a,.string b=>decide (a.data.toList=b.data.toList)
 | .slice ah 0 0,.slice ah 0 0=>true
 | .pointer ah,.pointer ah=>true
 | .nilIface,.nilIface=>true
 | _,_=>false
def Xa{a b}(h:RA a b=true):a=b:=by
 unfold RA at h;split at h
 .simp only[gy,uv] at h;rw[zb h.1,h.2]
 .simpa using h
 .rename_i a b;obtain⟨⟨a⟩⟩:=a;obtain⟨⟨b⟩⟩:=b
  grind
 .rfl
 .rfl
 .rfl
 .cases h
def FK:List Value->List Value->Bool
 | [],[]=>true
 | a::r,b::s=>RA a b&&FK r s
 | _,_=>false
def IU:∀{a b},FK a b=true->a=b
 | [],[],_=>rfl
 | a::r,b::s,h=>by simp only[FK,gy] at h;rw[Xa h.1,IU h.2]
 | [],_::_,h=>by cases h
 | _::_,[],h=>by cases h
def DJ(P:Program)(c:TypeId)(b:Nat)(e:List Value):Bool :=
 match P.info? c with
 | some i=>Nat.beq i.size b&&(match i.zero with|some z=>FK z.cells.toList e|none=>false)
 | none=>false
def kn{P tid size b}(h:DJ P tid size b=true) :
  ∃i z,P.info? tid=ab i/\i.size=size/\i.zero=ab z/\z.cells.toList=b:=by
 unfold DJ at h;split at h
 .rename_i i c;simp only[gy] at h;split at h
  .rename_i z e;exact⟨i,z,c,iT h.1,e,IU h.2⟩
  .grind
 .cases h
def Hr(P:Program)(b:TypeId):Bool :=
 match P.info? b with
 | some i=>Nat.ble i.bytes 32768
 | none=>false
def Ty.adV:Ty->Bool
 | .alt _ _ r=>r.adV
 | .Bz=>true
 | _=>false
def e7(P:Program):Ty->Bool->TypeId->Nat->List Field->Bool
 | .int k,false,tid,_,_=>(match P.underlying tid with|some (.int g)=>Nat.beq (A2 k) (A2 g)|_=>false)&&DJ P tid 1 [.int k 0]
 | .bool,false,tid,_,_=>(match P.underlying tid with|some .bool=>true|_=>false)&&DJ P tid 1 [.bool false]
 | .str,false,tid,_,_=>(match P.underlying tid with|some .string=>true|_=>false)&&DJ P tid 1 [.string ⟨#[]⟩]
 | .slice e,false,tid,_,_=>(match P.underlying tid with|some (.slice c)=>e7 P e false c 0 []&&Hr P c&&Nat.blt 0 e.size|_=>false)&&DJ P tid 1 [.slice ah 0 0]
 | .arr n e,false,tid,_,_=>(match P.underlying tid with|some (.array m c)=>Nat.beq n m&&e7 P e false c 0 []&&Nat.blt 0 e.size|_=>false)&&DJ P tid (n*e.size) (gA<|.arr n e)&&!P.eqGuardType P.depth tid
 | .pair a b,false,tid,_,_=>(match P.underlying tid with
  | some (.struct h)=>(match h.toList with
    | f::r=>Nat.beq f.offset 0&&decide (f.name ≠ "_")&&e7 P a false f.type 0 []&&Nat.blt 0 a.size&&e7 P b true 0 a.size r
    | []=>false)
  | _=>false)&&DJ P tid (a.size+b.size) (gA<|.pair a b)&&!P.eqGuardType P.depth tid&&!P.stoodInHeld tid
 | .unit,false,tid,_,_=>false
 | .alt u _ r,false,tid,_,_=>e7 P r false tid 0 []&&P.concrete u&&r.adV
 | .Bz,false,tid,_,_=>(match P.underlying tid with|some (.interface _)=>true|_=>false)&&DJ P tid 1 [.nilIface]
 | .pair a b,true,_,off,f::r=>Nat.beq f.offset off&&decide (f.name ≠ "_")&&e7 P a false f.type 0 []&&Nat.blt 0 a.size&&e7 P b true 0 (off+a.size) r
 | .unit,true,_,_,[]=>true
 | _,_,_,_,_=>false
def Den(P:Program)(t:Ty)(b:TypeId):Prop:=e7 P t false b 0 []=true
def ry(P:Program)(t:Ty)(off:Nat)(b:List Field):Prop:=e7 P t true 0 off b=true
section
variable {P:Program} {tid:TypeId}
def Den.int{k}(h:Den P (.int k) tid):P.underlying tid=ab (.int k):=by
 simp only[Den,e7,gy] at h;have b:=h.1;split at b
 .rename_i e c;rw[c,zb b]
 .cases b
def Den.bool(h:Den P .bool tid):P.underlying tid=ab .bool:=by
 simp only[Den,e7] at h
 grind
def Den.str(h:Den P .str tid):P.underlying tid=ab .string:=by
 simp only[Den,e7] at h
 grind
def Den.slice{e}(h:Den P (.slice e) tid):∃b,P.underlying tid=ab (.slice b)/\Den P e b/\Hr P b=true/\0<e.size:=by
 simp only[Den,e7,gy] at h;have c:=h.1;split at c
 .rename_i b f;simp at c;exact⟨b,f,c.1.1,c.1.2,by simpa using c.2⟩
 .cases c
def Den.arr{n e}(h:Den P (.arr n e) tid):∃b,P.underlying tid=ab (.array n b)/\Den P e b/\0<e.size:=by
 simp only[Den,e7,gy] at h;have c:=h.1.1;split at c
 .rename_i m b f;simp only[gy] at c;rw[iT c.1.1];exact⟨b,f,c.1.2,by simpa using c.2⟩
 .cases c
def Den.aj9{n e}(h:Den P (.arr n e) tid):P.eqGuardType P.depth tid=false:=by
 simp only[Den,e7] at h
 grind
def Den.pair{a b}(h:Den P (.pair a b) tid):∃e,P.underlying tid=ab (.struct e)/\ry P (.pair a b) 0 e.toList/\P.eqGuardType P.depth tid=false/\P.stoodInHeld tid=false:=by
 simp only[Den,e7,gy] at h;obtain⟨⟨⟨c,l⟩,g⟩,i⟩:=h;split at c
 .rename_i e j;refine⟨e,j,?_,by simpa using g,by simpa using i⟩;split at c
  .rename_i f r k;simp only[ry,k,e7,BJ];exact c
  .cases c
 .cases c
def Den.info{t}(h:Den P t tid):∃i z,P.info? tid=ab i/\i.size=t.size/\i.zero=ab z/\z.cells.toList=gA t:=by
 induction t with
 | int k=>simp only[Den,e7,gy] at h;exact kn h.2
 | bool=>simp only[Den,e7,gy] at h;exact kn h.2
 | str=>simp only[Den,e7,gy] at h;exact kn h.2
 | slice e=>simp only[Den,e7,gy] at h;exact kn h.2
 | arr n e=>simp only[Den,e7,gy] at h;exact kn h.1.2
 | pair a b=>simp only[Den,e7,gy] at h;exact kn h.1.1.2
 | unit=>simp[Den,e7] at h
 | alt u a r f c=>simp only[Den,e7,gy] at h;exact c h.1.1
 | Bz=>simp only[Den,e7,gy] at h;exact kn h.2
def Den.Bz(h:Den P .Bz tid):∃b,P.underlying tid=ab (.interface b):=by
 simp only[Den,e7] at h
 grind
def Den.rest{u a r}(h:Den P (.alt u a r) tid):Den P r tid/\P.concrete u=true:=by
 simp only[Den,e7,gy] at h;exact h.1
def Ty.LD:∀{t:Ty},t.adV=true->t.size=1/\t.isAgg=false:=by
 intro t;induction t with
 | alt u a r c b=>intro h;exact b h
 | Bz=>intro h;exact⟨rfl,rfl⟩
 | _=>intro h;cases h
def Den.adW{u a r}(_:Den P r tid)(h:Den P (.alt u a r) tid):r.size=1:=by
 simp only[Den,e7,gy] at h;exact(Ty.LD h.2).1
def Den.agg{t}(h:Den P t tid) w:(isAgg tid).run P w=.ok t.isAgg w:=by
 induction t with
 | alt u a r f g=>exact g h.rest.1
 | Bz=>obtain⟨_,c⟩:=h.Bz;unfold Go.isAgg;simp[run_underlying c,Ty.isAgg]
 | int k=>unfold Go.isAgg;simp[run_underlying h.int,Ty.isAgg]
 | bool=>unfold Go.isAgg;simp[run_underlying h.bool,Ty.isAgg]
 | str=>unfold Go.isAgg;simp[run_underlying h.str,Ty.isAgg]
 | slice e i=>unfold Go.isAgg;obtain⟨_,c,_⟩:=h.slice;simp[run_underlying c,Ty.isAgg]
 | arr n e i=>unfold Go.isAgg;obtain⟨_,c,_⟩:=h.arr;simp[run_underlying c,Ty.isAgg]
 | pair a b f j=>unfold Go.isAgg;obtain⟨_,c,_⟩:=h.pair;simp[run_underlying c,Ty.isAgg]
 | unit=>simp[Den,e7] at h
def Den.sizeOf{t}(h:Den P t tid) w:(Go.sizeOf tid).run P w=.ok t.size w:=by
 obtain⟨i,z,b,c,_⟩:=h.info;simp[Go.sizeOf,typeInfo,b,c]
def Den.zero{t}(h:Den P t tid) w:∃z,(zeroValue tid).run P w=.ok z w/\z.cells.toList=gA t:=by
 obtain⟨i,z,b,f,c,e⟩:=h.info;exact⟨z,by simp[zeroValue,typeInfo,b,c],e⟩
def Den.cells{t}(h:Den P t tid):P.cellsOf tid=t.size:=by
 obtain⟨i,z,b,c,_⟩:=h.info;simp[Program.cellsOf,b,c]
def ry.cons{a b off c}(h:ry P (.pair a b) off c) :
  ∃f r,c=f::r/\f.offset=off/\f.name ≠ "_"/\Den P a f.type/\0<a.size/\ry P b (off+a.size) r:=by
 cases c with
 | nil=>simp[ry,e7] at h
 | cons f r =>
   simp only[ry,e7,gy] at h;obtain⟨⟨⟨⟨e,g⟩,i⟩,j⟩,k⟩:=h;exact⟨f,r,rfl,iT e,by simpa using g,i,by simpa using j,k⟩
def ry.at{t}:∀{off e k u o},ry P t off e->xP t k=ab u->kk t k=ab o ->
  ∃f,e[k]?=ab f/\f.offset=off+o/\Den P u f.type/\0<u.size:=by
 induction t with
 | pair a b i j =>
   intro off e k u o h g c;obtain⟨f,r,rfl,m,n,p,q,s⟩:=h.cons;cases k with
   | zero =>
     simp only[xP,kk] at g c
     grind
   | succ k =>
     simp only[xP,kk] at g c;cases l:kk b k with
     | none=>rw[l] at c;cases c
     | some v =>
       grind
 | _=>intro off e k u o h g c;cases k<;>simp[xP] at g
end
def Dt.cells:Dt->List Value
 | .dat t=>gA t
 | .buf _ _=>[.slice ah 0 0]
 | _=>[.pointer ah]
def LF:List Dt->List Value
 | []=>[]
 | f::r=>f.cells++LF r
def aik:List Dt->Nat
 | []=>0
 | f::r=>f.size+aik r
def Qb(P:Program):Nat->List Dt->List Field->Bool
 | _,[],[]=>true
 | off,f::r,g::s=>Nat.beq g.offset off&&Nat.blt 0 f.size&&(match P.info? g.type with|some i=>Nat.beq i.size f.size|none=>false)&&Qb P (off+f.size) r s
 | _,_,_=>false
def LG(P:Program)(b:TypeId)(c:List Dt):Bool :=
 (match P.underlying b with|some (.struct gs)=>Qb P 0 c gs.toList|_=>false)&&DJ P b (aik c) (LF c)
def aaU{P tid b}(h:LG P tid b=true) w:∃z,(zeroValue tid).run P w=.ok z w/\z.cells.toList=LF b:=by
 simp only[LG,gy] at h;obtain⟨i,z,c,g,e,f⟩:=kn h.2;exact⟨z,by simp[zeroValue,typeInfo,c,e],f⟩
def adX{P}:∀{b gs off k o},Qb P off b gs=true->zW b k=ab o->∃f i,gs[k]?=ab f/\f.offset=off+o/\P.info? f.type=ab i/\0<i.size:=by
 intro b;induction b with
 | nil=>intro gs off k o h c;cases c
 | cons f r j =>
   intro gs off k o h c;cases gs with
   | nil=>cases h
   | cons g s =>
     simp only[Qb,gy] at h;obtain⟨⟨⟨l,m⟩,e⟩,n⟩:=h;cases k with
     | zero =>
       obtain rfl:=aQ c;split at e
       .simp_all
       .cases e
     | succ k =>
       simp only[zW] at c
       grind
def agE{P tid c k o}(h:LG P tid c=true)(e:zW c k=ab o):∃(gs:Array Field) (f:Field) (i:TypeInfo),P.underlying tid=ab (.struct gs)/\gs.toList[k]?=ab f/\f.offset=o/\P.info? f.type=ab i/\0<i.size:=by
 simp only[LG,gy] at h;obtain⟨b,_⟩:=h;split at b
 .rename_i gs g;obtain⟨f,i,j,l,m,n⟩:=adX b e
  grind
 .cases b
def FL{P}:∀{b gs off},Qb P off b gs=true->∃c,gs.mapM (λf=>(P.info? f.type).map λi=>(f.offset,i.size))=ab c /\
  ∀k o f,zW b k=ab o->b[k]?=ab f->c[k]?=ab (off+o,f.size):=by
 intro b;induction b with
 | nil =>
   intro gs off h;cases gs with
   | nil=>exact⟨[],rfl,λk o f _ l=>by cases l⟩
   | cons g s=>cases h
 | cons f r m =>
   intro gs off h;cases gs with
   | nil=>cases h
   | cons g s =>
     simp only[Qb,gy] at h;obtain⟨⟨⟨u,v⟩,e⟩,n⟩:=h;obtain⟨c,p,x⟩:=m n;split at e
     .rename_i i t;refine⟨(g.offset,i.size)::c,by simp[t,p],λk o q j y=>?_⟩;cases k with
      | zero =>
        obtain rfl:=aQ j;simp_all
      | succ k =>
        simp only[zW] at j
        grind
     .cases e
structure fS (P:Program) (cx:Ctx):Prop where
 T:∀tid t,find cx.T tid=ab t->Den P t tid
 rv:∀tid,dA cx.rv tid=true->(∀w,(isAgg tid).run P w=.ok false w)/\(∀w,(Go.sizeOf tid).run P w=.ok 1 w)/\∃z,(∀w,(zeroValue tid).run P w=.ok z w)/\z.oneCell'=true
 zc:∀tid,dA cx.zc tid=true->∃e,P.underlying tid=ab (.pointer e)
 fns:∀f fn,find cx.fns f=ab fn->P.funcs[f]?=ab fn
 sG:∀tid fs,find cx.sG tid=ab fs->LG P tid fs=true
 T8:∀tid e,find cx.T8 tid=ab e->P.underlying tid=ab (.slice e)
def jI{o t}(h:Hk o t=true):o=ab t:=by
 unfold Hk at h;split at h
 .rw[Ty.eq_of_beq h]
 .cases h
def addr_add b o n:Addr.add ⟨b,o,ah⟩ n=⟨b,o+n,ah⟩:=by
 unfold Addr.add;split<;>simp_all
def bh(l:List Value)(b:Nat)(c:List Value):List Value:=l.take b++c++l.drop (b+c.length)
def bT{l c off}(h:off+c.length<=l.length):(bh l off c).length=l.length:=by
 simp[bh];omega
def nV.same{cur cur' b}(h:nV cur b)(c:cur'.size=cur.size):nV cur' b:=λo e=>h o ai
section
variable {P:Program}
def ThB.same{e cur cur' b}(h:ThB e cur b)(c:cur'.size=cur.size):ThB e cur' b:=⟨h.th.same c,λf=>by rw[c];exact h.um f⟩
def dx g o t f:∀l i b w,w.heap[g]?=ab (.cells b t f)->nV b f ->
  o+i+l.length<=b.size->(∀v∈l,v.oneCell'=true)->(storeCells ⟨g,o,ah⟩ l i).run P w=.ok () (w.setRow g (bh b.toList (o+i) l).toArray)
 | [],i,b,w,h,_,_,_=>by
   simp only[storeCells,bh,zQ,nQ,Fv,BI,Array.toArray_toList];rw[setRow_self w g b t f h];rfl
 | v::rest,i,b,w,h,j,n,p=>by
   have hi:o+i<b.size:=by simp at n;omega
   have c:w.cell? ⟨g,o+i,ah⟩=ab b[o+i]:=by simp[World.cell?,h]
   have k:w.frozen? ⟨g,o+i,ah⟩=false:=by
    have:=j _ hi;simp only[World.frozen?]
    grind
   have m:(store ((⟨g,o,ah⟩:Addr).add i) v).run P w=.ok () (w.setRow g<|b.setIfInBounds (o+i) v):=by
    rw[addr_add,run_store P w _ v _ (p v bb),c];simp[k,setCell_eq_setRow w g _ b t f v h]
   simp only[storeCells,Sem.run_bind,m,Result.andThen_ok,(dx g o t f rest (i+1) (b.setIfInBounds (o+i) v) _ (setRow_heap w g b _ t _ h) (j.same bb) (by simp at n⊢;omega) λx q=>p x (by simp[q])),setRow_setRow]
   congr 3
   have e:=list_seg_step b.toList _ v rest ai;simpa [bh,Ft] using e
def cell_of_heap{w:World}{g cur t b}(c:w.heap[g]?=ab (.cells cur t b)) j:w.cell? ⟨g,j,ah⟩=cur[j]?:=by
 simp[World.cell?,c]
def Dv{w g off n cur t c}(e:w.heap[g]?=ab (.cells cur t c))(h:off+n<=cur.size) :
  (loadCells ⟨g,off,ah⟩ n).run P w=.ok ((cur.toList.drop off).take n).toArray w:=by
 have:=run_loadCells_list (P:=P) w ⟨g,off,ah⟩ ((cur.toList.drop off).take n) (λj v b=>by
  rw[addr_add,cell_of_heap e];rw[jP] at b;split at b
  .grind
  .cases b)
 grind
def Hs{w I g off cs}(h:FI w I g off cs):(loadCells ⟨g,off,ah⟩ cs.length).run P w=.ok cs.toArray w :=
 run_loadCells_list w ⟨g,off,ah⟩ cs (λj v b=>by rw[addr_add];exact(h j v b).1)
end
def ko{a b:Nat}(h:a≠b):Nat.beq a b=false:=by
 cases c:Nat.beq a b
 .rfl
 .simp_all
def adY(a:Act) d t v (hd:d<a.tmps.size):(a.put (ab d) v).tmps.getD t undef=if t=d then v else a.tmps.getD t undef:=by
 simp only[Act.put,WY]
 grind
def Ug(a:Act)(d:Option Nat) v:(a.put d v).tmps.size=a.tmps.size:=by cases d<;>simp[Act.put]
def put_defers(a:Act)(d:Option Nat) v:(a.put d v).defers=a.defers:=by cases d<;>rfl
section
variable {B:BA} {N:Nat} {γ bJ:Gh} {σ:St} {a:Act} {w w':World} {cT:Nat->Option Box}
def dJ.step(h:dJ B N γ σ a w)(b:Ext B γ σ.mem w bJ cT w')(c:bM B bJ cT w'){d}(f:d<N){v val}(g:cM bJ cT w' v .val [val]) :
  dJ B N bJ ({ br:=σ.br,mem:=cT:St }.put d v) (a.put (ab d) val) w' where
 br:=λt=>by
  rw[adY a d t val<|by rw[h.size];exact f];simp only[St.put];by_cases e:t=d
  .simp_all
  .rw[aR e,ko e];exact(h.br t).ext b
 size:=by rw[Ug];exact h.size
 defers:=by exact h.defers
 ok:=c
def dJ.go(h:dJ B N γ σ a w)(b:Ext B γ σ.mem w bJ cT w')(c:bM B bJ cT w'):dJ B N bJ { br:=σ.br,mem:=cT } a w' where
 br:=λt=>(h.br t).ext b
 size:=h.size
 defers:=h.defers
 ok:=c
def dJ.bD(h:dJ B N γ σ a w)(b:Ext B γ σ.mem w bJ cT w')(c:bM B bJ cT w'){d}(e:∀k,d=ab k->k<N){v val}(f:cM bJ cT w' v .val [val]) :
  dJ B N bJ ({ br:=σ.br,mem:=cT:St }.bD d v) (a.put d val) w':=by
 cases d with
 | none=>exact h.go b c
 | some d=>exact h.step b c (e d rfl) f
def dJ.wN(h:dJ B N γ σ a w){d}(b:∀k,d=ab k->k<N){v val}(c:cM γ σ.mem w v .val [val]) :
 dJ B N γ (σ.bD d v) (a.put d val) w:=h.bD (Ext.refl _ _ _ _) h.ok b c
end
def eE{γ mem w t x v}:cM γ mem w (.data t x) .val [v]↔∃cs,bY w γ.I t x cs/\v=cY t cs:=by
 simp only[cM,List.cons.injEq,and_true]
def aaV γ mem w v:cM γ mem w (Lr v) .val [v]:=by
 unfold Lr;split
 .rename_i k n;cases c:(decide (k.min<=n)&&decide (n<=k.max))
  .exact⟨_,rfl⟩
  .simp at c;exact⟨[.int k n],⟨rfl,c.1,c.2⟩,rfl⟩
 .rename_i b;exact⟨[.bool b],rfl,rfl⟩
 .rename_i s;cases c:Nat.ble s.data.toList.length 4294967296
  .exact⟨_,rfl⟩
  .refine⟨[.string s],⟨?_,?_⟩,rfl⟩
   .grind
   .have:=JH c;simp only[maxLen];omega
 .rfl
 .rfl
 .rfl
 .exact⟨_,rfl⟩
def dJ.dw{B N γ σ a w}(h:dJ B N γ σ a w) x:cM γ σ.mem w (dw σ x) .val [a.eval x]:=by
 cases x with
 | tmp t=>exact h.br t
 | const v=>exact aaV _ _ _ v
 | global g=>exact⟨_,rfl⟩
 | func f=>exact⟨#[],rfl,rfl,λi b c e=>by simp at e⟩
def cM.oL{γ mem w v x}(h:cM γ mem w v .val [x])(O:∀u,v≠.BF u)(K:v=.undef->x.oneCell'=true):cM γ mem w v .cells x.cells.toList:=by
 cases v with
 | undef=>exact⟨x,by cases x<;>first|rfl|(have:=K rfl;simp[Value.oneCell'] at this),K rfl⟩
 | data t y=>obtain⟨L,g,i⟩:=eE.1 h;subst i;rw[tH g];exact g
 | pQ=>obtain rfl:x=_:=by simpa [cM] using h
       rfl
 | uy=>obtain rfl:x=_:=by simpa [cM] using h
       rfl
 | uz=>obtain rfl:x=_:=by simpa [cM] using h
       rfl
 | xO b aU=>obtain⟨⟨v,g,i⟩,o⟩:=h;simp at g;subst g;refine⟨⟨x,?_,i⟩,?_⟩
            .cases x<;>first|rfl|(simp[Value.oneCell'] at i)
            .obtain⟨s,z,A,C⟩:=o;exact⟨s,z,A,λe=>by
              obtain⟨m,j,D,l⟩:=C e;refine⟨m,j,D,?_⟩;rcases l with l|l
              .simp at l;subst l;exact .inl rfl
              .simp at l;subst l;exact .inr rfl⟩
 | cell t y=>obtain⟨m,H,L,g,i,o⟩:=h;simp at g;subst g;exact⟨m,H,L,rfl,i,o⟩
 | ptr b aU p=>obtain⟨⟨v,g,i⟩,o⟩:=h;simp at g;subst g;refine⟨⟨x,?_,i⟩,?_⟩
               .cases x<;>first|rfl|(simp[Value.oneCell'] at i)
               .obtain⟨s,z,A,C⟩:=o;exact⟨s,z,A,λe=>by obtain⟨m,j,D,l⟩:=C e;simp at l;subst l;exact⟨m,j,D,rfl⟩⟩
 | whole b aU=>obtain⟨⟨v,g,i⟩,o⟩:=h;simp at g;subst g;refine⟨⟨x,?_,i⟩,?_⟩
               .cases x<;>first|rfl|(simp[Value.oneCell'] at i)
               .obtain⟨s,z,A,C⟩:=o;exact⟨s,z,A,λe=>by
                 obtain⟨u,n,D,l,E⟩:=C e;refine⟨u,n,D,l,?_⟩;rcases E with ⟨E,F⟩|⟨m,j,E,F⟩
                 .simp at F;subst F;exact .inl ⟨E,rfl⟩
                 .simp at F;subst F;exact .inr ⟨m,j,E,rfl⟩⟩
 | part b aU lo n=>obtain⟨⟨v,g,i⟩,o⟩:=h;simp at g;subst g;refine⟨⟨x,?_,i⟩,?_⟩
                   .cases x<;>first|rfl|(simp[Value.oneCell'] at i)
                   .obtain⟨s,z,A,C⟩:=o;exact⟨s,z,A,λe=>by
                     obtain⟨u,k,D,l,E,F,r,j,G,I⟩:=C e;simp at G;subst G;exact⟨u,k,D,l,E,F,r,j,rfl,I⟩⟩
 | win b aU q e k lo n=>obtain⟨⟨v,g,i⟩,o⟩:=h;simp at g;subst g;refine⟨⟨x,?_,i⟩,?_⟩
                        .cases x<;>first|rfl|(simp[Value.oneCell'] at i)
                        .obtain⟨s,z,A,C⟩:=o;exact⟨s,z,A,λe=>by
                          obtain⟨Q,u,c,D,l,E,F,r,j,G,I⟩:=C e;simp at G;subst G;exact⟨Q,u,c,D,l,E,F,r,j,rfl,I⟩⟩
 | fn f M=>obtain⟨J,g,i⟩:=h;simp at g;subst g;exact⟨J,rfl,i⟩
 | mix p q=>obtain⟨R,S,g,i,o⟩:=h;simp at g;subst g;exact⟨R,S,by simp[Value.cells],i,o⟩
 | BF u=>exact absurd rfl (O u)
 | nl=>exact h.elim
def cM.length{γ mem w}:∀{v cs},cM γ mem w v .cells cs->cs.length=ek v:=by
 intro v;induction v with
 | data t x=>intro cs h;exact bY.length h
 | mix a b c g=>intro cs h;obtain⟨m,o,rfl,j,l⟩:=h;rw[jB,c j,g l];rfl
 | undef=>intro cs h;obtain⟨v,rfl,_⟩:=h;rfl
 | pQ=>intro cs h;rw[show cs=_ from h];rfl
 | uy=>intro cs h;rw[show cs=_ from h];rfl
 | uz=>intro cs h;rw[show cs=_ from h];rfl
 | xO b aU=>intro cs h;obtain⟨⟨_,rfl,_⟩,_⟩:=h;rfl
 | cell t x=>intro cs h;obtain⟨_,_,_,rfl,_⟩:=h;rfl
 | ptr b aU p=>intro cs h;obtain⟨⟨_,rfl,_⟩,_⟩:=h;rfl
 | whole b aU=>intro cs h;obtain⟨⟨_,rfl,_⟩,_⟩:=h;rfl
 | part b aU lo n=>intro cs h;obtain⟨⟨_,rfl,_⟩,_⟩:=h;rfl
 | win b aU q e k lo n=>intro cs h;obtain⟨⟨_,rfl,_⟩,_⟩:=h;rfl
 | fn f i=>intro cs h;obtain⟨_,rfl,_⟩:=h;rfl
 | BF u r=>intro cs h;exact h.elim
 | nl=>intro cs h;exact h.elim
def cM.one{γ mem w}:∀{v cs},cM γ mem w v .cells cs->∀c∈cs,c.oneCell'=true:=by
 intro v;induction v with
 | data t x=>intro cs h;exact bY.one h
 | mix a b l m =>
   intro cs h c g;obtain⟨o,r,rfl,i,s⟩:=h
   grind
 | undef=>intro cs h c g;obtain⟨v,rfl,i⟩:=h;simp at g;subst g;exact i
 | pQ=>intro cs h c g;rw[show cs=_ from h] at g;simp at g;subst g;rfl
 | uy=>intro cs h c g;rw[show cs=_ from h] at g;simp at g;subst g;rfl
 | uz=>intro cs h c g;rw[show cs=_ from h] at g;simp at g;subst g;rfl
 | xO b aU=>intro cs h c g;obtain⟨⟨_,rfl,i⟩,_⟩:=h;simp at g;subst g;exact i
 | cell t x=>intro cs h c g;obtain⟨_,_,_,rfl,_⟩:=h;simp at g;subst g;rfl
 | ptr b aU p=>intro cs h c g;obtain⟨⟨_,rfl,i⟩,_⟩:=h;simp at g;subst g;exact i
 | whole b aU=>intro cs h c g;obtain⟨⟨_,rfl,i⟩,_⟩:=h;simp at g;subst g;exact i
 | part b aU lo n=>intro cs h c g;obtain⟨⟨_,rfl,i⟩,_⟩:=h;simp at g;subst g;exact i
 | win b aU q e k lo n=>intro cs h c g;obtain⟨⟨_,rfl,i⟩,_⟩:=h;simp at g;subst g;exact i
 | fn f j=>intro cs h c g;obtain⟨_,rfl,_⟩:=h;simp at g;subst g;rfl
 | BF u y=>intro cs h;exact h.elim
 | nl=>intro cs h;exact h.elim
def uA{α}{l:List α}{i x}(h:idx l i=ab x):0<=i/\l[i.toNat]?=ab x:=by
 unfold idx at h
 grind
def Ev{w I}:∀{t x cs k o u},bY w I t x cs->yz t x k=ab (o,u) ->
  ∃(c:Ty) (y:c.den),u=.data c y/\xP t k=ab c/\kk t k=ab o/\o+c.size<=cs.length/\bY w I c y ((cs.drop o).take c.size):=by
 intro t;induction t with
 | pair a b j g =>
   intro x cs k o u h e;obtain⟨s,v,rfl,f,l⟩:=h;cases k with
   | zero =>
     obtain⟨rfl,rfl⟩:=e;refine⟨a,x.1,rfl,rfl,rfl,by rw[jB,f.length];omega,?_⟩;rw[zR,<-f.length,T1];exact f
   | succ k =>
     simp only[yz] at e;cases i:yz b x.2 k with
     | none=>rw[i] at e;cases e
     | some r =>
       rw[i] at e;obtain⟨rfl,rfl⟩:=e;obtain⟨c,y,m,n,p,z,q⟩:=g l i;refine⟨c,y,m,n,by simp[kk,p],by rw[jB,f.length];omega,?_⟩;rw[<-f.length,<-yy,JK];exact q
 | _=>intro x cs k o u h e;cases k<;>simp[yz] at e
def Ht{γ mem w}:∀{v cs k o u},cM γ mem w v .cells cs->vx v k=ab (o,u) ->
  o+ek u<=cs.length/\cM γ mem w u .cells ((cs.drop o).take<|ek u):=by
 intro v;induction v with
 | data t x =>
   intro cs k o u h c;obtain⟨m,y,rfl,_,_,e,f⟩:=Ev h c;exact⟨e,f⟩
 | mix a b j g =>
   intro cs k o u h c;obtain⟨n,p,rfl,e,f⟩:=h;cases k with
   | zero =>
     obtain⟨rfl,rfl⟩:=c;refine⟨by rw[jB,e.length];omega,?_⟩;rw[zR,<-e.length,T1];exact e
   | succ k =>
     simp only[vx] at c;cases i:vx b k with
     | none=>rw[i] at c;cases c
     | some r =>
       rw[i] at c;obtain⟨rfl,rfl⟩:=c;obtain⟨q,l⟩:=g f i;refine⟨by rw[jB,e.length];omega,?_⟩;rw[<-e.length,<-yy,JK];exact l
 | _=>intro cs k o u h c;cases k<;>simp[vx] at c
def KJ{γ mem w t v z es}(h:toS t v=ab z)(b:cM γ mem w v .cells es):bY w γ.I t z es:=by
 cases v with
 | data u y =>
   obtain⟨e,c⟩:=Ty.lX h;subst e;subst c;exact b
 | _=>cases h
def bind_some{α β}{t:Tree α}{f:α->Tree β}{y}(h:(t.bind f).run=ab y):∃x,t.run=ab x/\(f x).run=ab y:=by
 rw[Tree.run_bind] at h;exact Ds.1 h
def cm{T α o}{k:T->Tree α}{y}(h:(Tree.look o k).run=ab y):∃x,o=ab x/\(k x).run=ab y:=by
 cases o with
 | none=>cases h
 | some x=>exact⟨x,rfl,h⟩
def cO{α c}{t:Tree α}{y}(h:(Tree.jG c t).run=ab y):c=true/\t.run=ab y:=by
 cases c with
 | false=>cases h
 | true=>exact⟨rfl,h⟩
def aI{α c}{t:Tree α}{y}(h:(bif c then t else .fail).run=ab y):c=true/\t.run=ab y:=by
 cases c with
 | false=>cases h
 | true=>exact⟨rfl,h⟩
def gN{α c}{t e:Tree α}{y}(h:(Tree.node c t e).run=ab y):(bif c then t else e).run=ab y:=by
 cases c<;>exact h
section
variable {γ:Gh} {mem:Nat->Option Box} {w:World}
def Uh:∀{t x cs k o u y f es},
  bY w γ.I t x cs->yz t x k=ab (o,u)->(∀v,(f u).run=ab v->cM γ mem w v .cells es)->(Rs t x k f).run=ab y->es.length=ek u ->
  bY w γ.I t y (bh cs o es):=by
 intro t;induction t with
 | pair a b A i =>
   intro x cs k o u y f es h e n c j;obtain⟨p,q,rfl,l,s⟩:=h;cases k with
   | zero =>
     obtain⟨rfl,rfl⟩:=e;obtain⟨v,m,c⟩:=bind_some c;cases hv:toS a v with
     | none=>rw[hv] at c;cases c
     | some z =>
       rw[hv] at c;obtain rfl:=aQ c;simp only[ek] at j;refine⟨es,q,?_,KJ hv (n v m),s⟩;simp only[bh,ady,Bx,BJ];rw[show es.length=p.length by rw[j,l.length],JK]
   | succ k =>
     simp only[yz] at e;cases g:yz b x.2 k with
     | none=>rw[g] at e;cases e
     | some r =>
       rw[g] at e;obtain⟨rfl,rfl⟩:=e;obtain⟨z,C,c⟩:=bind_some c;obtain rfl:=aQ c;have:=i s g n C j;refine⟨p,bh q r.1 es,?_,l,this⟩;simp only[bh,<-l.length,ac8,uw];rw[Ft,<-yy,JK]
 | _=>intro x cs k o u y f es h e;cases k<;>simp[yz] at e
def LH:∀{j cs k o u c f es},
  cM γ mem w j .cells cs->vx j k=ab (o,u)->(∀v,(f u).run=ab v->cM γ mem w v .cells es)->(Ls j k f).run=ab c->es.length=ek u ->
  cM γ mem w c .cells (bh cs o es):=by
 intro j;induction j with
 | data t x =>
   intro cs k o u c f es h e l g m;obtain⟨y,D,g⟩:=bind_some g;obtain rfl:=aQ g;exact Uh h e l D m
 | mix a b E n =>
   intro cs k o u c f es h e l g m;obtain⟨s,A,rfl,p,C⟩:=h;cases k with
   | zero =>
     obtain⟨rfl,rfl⟩:=e;obtain⟨v,q,g⟩:=bind_some g;obtain rfl:=aQ g;refine⟨es,A,?_,(l v q),C⟩;simp only[bh,ady,Bx,BJ];rw[show es.length=s.length by rw[m,p.length],JK]
   | succ k =>
     simp only[vx] at e;cases i:vx b k with
     | none=>rw[i] at e;cases e
     | some r =>
       rw[i] at e;obtain⟨rfl,rfl⟩:=e;obtain⟨z,F,g⟩:=bind_some g;obtain rfl:=aQ g;have:=n C i l F m;refine⟨s,bh A r.1 es,?_,p,this⟩;simp only[bh,<-p.length,ac8,uw];rw[Ft,<-yy,JK]
 | _=>intro cs k o u c f es h e;cases k<;>simp[vx] at e
def xS:∀{p v u cs},cM γ mem w v .cells cs->(nav p v).run=ab u->eC p+ek u<=cs.length/\cM γ mem w u .cells ((cs.drop<|eC p).take<|ek u):=by
 intro p;induction p with
 | nil =>
   intro v u cs h b;obtain rfl:=aQ b;have j:=h.length;refine⟨by simp[eC];omega,?_⟩;rw[show eC []=0 from rfl,zR,<-j,Es];exact h
 | cons s p t =>
   intro v u cs h b;cases s with
   | gz k off =>
     simp only[nav] at b;cases m:vx v k with
     | none=>rw[m] at b;cases b
     | some r =>
       rw[m] at b;obtain⟨o,c⟩:=aI b;obtain⟨F,y⟩:=Ht h m;obtain⟨A,f⟩:=t y c;have j:=y.length;simp only[eC,<-(iT o)];refine⟨ai,?_⟩;rw[ZB,IL,yy,yx ai] at f;exact f
   | idx i size =>
     simp only[nav] at b;split at b
     .rename_i n e l;obtain⟨o,c⟩:=aI b;obtain⟨x,C,q⟩:=cm c;obtain⟨G,g⟩:=uA C;obtain⟨H,I,D⟩:=h;have z:=D _ x g;obtain⟨A,f⟩:=t (v:=.data e x) z q;have j:=z.length;have hi:i.toNat<n:=by have:=(hR.1 g).1;omega
      have E:_*e.size<=n*e.size:=hS _ hi;rw[JL] at E;simp only[eC,(iT o)];refine⟨ai,?_⟩;rw[ZB,IL,yy,yx ai] at f;exact f
     .cases b
def tI cs a b n es (h:b+es.length<=n) (g:a+n<=cs.length) :
  bh cs a (bh ((cs.drop a).take n) b es)=bh cs (a+b) es:=by
 have e:((cs.drop a).take n).length=n:=jA;have c:(bh ((cs.drop a).take n) b es).length=n:=by rw[bT ai,e]
 have f:bh cs a (bh ((cs.drop a).take n) b es)=cs.take a++bh ((cs.drop a).take n) b es++cs.drop (a+n):=by
  rw[bh,c]
 rw[f];simp only[bh,uw];rw[IL,yx ai,<-uw,<-List.take_add];have:cs.drop (a+n)=(cs.drop a).drop n:=by rw[yy]
 rw[this,<-Zj (by rw[e];exact h),BI,yy,Ft]
def LI{I e n}{l:List e.den}{cs es i y}(r:l.length=n)(s:n*e.size<=cs.length)
  (h:∀j x,l[j]?=ab x->bY w I e x ((cs.drop<|j*e.size).take e.size)) (k:i<n) (m:bY w I e y es) :
  ∀j x,(l.set i y)[j]?=ab x->bY w I e x (((bh cs (i*e.size) es).drop<|j*e.size).take e.size):=by
 intro j x b;have o:=m.length;have t:_*e.size<=n*e.size:=hS _ k;rw[List.getElem?_set] at b;split at b
 .rename_i c;split at b
  .obtain rfl:=aQ b;have:((bh cs (i*e.size) es).drop<|i*e.size).take e.size=es:=by
    rw[bh]
    grind
   grind
  .cases b
 .rename_i c;have p:j<n:=by have:=(hR.1 b).1;omega
  have f:_*e.size<=n*e.size:=hS _ p;rw[JL] at f;have key:((bh cs (i*e.size) es).drop<|j*e.size).take e.size=(cs.drop<|j*e.size).take e.size:=by
   apply Ld;intro q;rw[jP,jP];split
   .rename_i u;rw[sY,sY,bh];rcases vM j i with g|g
    .have:_*e.size<=i*e.size:=hS _ g
     grind
    .have:(i+1)*e.size<=j*e.size:=hS _ ai
     grind
   .rfl
  grind
def z7:∀{p v E u c cs es},cM γ mem w v .cells cs->(nav p v).run=ab E->(zT p v u).run=ab c->cM γ mem w u .cells es->es.length=ek E ->
  cM γ mem w c .cells (bh cs (eC p) es):=by
 intro p;induction p with
 | nil =>
   intro v E u c cs es h b F H q;obtain rfl:=aQ b;obtain rfl:=aQ F;have:=h.length;simp only[eC,bh]
   grind
 | cons s p Q =>
   intro v E u c cs es h b F H q;cases s with
   | gz k off =>
     simp only[nav] at b;cases G:vx v k with
     | none=>rw[G] at b;cases b
     | some r =>
       rw[G] at b;obtain⟨I,g⟩:=aI b;obtain⟨V,J⟩:=Ht h G;obtain⟨t,W⟩:=xS J g;have m:=J.length;rw[m] at t;have:=LH (f:=λw=>zT p w u) h G (λz K=>Q J g K H q) F (by rw[bT<|by rw[m,q];exact t,m]);rw[tI cs r.1 _ _ es ai V,(iT I)] at this;exact this
   | idx i size =>
     simp only[nav] at b;split at b
     .rename_i n e l;obtain⟨I,g⟩:=aI b;obtain⟨x,R,A⟩:=cm g;obtain⟨X,L,M⟩:=cm F;obtain rfl:x=X:=aQ (R.symm.trans L);obtain⟨z,K,j⟩:=bind_some M;cases O:toS e z with
      | none=>rw[O] at j;cases j
      | some y =>
        rw[O] at j;obtain rfl:=aQ j;obtain⟨h0,C⟩:=uA R;obtain⟨S,Y,T⟩:=h;have U:=T _ x C;have hi:i.toNat<n:=by have:=(hR.1 C).1;omega
        have Z:_*e.size<=n*e.size:=hS _ hi;rw[JL] at Z;have D:cM γ mem w (.data e x) .cells _:=U;obtain⟨t,W⟩:=xS D A;have o:=U.length;rw[o] at t;have hsl:(bh ((cs.drop<|i.toNat*e.size).take e.size) (eC p) es).length=e.size:=by rw[bT<|by rw[o,q];exact t,o]
        simp only[eC,(iT I)];rw[<-(tI cs _ _ e.size es ai ai)];refine⟨(@List.length_set _ l _ _).trans S,?_,LI S ai T hi (KJ O<|Q D A K H q)⟩
        .rw[bT ai];exact Y
     .cases b
end
open RowKit
section
variable {B:BA} {γ bJ:Gh} {mem cT:Nat->Option Box} {w w':World}
def fj.keep{c p}(h:fj γ mem w c p)(q:Ext B γ mem w bJ cT w')(r:bJ.loc c=γ.loc c)
  (v:∀b k,γ.loc c=ab (b,k)->w'.heap[b]?=w.heap[b]?):fj bJ cT w' c p:=by
 unfold fj at h⊢;cases g:p.buf with
 | true =>
   rw[g] at h;obtain⟨e,l,y,z,f⟩:=h;refine⟨e,l,y,z,?_⟩;rcases f with ⟨f,n⟩|⟨b,j,m,tid,s,f,n,t,o,u,A,C,D⟩
   .exact .inl ⟨r.trans f,n⟩
   .exact .inr ⟨b,j,m,tid,s,r.trans f,(v _ _ f).trans n,t,o,u,A,C,λi x E=>bY.mono q.I q.cells (D i x E)⟩
 | false =>
   rw[g] at h;obtain⟨b,j,m,tid,s,f,n,t,F,u⟩:=h;exact⟨b,j,m,tid,s,r.trans f,(v _ _ f).trans n,t,F,u.ext q⟩
def dM{a}(h:w'.heap[a.block]?=w.heap[a.block]?):w'.cell? a=w.cell? a:=by simp[World.cell?,h]
def bU(c:Gh)(b:Nat)(L:Option (Nat×Nat)):Gh:={ c with loc:=λi=>if i=b then L else c.loc i }
def dt(c:Nat->Option Box)(b:Nat)(bx:Box):Nat->Option Box:=λi=>bif Nat.beq i b then ab bx else c i
def bI b bx:dt mem b bx b=ab bx:=by simp[dt]
def bg{b c} e (h:c≠b):dt mem b e c=mem c:=by simp[dt,ko h]
def vO(h:bM B γ mem w){b bx L}(f:∀g,mem b=ab g->g.aU<bx.aU)
  (m:wE B w w') (i:∀k,k<w.heap.size->w'.heap[k]?=w.heap[k]?):Ext B γ mem w (bU γ b L) (dt mem b bx) w' where
 below:=m
 I:=λ_ _ x=>x
 rM:=λ_ _ x=>.inl x
 cells:=λj o x=>dM (i j<|h.vz j o x)
 boxes:=λc cx l=>by
  by_cases e:c=b
  .subst e;refine⟨bx,bI _ _,ZF (f _ l),λe=>absurd e ?_⟩;have:=f _ l;omega
  .exact⟨cx,by rw[bg _ e];exact l,cp _,λ_=>⟨by simp[bU,e],rfl,rfl⟩⟩
def bM.add(h:bM B γ mem w){b bx L}(m:∀p,mem b=ab p->p.aU<bx.aU)
  (q:wE B w w') (j:∀k,k<w.heap.size->w'.heap[k]?=w.heap[k]?) (r:∀f k,L=ab (f,k)->w.heap.size<=f/\f<w'.heap.size)
  (u:fj (bU γ b L) (dt mem b bx) w' b bx):bM B (bU γ b L) (dt mem b bx) w' where
 dv:=h.FJ (vO (L:=L) h m q j)
 base:=iU h.base q.size
 boxes:=λc cx g=>by
  by_cases e:c=b
  .subst e;rw[bI] at g;obtain rfl:=aQ g;exact u
  .rw[bg _ e] at g;refine(h.boxes c cx g).keep (vO h m q j) (by simp[bU,e]) λf k x=>j f (h.fresh c f k (by rw[g];simp) x).2
 inj:=λc d f k v g s i n=>by
  by_cases e:c=b
  .by_cases o:d=b
   .rw[e,o]
   .exfalso;simp only[bU,aX e] at i;simp only[bU,aR o] at n;rw[bg _ o] at s;have:=(h.fresh d f v s n).2;have:=(r _ _ i).1;omega
  .by_cases o:d=b
   .exfalso;simp only[bU,aR e] at i;simp only[bU,aX o] at n;rw[bg _ e] at g;have:=(h.fresh c f k g i).2;have:=(r _ _ n).1;omega
   .simp only[bU,aR e] at i;simp only[bU,aR o] at n;rw[bg _ e] at g;rw[bg _ o] at s;exact h.inj c d f k v g s i n
 fresh:=λc f k g i=>by
  by_cases e:c=b
  .simp only[bU,aX e] at i;obtain⟨n,y⟩:=r _ _ i;exact⟨.inl (by have:=h.base;omega),y⟩
  .simp only[bU,aR e] at i;rw[bg _ e] at g;have:=h.fresh c f k g i;exact⟨this.1,Eo this.2 q.size⟩
 vz:=λf l t=>Eo (h.vz f l t) q.size
 sep:=λc cx f k l g i t=>by
  by_cases e:c=b
  .exfalso;simp only[bU,aX e] at i;have:=(r _ _ i).1;have:=h.vz f l t;omega
  .simp only[bU,aR e] at i;rw[bg _ e] at g;exact h.sep c cx f k l g i t
def db(w:World) o:∀k,k<w.heap.size->(w.alloc o).heap[k]?=w.heap[k]?:=λk b=>Below.heap_alloc w o k b
def uB cs:nV cs (0,0):=λo _ h=>ai
def wO e cs:ThB e cs (0,0):=⟨uB cs,λ_ h=>ai⟩
def bM.newVar(h:bM B γ mem w){b v tid aU}(c:∀f,mem b=ab f->f.aU<aU){cs} g (i:tid=0\/g=tid) (hv:cM γ mem w v .cells cs.toList) :
  let bx:Box:={ val:=v,tid,buf:=false,ro:=false,lk:=false,aU }
  bM B (bU γ b<|some (w.heap.size,0)) (dt mem b bx) (w.alloc<|.cells cs g)/\Ext B γ mem w (bU γ b<|some (w.heap.size,0)) (dt mem b bx) (w.alloc<|.cells cs g):=by
 intro bx;have j:wE B w (w.alloc<|.cells cs g):=(wE.refl _ _).alloc h.base _;have hx:=vO (L:=ab (w.heap.size,0)) h (bx:=bx) c j (db w _);refine⟨h.add c j (db w _) (λl k e=>by obtain⟨rfl,rfl⟩:=cd (aQ e);exact⟨cp _,bb⟩) ?_,hx⟩;exact⟨w.heap.size,0,cs,g,_,by simp[bU],heap_alloc_new w _,uB cs,i,hv.ext hx⟩
def bM.adZ(h:bM B γ mem w){b e}{l:List e.den}{tid aU cap blk}(f:∀m,mem b=ab m->m.aU<aU){cs o p}(v:0<e.size)
  (u:wE B w w') (g:∀k,k<w.heap.size->w'.heap[k]?=w.heap[k]?) (r:w.heap.size<=blk) (j:w'.heap[blk]?=ab (.cells cs o p)) (s:ThB e cs p) (n:tid=0\/o=tid)
  (y:l.length<=cap) (z:cap<=maxLen) (A:cs.size=cap*e.size) (C:∀i x,l[i]?=ab x->bY w' γ.I e x ((cs.toList.drop<|i*e.size).take e.size)) :
  let t:Box:={ val:=.data (.slice e) l,tid,buf:=true,ro:=false,lk:=false,aU }
  bM B (bU γ b<|some (blk,cap)) (dt mem b t) w'/\Ext B γ mem w (bU γ b<|some (blk,cap)) (dt mem b t) w':=by
 intro t;refine⟨h.add f u g (λc k q=>by obtain⟨rfl,rfl⟩:=cd (aQ q);exact⟨r,((y7.1 j).1)⟩) ?_,(vO h f u g)⟩;exact⟨e,l,rfl,v,.inr ⟨blk,cap,cs,o,p,by simp[bU],j,s,n,y,z,A,C⟩⟩
def bM.LJ(h:bM B γ mem w){b e}{l:List e.den}{tid aU cap}(f:∀g,mem b=ab g->g.aU<aU){cs p r}(s:0<e.size)
  (t:wE B w w') (c:∀k,k<w.heap.size->w'.heap[k]?=w.heap[k]?) (j:w'.heap[w.heap.size]?=ab (.cells cs p r)) (n:ThB e cs r) (m:tid=0\/p=tid)
  (u:l.length<=cap) (v:cap<=maxLen) (y:cs.size=cap*e.size) (z:∀i x,l[i]?=ab x->bY w γ.I e x ((cs.toList.drop<|i*e.size).take e.size)) :
  let bx:Box:={ val:=.data (.slice e) l,tid,buf:=true,ro:=false,lk:=false,aU }
  bM B (bU γ b<|some (w.heap.size,cap)) (dt mem b bx) w'/\Ext B γ mem w (bU γ b<|some (w.heap.size,cap)) (dt mem b bx) w' :=
 h.adZ f s t c (cp _) j n m u v y λi x A =>
  bY.mono (λ_ _ q=>q) (λblk o q=>dM (c blk<|h.vz blk o q)) (z i x A)
def bM.LK(h:bM B γ mem w){b e tid aU}(c:∀f,mem b=ab f->f.aU<aU)(i:0<e.size) :
  let g:Box:={ val:=.data (.slice e) ([]),tid,buf:=true,ro:=false,lk:=false,aU }
  bM B (bU γ b ah) (dt mem b g) w/\Ext B γ mem w (bU γ b ah) (dt mem b g) w:=by
 intro g;refine⟨h.add c (wE.refl B w) (λ_ _=>rfl) (λj k e=>by cases e) ?_,(vO h c (wE.refl B w) λ_ _=>rfl)⟩;exact⟨e,[],rfl,i,.inl ⟨by simp[bU],rfl⟩⟩
def FM{c off}(h:W9 c off)(b:c.ro=false):False:=by rw[W9,b] at h;exact absurd h.1 bb
def bM.write(h:bM B γ mem w){b bx}(m:mem b=ab bx)(q:bx.ro=false){blk k}(r:γ.loc b=ab (blk,k)){cur cur' t y}
  (C:w.heap[blk]?=ab (.cells cur t y)) (J:cur'.size=cur.size) {v} (s:({ bx with val:=v }:Box).row=bx.row)
  (z:∀w' cT,Ext B γ mem w γ cT w'->w'.heap[blk]?=ab (.cells cur' t y)->fj γ cT w' b { bx with val:=v }) :
  bM B γ (dt mem b { bx with val:=v }) (w.setRow blk cur')/\Ext B γ mem w γ (dt mem b { bx with val:=v }) (w.setRow blk cur'):=by
 have g:=λi n=>setRow_other w blk i cur' (n);have hx:Ext B γ mem w γ (dt mem b { bx with val:=v }) (w.setRow blk cur') :=
  { below:=⟨rfl,rfl,rfl,bb,λi n=>g i λe=>n (by rw[e];exact(h.fresh b blk k (by rw[m];simp) r).1)⟩
    I:=λ_ _ x=>x
    rM:=λ_ _ x=>.inl x
    cells:=λc o x=>by
     by_cases e:c=blk
     .subst e;exact(FM (h.sep b bx c k o m r x) q).elim
     .exact dM (g c e)
    boxes:=λc cx j=>by
     by_cases e:c=b
     .subst e;obtain rfl:cx=bx:=aQ (j.symm.trans m);exact⟨_,bI _ _,cp _,λ_=>⟨rfl,rfl,s⟩⟩
     .exact⟨cx,by rw[bg _ e];exact j,cp _,λ_=>⟨rfl,rfl,rfl⟩⟩ }
 refine⟨?_,hx⟩;exact
  { dv:=h.FJ hx
    base:=by have:=h.base;simpa using this
    boxes:=λc cx j=>by
     by_cases e:c=b
     .subst e;rw[bI] at j;obtain rfl:=aQ j;exact z _ _ hx (setRow_heap w blk cur cur' t y C)
     .rw[bg _ e] at j;refine(h.boxes c cx j).keep hx rfl λf u A=>g f λD=>e ?_;subst D;exact h.inj c b f u k (by rw[j];simp) (by rw[m];simp) A r
    inj:=λc d f E F j G p H=>h.inj c d f E F (by
     by_cases e:c=b
     .subst e;rw[m];simp
     .rwa [bg _ e] at j) (by
     by_cases e:d=b
     .subst e;rw[m];simp
     .rwa [bg _ e] at G) p H
    fresh:=λc f u j p=>by
     have:=h.fresh c f u (by
      by_cases e:c=b
      .subst e;rw[m];simp
      .rwa [bg _ e] at j) p
     exact⟨this.1,by simpa using this.2⟩
    vz:=λf l n=>by have:=h.vz f l n;simpa using this
    sep:=λc cx f u l j p n=>by
     by_cases e:c=b
     .subst e;rw[r] at p;obtain⟨rfl,rfl⟩:=cd (aQ p);exact(FM (h.sep c bx blk k l m r n) q).elim
     .rw[bg _ e] at j;exact h.sep c cx f u l j p n }
def LL(f:Gh)(b:Nat)(n:Nat):Gh:={ f with I:=λc e=>f.I c e\/((∃k,f.loc b=ab (c,k))/\e<n) }
def bM.freeze(h:bM B γ mem w){b j}(l:mem b=ab j){e n}(r:j.row=ab (e,n)) :
  bM B (LL γ b<|n*e.size) (dt mem b { j with ro:=true }) w/\Ext B γ mem w (LL γ b<|n*e.size) (dt mem b { j with ro:=true }) w:=by
 have hx:Ext B γ mem w (LL γ b<|n*e.size) (dt mem b { j with ro:=true }) w :=
  { below:=wE.refl _ _
    I:=λ_ _ x=>.inl x
    rM:=λy o x=>by
     rcases x with x|⟨⟨k,x⟩,_⟩
     .exact .inl x
     .exact .inr (h.fresh b y k (by rw[l];simp) x).1
    cells:=λ_ _ _=>rfl
    boxes:=λc cx g=>by
     by_cases e:c=b
     .subst e;obtain rfl:cx=j:=aQ (g.symm.trans l);exact⟨_,bI _ _,cp _,λ_=>⟨rfl,rfl,rfl⟩⟩
     .exact⟨cx,by rw[bg _ e];exact g,cp _,λ_=>⟨rfl,rfl,rfl⟩⟩ }
 refine⟨?_,hx⟩;exact
  { dv:=h.FJ hx
    base:=h.base
    boxes:=λc cx g=>by
     by_cases e:c=b
     .subst e;rw[bI] at g;obtain rfl:=aQ g;have:=(h.boxes c j l).keep hx rfl (λ_ _ _=>rfl);exact this
     .rw[bg _ e] at g;exact(h.boxes c cx g).keep hx rfl (λ_ _ _=>rfl)
    inj:=λc d f C D g E q F=>h.inj c d f C D (by
     by_cases e:c=b
     .subst e;rw[l];simp
     .rwa [bg _ e] at g) (by
     by_cases e:d=b
     .subst e;rw[l];simp
     .rwa [bg _ e] at E) q F
    fresh:=λc f s g q=>h.fresh c f s (by
     by_cases e:c=b
     .subst e;rw[l];simp
     .rwa [bg _ e] at g) q
    vz:=λf p i=>by
     rcases i with i|⟨⟨k,v⟩,_⟩
     .exact h.vz f p i
     .exact(h.fresh b f k (by rw[l];simp) v).2
    sep:=λc cx f s p g q i=>by
     by_cases z:c=b
     .subst z;rw[bI] at g;obtain rfl:=aQ g;rcases i with i|⟨⟨k,v⟩,A⟩
      .obtain⟨J,G⟩:=h.sep c j f s p l q i;exact⟨rfl,G⟩
      .refine⟨rfl,λ_ u m H=>?_⟩;have t:j.row=ab (u,m):=H;rw[r] at t;obtain⟨rfl,rfl⟩:=cd (aQ t);exact A
     .rw[bg _ z] at g;rcases i with i|⟨⟨k,v⟩,A⟩
      .exact h.sep c cx f s p g q i
      .exact absurd (h.inj c b f s k (by rw[g];simp) (by rw[l];simp) q v) z }
end
end Go.Ge
namespace Go.Ge
open RowKit
def oM(P:Program)(B:BA)(N:Nat)(γ:Gh)(c:St)(a:Act)(w:World)(d:Option Nat)(s:Sem Value)(b:St):Prop :=
 ∃v w' bJ,s.run P w=.ok v w'/\dJ B N bJ b (a.put d v) w'/\Ext B γ c.mem w bJ b.mem w'
section
variable {P:Program} {B:BA} {N:Nat} {γ:Gh} {σ aY:St} {a:Act} {w:World} {d:Option Nat}
def bV(h:dJ B N γ σ a w)(b:∀k,d=ab k->k<N){s v x}(c:s.run P w=.ok x w)(e:cM γ σ.mem w v .val [x]) :
  oM P B N γ σ a w d s (σ.bD d v) :=
 ⟨x,w,γ,c,h.wN b e,by cases d<;>exact Ext.refl _ _ _ _⟩
def ev{β b val tid buf}{k:Nat->St->Tree β}{y}(h:(σ.bF b val tid buf k).run=ab y) :
  ∃aU,(∀c,σ.mem b=ab c->c.aU<aU)/\(k aU<|σ.cg b { val,tid,buf,ro:=false,lk:=false,aU }).run=ab y:=by
 unfold St.bF at h;split at h
 .rename_i bx f;cases e:bx.lk with
  | true=>rw[e] at h;cases h
  | false =>
    grind
 .grind
def wP(c:St) b e:(c.cg b e).mem=dt c.mem b e:=rfl
def gO{mem b aU bx}(h:mem b=ab bx)(e:bx.aU=aU){K}(c:K bx):nU mem b aU K :=
 ⟨bx,h,ai,λ_=>c⟩
def zj{cx}(m:fS P cx){nb bf ty x}(h:dJ B N γ σ a w)(c:∀k,d=ab k->k<N)
  (b:(km cx nb bf d ty (dw σ x) σ).run=ab aY):oM P B N γ σ a w d (pure<|a.eval x) aY:=by
 have hv:=h.dw x;unfold km at b;split at b
 .rename_i g;rw[g] at hv;obtain⟨_,b⟩:=aI b;obtain rfl:=aQ b;exact bV h c rfl hv
 .rename_i g;rw[g] at hv;have hx:a.eval x=.slice ah 0 0:=by simpa [cM] using hv
  split at b
  .rename_i k e n;cases j:dA bf k with
   | true =>
     rw[j] at b;simp at b;obtain⟨o,f,i⟩:=ev b;obtain rfl:=aQ i;obtain⟨p,r,s,t,q⟩:=(m.T _ _ n).slice;obtain⟨m1,l⟩:=h.ok.LK f q;refine⟨_,w,_,rfl,h.step l m1 (c k rfl) ?_,l⟩;rw[hx];exact⟨⟨_,rfl,rfl⟩,gO (bI _ _) rfl ⟨e,0,rfl,rfl,.inl ⟨by simp[bU],rfl⟩⟩⟩
   | false =>
     rw[j] at b;obtain rfl:=aQ b;exact bV h c rfl (by rw[hx];exact⟨_,.inl ⟨⟨ah,rfl⟩,rfl⟩,rfl⟩)
  .obtain rfl:=aQ b;exact bV h c rfl (by rw[hx];rfl)
 .obtain rfl:=aQ b;exact bV h c rfl hv
def z8{b:Bool}{v}(h:cM γ σ.mem w (.data .bool b) .val [v]):v=.bool b:=by
 obtain⟨c,e,f⟩:=eE.1 h;rw[f,show c=_ from e];rfl
def vb{k}{n:Int}{v}(h:cM γ σ.mem w (.data (.int k) n) .val [v]):v=.int k n/\k.min<=n/\n<=k.max:=by
 obtain⟨e,b,c⟩:=eE.1 h;rw[c,b.1];exact⟨rfl,b.2⟩
def yD{s:ay}{v}(h:cM γ σ.mem w (.data .str s) .val [v]):v=.string ⟨s.toArray⟩/\s.length<=maxLen:=by
 obtain⟨cs,b,c⟩:=eE.1 h;rw[c,b.1];exact⟨rfl,b.2⟩
def gZ(b:Bool):cM γ σ.mem w (.data .bool b) .val [.bool b]:=⟨_,rfl,rfl⟩
def mkInt{k:IntKind}{n}(h:k.min<=n/\n<=k.max):cM γ σ.mem w (.data (.int k) n) .val [.int k n]:=⟨_,⟨rfl,h.1,h.2⟩,rfl⟩
def mkStr{s:ay}(h:s.length<=maxLen):cM γ σ.mem w (.data .str s) .val [.string ⟨s.toArray⟩]:=⟨_,⟨rfl,h⟩,rfl⟩
def LM{c x y}(h:dJ B N γ σ a w)(j:∀k,d=ab k->k<N)(f:(pR d (dw σ c) (dw σ x) (dw σ y) σ).run=ab aY) :
  oM P B N γ σ a w d (do pure (if <-asBool (a.eval c) then a.eval x else a.eval y)) aY:=by
 have p:=h.dw c;have hx:=h.dw x;have hy:=h.dw y;unfold pR at f;split at f
 .rename_i i l;rw[l] at p;have b:(do pure (if <-asBool (a.eval c) then a.eval x else a.eval y):Sem Value).run P w=.ok (if(show Bool from i)=true then a.eval x else a.eval y) w:=by
   rw[(z8 p)];cases i<;>rfl
  split at f
  .rename_i t r u s m n;rw[m] at hx;rw[n] at hy;split at f
   .rename_i v o;obtain rfl:=aQ f;obtain⟨e,q⟩:=Ty.lX o;subst e;subst q;refine bV h j b ?_;cases i
    .exact hy
    .exact hx
   .cases f
  .have g:=gN f;cases i
   .obtain rfl:=aQ g;exact bV h j b hy
   .obtain rfl:=aQ g;exact bV h j b hx
 .cases f
def fT(k:IntKind) n:k.min<=k.wrap n/\k.wrap n<=k.max:=wrap_within k n
def agF{k:IntKind}{x y:Int}(h:k.min<=x/\x<=k.max):k.min<=x.tmod y/\x.tmod y<=k.max:=by
 have b:k.min<=0:=by cases k<;>decide
 have c:0<=k.max:=by cases k<;>decide
 have f:(x.tmod y).natAbs<=x.natAbs:=by
  rw[Int.natAbs_tmod];apply Nat.mod_le
 rcases Int.le_total 0 x with e|e
 .have:=Int.tmod_nonneg y e;omega
 .have:x.tmod y<=0:=by
   have:=Int.tmod_nonneg y (show 0<=-x by omega);simp_all
  omega
def agG{k:IntKind}{x} n (h:k.min<=x/\x<=k.max):k.min<=x.fdiv (2 ^ n)/\x.fdiv (2 ^ n)<=k.max:=by
 have f:k.min<=0:=by cases k<;>decide
 have g:0<=k.max:=by cases k<;>decide
 have b:(0:Int)<2 ^ n:=Int.pow_pos aK;have e:x.fdiv _=x / 2 ^ n:=Int.fdiv_eq_ediv_of_nonneg _ ai;rcases Int.le_total 0 x with c|c
 .have j:=Int.ediv_nonneg c (Int.le_of_lt b);have i:=Int.ediv_le_self (2 ^ n) c;omega
 .have i:x / 2 ^ n<1:=Int.ediv_lt_of_lt_mul b ai;have l:x<=x / 2 ^ n:=by
   rw[Int.le_ediv_iff_mul_le b];have:=Int.mul_le_mul_of_nonpos_left c b
   grind
  omega
def RB{op l}(h:Fx op=ab l):(op=.shl/\l=true)\/(op=.shr/\l=false):=by
 cases op<;>simp[Fx] at h<;>simp[h]
def s7{op l}(h:isEq op=ab l):(op=.eql/\l=true)\/(op=.neq/\l=false):=by
 cases op<;>simp[isEq] at h<;>simp[h]
def ir(b:BinOp)(c:TypeId)(x y:Operand)(u v:Value):Sem Value:=do eqGuard b c x y u v;binOp b c u v
def RC{op k n m v g x y}(h:k.min<=n/\n<=k.max)(f:Fx op=ah)(c:(W2 op k n m).run=ab v) :
  ∃r,(ir op g x y (.int k n)<|.int k m).run P w=.ok r w/\cM γ σ.mem w v .val [r]:=by
 unfold ir;cases op<;>simp only[eqGuard_at_int]<;>simp only[W2] at c
 case add=>obtain rfl:=aQ c;exact⟨.int k _,by simp only[binOp_add];rfl,mkInt (fT _ _)⟩
 case sub=>obtain rfl:=aQ c;exact⟨.int k _,by simp only[binOp_sub];rfl,mkInt (fT _ _)⟩
 case mul=>obtain rfl:=aQ c;exact⟨.int k _,by simp only[binOp_mul];rfl,mkInt (fT _ _)⟩
 case quo =>
  have b:=gN c;cases e:aS m 0
  .rw[e] at b;obtain rfl:=aQ b;exact⟨.int k _,by simp only[binOp_quo,Op.intDiv,aR (by simpa [aS] using e)];rfl,mkInt (fT _ _)⟩
  .rw[e] at b;cases b
 case rem =>
  have b:=gN c;cases e:aS m 0
  .rw[e] at b;obtain rfl:=aQ b;exact⟨.int k _,by simp only[binOp_rem,Op.intDiv,aR (by simpa [aS] using e)];rfl,mkInt (agF h)⟩
  .rw[e] at b;cases b
 case and=>obtain rfl:=aQ c;exact⟨.int k _,by simp only[binOp_and];rfl,mkInt (fT _ _)⟩
 case or=>obtain rfl:=aQ c;exact⟨.int k _,by simp only[binOp_or];rfl,mkInt (fT _ _)⟩
 case xor=>obtain rfl:=aQ c;exact⟨.int k _,by simp only[binOp_xor];rfl,mkInt (fT _ _)⟩
 case andNot=>obtain rfl:=aQ c;exact⟨.int k _,by simp only[binOp_andNot];rfl,mkInt (fT _ _)⟩
 case shl=>cases f
 case shr=>cases f
 case eql=>obtain rfl:=aQ c;exact⟨.bool _,by simp[binOp];rfl,gZ _⟩
 case neq=>obtain rfl:=aQ c;exact⟨.bool _,by simp[binOp,nt];rfl,gZ _⟩
 case lss=>obtain rfl:=aQ c;exact⟨.bool _,by simp[binOp,Op.intCmp,ba],gZ _⟩
 case leq=>obtain rfl:=aQ c;exact⟨.bool _,by simp[binOp,Op.intCmp,cu],gZ _⟩
 case gtr=>obtain rfl:=aQ c;exact⟨.bool _,by simp[binOp,Op.intCmp,ba],gZ _⟩
 case geq=>obtain rfl:=aQ c;exact⟨.bool _,by simp[binOp,Op.intCmp,cu],gZ _⟩
def jS s:(⟨s.toArray⟩:ByteArray).toList=s:=by rw[ByteArray.toList_eq]
def aaW s t:(s==t)=bH s t:=by rw[Rq];simp[bH]
def RD{op s t v f x y}(b:(W3 op s t).run=ab v) :
  ∃r,(ir op f x y (.string ⟨s.toArray⟩)<|.string ⟨t.toArray⟩).run P w=.ok r w/\cM γ σ.mem w v .val [r]:=by
 unfold ir;cases op<;>simp only[eqGuard_at_string,Sem.run_bind,Sem.run_pure,Result.andThen_ok]<;>simp only[W3] at b<;>try (cases b;done)
 case add =>
  obtain⟨g,c⟩:=cO b;obtain rfl:=aQ c;have i:s.length+t.length<=4294967296:=by have h:=iq g;simp only[plus,len] at h;omega
  refine⟨.string ⟨(s++t).toArray⟩,?_,mkStr (by simp only[app,jB,maxLen];omega)⟩;have e:∀l:ay,(⟨l.toArray⟩:ByteArray).size=l.length:=λl=>rfl;have:¬(((s.length+t.length:Nat):Int) > IntKind.i64.max):=by rw[IntKind.max_i64];omega
  simp only[binOp,Op.stringOp,e,this]
  congr 2
 case eql=>obtain rfl:=aQ b;exact⟨.bool _,by simp only[binOp,Op.stringOp,jS,aaW,Sem.run_pure],gZ _⟩
 case neq=>obtain rfl:=aQ b;exact⟨.bool<|nt _,by simp only[binOp,Op.stringOp,jS,aaW,Sem.run_pure];rfl,gZ _⟩
 case lss=>obtain rfl:=aQ b;exact⟨.bool _,by simp only[binOp,Op.stringOp,jS,aaW,Sem.run_pure];rfl,gZ _⟩
 case leq=>obtain rfl:=aQ b;exact⟨.bool _,by simp only[binOp,Op.stringOp,jS,aaW,Sem.run_pure];rfl,gZ _⟩
 case gtr=>obtain rfl:=aQ b;exact⟨.bool<|nt _,by simp only[binOp,Op.stringOp,jS,aaW,Sem.run_pure];rfl,gZ _⟩
 case geq=>obtain rfl:=aQ b;exact⟨.bool _,by simp only[binOp,Op.stringOp,jS];rfl,gZ _⟩
def Ui{op left k c n m e x y}(f:k.min<=n/\n<=k.max)(g:Fx op=ab left)(h:ba m 0=false) :
  ∃r,(ir op e x y (.int k n)<|.int c m).run P w=.ok r w/\cM γ σ.mem w (.data (.int k)<|bif left then nR k n m else mz k n m) .val [r]:=by
 have b:¬m<0:=by simpa [ba] using h
 unfold ir;rcases RB g with ⟨rfl,rfl⟩|⟨rfl,rfl⟩
 .exact⟨.int k _,by simp only[ binOp_shl,Op.shift,aR b];rfl,mkInt (fT _ _)⟩
 .exact⟨.int k _,by simp only[ binOp_shr,Op.shift,aR b];rfl,mkInt (agG _ f)⟩
def CX{t tid}(c:Den P t tid){cs off}(h:off+t.size<=cs.size)(f:t.isAgg=false->t.size=1) :
  (part tid cs off).run P w=.ok (cY t<|(cs.toList.drop off).take t.size) w:=by
 unfold part;rw[Sem.run_bind,c.agg w];cases b:t.isAgg with
 | true =>
   simp only[wJ,Sem.run_bind,c.sizeOf w,Result.andThen_ok,Sem.run_pure,cY,b]
   congr 2
   grind
 | false =>
   have i:=f b;simp only[ cY];have g:off<cs.size:=ai;have e:(cs.toList.drop off).take 1=[cs[off]]:=by
    apply Ld
    grind
   simp_all
def uC:∀{t:Ty},t.isAgg=false->t.size=1:=by
 intro t h;induction t with
 | alt u a r c b=>exact b h
 | arr|pair|unit=>cases h
 | _=>rfl
def DK{γ:Gh}{w:World}:∀(t:Ty),(∀(d:Nat) (tid:TypeId) (x y:t.den) (cx cy:List Value) (c:Bool),Den P t tid->bY w γ.I t x cx->bY w γ.I t y cy->Ty.eqv t x y=ab c->t.JM<d ->
   (Op.equalIn d tid (cY t cx)<|cY t cy).run P w=.ok c w) /\
  (∀(d off:Nat) (o:List Field) (x y:t.den) (cx cy:List Value) (l m:Array Value) (c:Bool),ry P t off o->bY w γ.I t x cx->bY w γ.I t y cy->Ty.eqv t x y=ab c->t.JM<d ->
   l.toList.drop off=cx->m.toList.drop off=cy->off<=l.size->off<=m.size->(Op.eqFields d l m o).run P w=.ok c w):=by
 intro t;induction t with
 | int k =>
   refine⟨λd tid x y cx cy c g s v j F=>?_,λd off o x y cx cy l m c g=>by simp[ry,e7] at g⟩;obtain⟨d,rfl⟩:∃e,d=e+1:=⟨d-1,ai⟩;rw[s.1,v.1];obtain rfl:=aQ j;show(Op.equalIn (d+1) tid (.int k x)<|.int k y).run P w=_
   rw[run_equalIn_int w d tid k k x y g.int]
   congr 1
 | bool =>
   refine⟨λd tid x y cx cy c g s v j F=>?_,λd off o x y cx cy l m c g=>by simp[ry,e7] at g⟩;obtain⟨d,rfl⟩:∃e,d=e+1:=⟨d-1,ai⟩;rw[show cx=_ from s,show cy=_ from v];obtain rfl:=aQ j;exact run_equalIn_bool' w d tid x y g.bool
 | str =>
   refine⟨λd tid x y cx cy c g s v j F=>?_,λd off o x y cx cy l m c g=>by simp[ry,e7] at g⟩;obtain⟨d,rfl⟩:∃e,d=e+1:=⟨d-1,ai⟩;rw[s.1,v.1];obtain rfl:=aQ j;have G:=run_equalIn_string w d tid ⟨List.toArray x⟩ ⟨List.toArray y⟩ g.str;rw[jS<|show ay from x,jS (show ay from y),aaW] at G;exact G
 | slice e ih=>exact⟨(λd tid x y cx cy c g s v j=>by cases j),(λd off o x y cx cy l m c g=>by simp[ry,e7] at g)⟩
 | alt u a r S ihr=>exact⟨(λd tid x y cx cy c g s v j=>by cases j),(λd off o x y cx cy l m c g=>by simp[ry,e7] at g)⟩
 | Bz=>exact⟨(λd tid x y cx cy c g s v j=>by cases j),(λd off o x y cx cy l m c g=>by simp[ry,e7] at g)⟩
 | arr n e ih =>
   refine⟨λd tid x y cx cy c g s v j F=>?_,(λd off o x y cx cy l m c g=>by simp[ry,e7] at g)⟩;cases e with
   | int k =>
     obtain⟨d,rfl⟩:∃e,d=e+1:=⟨d-1,ai⟩;obtain⟨d,rfl⟩:∃e,d=e+1:=⟨d-1,by have:(Ty.arr n<|.int k).JM=1+1:=rfl;omega⟩;obtain rfl:=aQ j;obtain⟨T,H,D,U⟩:=g.arr;obtain⟨i,z,i1,i2,_,_⟩:=D.info;have J:=D.cells;show(Op.equalIn _ tid (.agg cx.toArray)<|.agg cy.toArray).run P w=_
     rw[run_equalIn_array w _ cx.toArray cy.toArray H i1,J];obtain⟨V,hxc,A⟩:=s;obtain⟨W,hyc,C⟩:=v;have hz:(Ty.int k).size=1:=rfl;rw[hz] at hxc A hyc C⊢;change List Int at x y;have item:∀O,(∀i∈O,i<n)->(Op.eqItems (d+1) T 1 cx.toArray cy.toArray O).run P w=.ok (O.all λi=>decide (x[i]?=y[i]?)) w:=by
      intro O;induction O with
      | nil=>intro _;rfl
      | cons i O ihs =>
        intro hi;have K:=hi i (pI ..);obtain⟨a,hxi⟩:∃a,x[i]?=ab a:=⟨_,ik (by rw[show x.length=n from V];exact K)⟩;obtain⟨b,hyi⟩:∃a,y[i]?=ab a:=⟨_,ik (by rw[show y.length=n from W];exact K)⟩;have Q:=CX (w:=w) D (cs:=cx.toArray) (off:=i*1) jA (λ_=>hz);have R:=CX (w:=w) D (cs:=cy.toArray) (off:=i*1) jA (λ_=>hz);have ex:=(A i _ hxi).1;have ey:=(C i _ hyi).1;rw[hz] at Q R;rw[ ex] at Q;rw[ ey] at R;simp only[Op.eqItems,Sem.run_bind,Q,R,Result.andThen_ok];have L:=run_equalIn_int w d T k k a b D.int;simp only[cY,Ty.isAgg,Fu,List.headD_cons,L,Result.andThen_ok];cases hb:(a==b) with
        | true =>
          grind
        | false =>
          simp_all
     rw[item _ λi hi=>Ll.1 hi]
     congr 1
     unfold eqL;rw[Rq];simp only[ uv];constructor
     .intro h;apply Ld;intro i;by_cases K:i<n
      .grind
      .rw[Lb<|by rw[show x.length=n from V];omega,Lb (by rw[show y.length=n from W];omega)]
     .grind
   | _=>cases j
 | unit =>
   refine⟨(λd tid x y cx cy c g=>by simp[Den,e7] at g),λd off o x y cx cy l m c g s v j F G h2 h3 h4=>?_⟩;cases o with
   | nil=>obtain rfl:=aQ j;rfl
   | cons f r=>simp[ry,e7] at g
 | pair a b S ihb =>
   have key:(∀d off o (x y:(Ty.pair a b).den) cx cy l m c,ry P (.pair a b) off o->bY w γ.I _ x cx->bY w γ.I _ y cy->Ty.eqv _ x y=ab c->(Ty.pair a b).JM<d+1 ->
    l.toList.drop off=cx->m.toList.drop off=cy->off<=l.size->off<=m.size->(Op.eqFields d l m o).run P w=.ok c w):=by
    intro d off o x y cx cy l m c g s v j F G h2 h3 h4;obtain⟨f,r,rfl,H,D,U,k4,k5⟩:=g.cons;obtain⟨x1,x2,A,X,hx2⟩:=s;obtain⟨y1,y2,C,Y,hy2⟩:=v;simp only[Ty.eqv] at j;cases E:Ty.eqv a x.1 y.1 with
    | none=>rw[E] at j;cases j
    | some p =>
      cases M:Ty.eqv b x.2 y.2 with
      | none=>rw[E,M] at j;cases j
      | some q =>
        rw[E,M] at j;obtain rfl:=aQ j;have Z:=X.length;have hly:=Y.length;have lx:l.size-off=x1.length+x2.length:=by
         have:=congrArg List.length (G.trans A);simpa using this
        have ly:m.size-off=y1.length+y2.length:=by
         have:=congrArg List.length (h2.trans C);simpa using this
        have Q:=CX (w:=w) U (cs:=l) (off:=f.offset) ai uC;have R:=CX (w:=w) U (cs:=m) (off:=f.offset) ai uC;have ex:(l.toList.drop f.offset).take a.size=x1:=by rw[H,G,A,<-Z,T1]
        have ey:(m.toList.drop f.offset).take a.size=y1:=by rw[H,h2,C,<-hly,T1]
        rw[ex] at Q;rw[ey] at R;have hsz:(Ty.pair a b).JM=a.JM+b.JM+1:=rfl;have L:=S.1 d f.type x.1 y.1 x1 y1 p U X Y E ai;simp only[Op.eqFields,aX D,Sem.run_bind,Q,R,L,Result.andThen_ok];cases p with
        | false=>simp[an]
        | true =>
          simp;rw[ihb.2 d _ r x.2 y.2 x2 y2 l m q k5 hx2 hy2 M ai (by rw[<-yy,G,A,<-Z,JK]) (by rw[<-yy,h2,C,<-hly,JK]) ai ai];simp[an]
   refine⟨λd tid x y cx cy c g s v j F=>?_,λd off o x y cx cy l m c g s v j F=>key d off o x y cx cy l m c g s v j ai⟩;obtain⟨d,rfl⟩:∃e,d=e+1:=⟨d-1,ai⟩;obtain⟨o,H,D,U,k4⟩:=g.pair;have hf:P.fieldsOf tid=o:=by simp[Program.fieldsOf,H]
   show(Op.equalIn _ tid (.agg _)<|.agg _).run P w=_
   rw[run_equalIn_struct w d tid _ _ (by rw[hf];exact H) k4,hf];exact key d 0 o.toList x y cx cy _ _ c D s v j ai bb bb bb bb
end
end Go.Ge
namespace Go.Ge
open RowKit
section
variable {P:Program} {B:BA} {N:Nat} {γ:Gh} {σ aY:St} {a:Act} {w:World} {d:Option Nat} {cx:Ctx}
def LN b c {e x y} (f:P.underlying e=ab .bool) :
  (ir .eql e x y (.bool b)<|.bool c).run P w=.ok (.bool<|eqB b c) w/\(ir .neq e x y (.bool b)<|.bool c).run P w=.ok (.bool<|nt<|eqB b c) w:=by
 constructor<;>simp only[ir,eqGuard_at_bool,binOp,Op.equal,Op.maxDepth,Sem.run_bind,Sem.run_pure,Result.andThen_ok,(run_equalIn_bool' w 9999 e b c f)]<;>rfl
def Uj{c e}(f:P.underlying c=ab (.pointer e)) a b (h:a=ah\/b=ah) n :
  (Op.equalIn (n+1) c (.pointer a)<|.pointer b).run P w=.ok (a.isNone&&b.isNone) w:=by
 cases a with
 | none=>cases b<;>simp only[Op.equalIn,Sem.run_bind,run_underlying f,Result.andThen_ok]<;>rfl
 | some a=>cases b with
   | none=>simp only[Op.equalIn,Sem.run_bind,run_underlying f];rfl
   | some b=>simp at h
def yE{c e x y}(f:P.underlying c=ab (.pointer e)) a b (h:a=ah\/b=ah) :
  (ir .eql c x y (.pointer a)<|.pointer b).run P w=.ok (.bool<|a.isNone&&b.isNone) w/\(ir .neq c x y (.pointer a)<|.pointer b).run P w=.ok (.bool<|!(a.isNone&&b.isNone)) w:=by
 constructor<;>simp only[ir,eqGuard_at_pointer,binOp,Op.equal,Op.maxDepth,Sem.run_bind,Sem.run_pure,Result.andThen_ok,(Uj f a b h 9999)]
def aaY(I:fS P cx){op}{j:TypeId}{x y u v p q r}(E:cM γ σ.mem w p .val [u])(F:cM γ σ.mem w q .val [v])
  (o:(bin (find cx.T j) (dA cx.zc j) op p q).run=ab r):∃z,(ir op j x y u v).run P w=.ok z w/\cM γ σ.mem w r .val [z]:=by
 unfold bin at o;split at o
 ·
  obtain⟨rfl,J⟩:=vb E;obtain⟨rfl,V⟩:=vb F;split at o
  .rename_i left K;have f:=gN o;rename_i k n k' m _;cases L:ba m 0
   .rw[L] at f;obtain rfl:=aQ f;exact Ui J K L
   .rw[L] at f;cases f
  .rename_i K;obtain⟨s,f⟩:=aI o;have W:=zb s;subst W;exact RC J K f
 ·
  obtain⟨rfl,J⟩:=yD E;obtain⟨rfl,V⟩:=yD F;exact RD o
 ·
  rename_i b c;obtain rfl:=z8 E;obtain rfl:=z8 F;obtain⟨s,f⟩:=aI o;have A:=I.T _ _ (jI s);have e:=LN (w:=w) b c (x:=x) (y:=y) A.bool;split at f
  .rename_i t;obtain rfl:=aQ f;rcases s7 t with ⟨rfl,_⟩|⟨_,h⟩
   .exact⟨.bool _,e.1,gZ _⟩
   .cases h
  .rename_i t;obtain rfl:=aQ f;rcases s7 t with ⟨_,h⟩|⟨rfl,_⟩
   .cases h
   .exact⟨.bool _,e.2,gZ _⟩
  .cases f
 ·
  rename_i ta tb M X Y;obtain⟨s,f⟩:=aI o;simp only[gy] at s;have A:=I.T _ _ (jI s.1);split at f
  .rename_i Z e C t;obtain⟨O,Q⟩:=Ty.lX C;subst O;subst Q;split at f
   .rename_i c D;obtain rfl:=aQ f;obtain⟨g,R,rfl⟩:=eE.1 E;obtain⟨i,S,rfl⟩:=eE.1 F;have G:=(DK (P:=P) (γ:=γ) (w:=w) _).1 10000 j M _ g i c A R S D (by have:=JH s.2;omega);obtain⟨fs,j1,j2,j3,j4⟩:=A.pair;have H:∀op,(eqGuard op j x y (.agg g.toArray)<|.agg i.toArray).run P w=.ok () w:=λop=>run_eqGuard_agg w op j x y _ _ j3;rcases s7 t with ⟨rfl,rfl⟩|⟨rfl,rfl⟩
    .refine⟨.bool c,?_,gZ _⟩;show(ir .eql j x y (.agg _)<|.agg _).run P w=_
     simp only[ir,Sem.run_bind,H,Result.andThen_ok];have l:(Op.equalIn 10000 j (.agg g.toArray)<|.agg i.toArray).run P w=.ok c w:=G;rw[run_eql_struct,l];rfl
    .refine⟨.bool<|nt c,?_,gZ _⟩;show(ir .neq j x y (.agg _)<|.agg _).run P w=_
     simp only[ir,Sem.run_bind,H,Result.andThen_ok];have l:(Op.equalIn 10000 j (.agg g.toArray)<|.agg i.toArray).run P w=.ok c w:=G;rw[run_neq_struct,l];rfl
   .cases f
  .cases f
 ·
  rename_i nn ee M X Y;obtain⟨s,f⟩:=aI o;simp only[gy] at s;have A:=I.T _ _ (jI s.1);split at f
  .rename_i Z e C t;obtain⟨O,Q⟩:=Ty.lX C;subst O;subst Q;split at f
   .rename_i c D;obtain rfl:=aQ f;obtain⟨g,R,rfl⟩:=eE.1 E;obtain⟨i,S,rfl⟩:=eE.1 F;have G:=(DK _).1 10000 j M _ g i c A R S D (by have:=JH s.2;omega);have H:∀op,(eqGuard op j x y (.agg g.toArray)<|.agg i.toArray).run P w=.ok () w:=λop=>run_eqGuard_agg w op j x y _ _ A.aj9;rcases s7 t with ⟨rfl,rfl⟩|⟨rfl,rfl⟩
    .refine⟨.bool c,?_,gZ _⟩;show(ir .eql j x y (.agg _)<|.agg _).run P w=_
     simp only[ir,Sem.run_bind,H,Result.andThen_ok];have l:(Op.equalIn 10000 j (.agg g.toArray)<|.agg i.toArray).run P w=.ok c w:=G;rw[run_eql_struct,l];rfl
    .refine⟨.bool _,?_,gZ _⟩;show(ir .neq j x y (.agg _)<|.agg _).run P w=_
     simp only[ir,Sem.run_bind,H,Result.andThen_ok];have l:(Op.equalIn 10000 j (.agg g.toArray)<|.agg i.toArray).run P w=.ok c w:=G;rw[run_neq_struct,l];rfl
   .cases f
  .cases f
 ·
  obtain rfl:u=_:=by simpa [cM] using E
  obtain rfl:v=_:=by simpa [cM] using F
  split at o
  .rename_i e hp t;obtain rfl:=aQ o;obtain⟨el,U⟩:=I.zc _ hp;have q:=yE (w:=w) (x:=x) (y:=y) U ah ah (.inl rfl);rcases s7 t with ⟨rfl,rfl⟩|⟨rfl,rfl⟩
   .exact⟨_,q.1,gZ _⟩
   .exact⟨_,q.2,gZ _⟩
  .cases o
 .cases o
def ld{b aU}(h:live σ b aU=true):∃c,σ.mem b=ab c/\c.aU=aU:=by
 unfold live at h;split at h
 .rename_i c e;exact⟨c,e,iT h⟩
 .cases h
def bA{mem b aU bx}(e:mem b=ab bx)(f:bx.aU=aU){K}(h:nU mem b aU K):K bx:=by
 obtain⟨g,c,j,i⟩:=h;rw[e] at c;obtain rfl:=aQ c;exact i f
def Xb(m:fS P cx){op}{n:TypeId}{x y u v p q r}(o:cM γ σ.mem w p .val [u])(s:cM γ σ.mem w q .val [v])
  (l:(adL σ (find cx.T n) (dA cx.zc n) op p q).run=ab r):∃z,(ir op n x y u v).run P w=.ok z w/\cM γ σ.mem w r .val [z]:=by
 unfold adL at l;split at l
 .rename_i b t p;obtain⟨h,c⟩:=aI l;simp only[gy] at h;obtain⟨D,i,f⟩:=ld h.1;obtain⟨j,A,_,g⟩:=bA i f o.2;obtain rfl:u=_:=by simpa using g
  obtain rfl:v=_:=by simpa [cM] using s
  obtain⟨E,k⟩:=m.zc _ h.2;have q:=yE (P:=P) (w:=w) (x:=x) (y:=y) k (ab ⟨j,eC p,ah⟩) ah (.inr rfl);split at c
  .rename_i e C;obtain rfl:=aQ c;rcases s7 C with ⟨rfl,rfl⟩|⟨rfl,rfl⟩
   .exact⟨_,q.1,gZ _⟩
   .exact⟨_,q.2,gZ _⟩
  .cases c
 .rename_i b t p;obtain⟨h,c⟩:=aI l;simp at h;obtain⟨D,i,f⟩:=ld h.1;obtain⟨j,A,_,g⟩:=bA i f s.2;obtain rfl:v=_:=by simpa using g
  obtain rfl:u=_:=by simpa [cM] using o
  obtain⟨E,k⟩:=m.zc _ h.2;have q:=yE (w:=w) (x:=x) (y:=y) k ah (ab ⟨j,eC p,ah⟩) (.inl rfl);split at c
  .rename_i e C;obtain rfl:=aQ c;rcases s7 C with ⟨rfl,rfl⟩|⟨rfl,rfl⟩
   .exact⟨_,q.1,gZ _⟩
   .exact⟨_,q.2,gZ _⟩
  .cases c
 .exact aaY m o s l
def ad0{op u p r}(c:cM γ σ.mem w p .val [u])(b:(un op p).run=ab r):∃z,(Op.unary op u).run P w=.ok z w/\cM γ σ.mem w r .val [z]:=by
 unfold un at b;split at b
 .obtain rfl:=z8 c;obtain rfl:=aQ b;exact⟨_,rfl,gZ _⟩
 .obtain⟨rfl,e⟩:=vb c;obtain rfl:=aQ b;exact⟨_,rfl,mkInt (fT _ _)⟩
 .obtain⟨rfl,e⟩:=vb c;obtain rfl:=aQ b;rename_i k n;refine⟨_,?_,mkInt (fT _ _)⟩;cases f:k.signed<;>simp[Op.unary,Op.intBits,gM,f]
 .cases b
def ad1(K:bM B γ σ.mem w){b n}(L:σ.mem b=ab n){blk cap}(A:γ.loc b=ab (blk,cap)){p v}(j:(agA n.buf p n.val).run=ab v) :
  ∃c tid m,w.heap[blk]?=ab (.cells c tid m)/\nV c m/\eC p+ek v<=c.size/\cM γ σ.mem w v .cells ((c.toList.drop<|eC p).take<|ek v):=by
 have f:=K.boxes b n L;unfold fj at f;cases h:n.buf with
 | false =>
   rw[h] at f j;obtain⟨o,q,c,tid,m,y,H,g,r,C⟩:=f;rw[A] at y;obtain⟨rfl,rfl⟩:=cd (aQ y);obtain⟨I,z⟩:=xS C j;exact⟨c,tid,m,H,g,by simpa using I,z⟩
 | true =>
   rw[h] at f j;obtain⟨e,l,y,H,g⟩:=f;rw[y] at j;rcases g with ⟨g,_⟩|⟨o,q,c,tid,m,g,C,M,r,S,T,U,O⟩
   .rw[A] at g;cases g
   .rw[A] at g;obtain⟨rfl,rfl⟩:=cd (aQ g);cases p with
    | nil=>cases j
    | cons s p =>
      cases s with
      | gz k off=>cases j
      | idx i size =>
        obtain⟨D,E⟩:=aI j;have t:=iT D;obtain⟨x,Q,F⟩:=cm E;obtain⟨V,u⟩:=uA Q;have J:=O _ x u;have R:=J.length;have hi:=(hR.1 u).1;have G:(i.toNat+1)*e.size<=cap*e.size:=hS _ ai;rw[JL] at G;obtain⟨I,z⟩:=xS (v:=.data e x) J F;refine⟨c,tid,m,C,M.th,?_,?_⟩
        .simp only[eC,t];omega
        .rw[ZB,IL,yy,yx ai] at z;simp only[ t];exact z
def zk{t tid}(i:Den P t tid){blk off x cs}(g:bY w γ.I t x cs)(b:(loadCells ⟨blk,off,ah⟩ cs.length).run P w=.ok cs.toArray w)
  (e:∀j v,cs[j]?=ab v->w.cell? ⟨blk,off+j,ah⟩=ab v):(loadVar tid ⟨blk,off,ah⟩).run P w=.ok (cY t cs) w:=by
 unfold loadVar;rw[Sem.run_bind,i.agg w];have h:=g.length;cases f:t.isAgg with
 | true =>
   simp only[wJ,Sem.run_bind,i.sizeOf w,Result.andThen_ok,<-h,b,Sem.run_pure,cY,f,zS]
 | false =>
   rw[(uC f)] at h;obtain⟨c,rfl⟩:=Zm.1 h;have:=e 0 c rfl;simp at this;simp[cY,f,this]
def LO:∀{u v},ZH u v=true->ek v=u.size:=by
 intro u;induction u with
 | pair a b f e =>
   intro v h;cases v with
   | data t x=>obtain rfl:=Ty.eq_of_beq h;rfl
   | mix p q =>
     obtain⟨c,g⟩:=Bool.and_eq_true_iff.1 h;have i:ek p=a.size:=by
      unfold adO at c;split at c
      .rfl
      .obtain rfl:=Ty.eq_of_beq c;rfl
      .cases c
     show ek p+ek q=a.size+b.size
     rw[i,e g]
   | _=>cases h
 | _ =>
   intro v h;cases v with
   | data t x=>obtain rfl:=Ty.eq_of_beq h;rfl
   | _=>cases h
def aaZ{u v}(b:adO u v=true):ek v=u.size:=by
 unfold adO at b;split at b
 .rfl
 .obtain rfl:=Ty.eq_of_beq b;rfl
 .cases b
def Uk(q:fS P cx){ty x}(h:dJ B N γ σ a w)(r:(mA cx d ty (dw σ x) σ).run=ab aY) :
  ∃u m E,aY=σ.bD d u/\a.eval x=.pointer (ab E)/\(loadVar ty E).run P w=.ok m w/\cM γ σ.mem w u .val [m]:=by
 have hv:=h.dw x;unfold mA at r;split at r
 .rename_i u y L;rw[L] at hv;obtain⟨J,s⟩:=aI r;obtain rfl:=aQ s;have K:=q.T _ _ (jI J);obtain⟨F,off,cs,C,W,X⟩:=hv;obtain C:a.eval x=_:=by simpa using C
  have M:=zk K W (Hs X) (λj v D=>(X j v D).1);exact⟨_,_,_,rfl,C,M,cs,W,rfl⟩
 .rename_i b aU p L;rw[L] at hv;split at r
  .rename_i bx J;obtain⟨G,s⟩:=aI r;obtain⟨v,hn,O⟩:=bind_some s;obtain⟨g,Q⟩:=aI O;obtain rfl:=aQ Q;obtain⟨F,cap,M,l⟩:=bA J (iT G) hv.2;obtain l:a.eval x=_:=by simpa using l
   obtain⟨H,tid,fr,Y,g2,g3,t⟩:=ad1 h.ok J M hn;have z:=Dv (P:=P) Y g3;have A:=t.length;have i:∀j R,((H.toList.drop _).take<|ek v)[j]?=ab R->w.cell? ⟨F,eC p+j,ah⟩=ab R:=λj R D=>by
    rw[cell_of_heap Y];rw[jP] at D;split at D
    .simpa using D
    .cases D
   have single:∀(o:(isAgg ty).run P w=.ok false w) (C:ek v=1) (n:∀c,cM γ σ.mem w v .cells [c]->cM γ σ.mem w v .val [c]),
     ∃u m E,σ.bD d v=σ.bD d u/\a.eval x=.pointer (ab E)/\(loadVar ty E).run P w=.ok m w/\cM γ σ.mem w u .val [m]:=by
    intro o C n;rw[C] at A t i;obtain⟨c,S⟩:=Zm.1 A;rw[S] at t i;have:=i 0 c rfl;simp at this;refine⟨_,c,_,rfl,l,?_,n c t⟩;simp[loadVar,o,this]
   cases v with
   | mix Z q' =>
     simp only[CT] at g;split at g
     .rename_i u U;have K:=q.T _ _ U;have V:Ty.isAgg u=true:=by
       cases u with
       | pair a b=>rfl
       | _=>cases g
      refine⟨_,.agg ((H.toList.drop<|eC p).take<|ek<|.mix Z q').toArray,_,rfl,l,?_,?_⟩
      .rw[(LO g)] at z⊢;simp only[loadVar,Sem.run_bind,K.agg w,V,Result.andThen_ok,wJ,K.sizeOf w,z,Sem.run_pure]
      .obtain⟨c1,c2,e1,e2,e3⟩:=t;exact⟨c1,c2,by rw[e1],e2,e3⟩
     .cases g
   | data u y =>
     rw[show CT cx ty _=false from rfl,adB] at g;exact⟨_,_,_,rfl,l,(zk (q.T _ _<|jI g) t (by rw[A];exact z) i),_,t,rfl⟩
   | whole b' I =>
     simp only[zU] at g;split at g
     .rename_i e U;exact single (by have:=(q.T _ _ U).agg w;exact this) rfl (λc k=>k)
     .cases g
   | ptr b' I Z=>exact single ((q.rv _<|by simpa [CT,zU] using g).1 w) rfl (λc k=>k)
   | uy=>exact single ((q.rv _<|by simpa [CT,zU] using g).1 w) rfl (λc k=>k)
   | fn f aj1=>exact single ((q.rv _<|by simpa [CT,zU] using g).1 w) rfl (λc k=>k)
   | _=>cases g
  .cases r
 .cases r
def LP(b:fS P cx){ty x}(h:dJ B N γ σ a w)(c:∀k,d=ab k->k<N)(e:(mA cx d ty (dw σ x) σ).run=ab aY) :
  oM P B N γ σ a w d (Instr.loadAt ty<|a.eval x) aY:=by
 obtain⟨u,f,l,rfl,g,i,j⟩:=Uk b h e;refine bV h c ?_ j;rw[g];simp only[Instr.loadAt,Instr.sureAddr,Sem.run_bind,Sem.run_pure,Result.andThen_ok,i]
end
end Go.Ge
