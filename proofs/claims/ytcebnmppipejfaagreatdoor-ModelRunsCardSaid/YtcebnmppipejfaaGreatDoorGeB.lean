import Derived.Test.YtcebnmppipejfaaGreatDoorGeA
import Derived.Laws.StructEq
import Derived.ChangeKeysEq
set_option linter.unusedVariables false
set_option linter.unusedSimpArgs false
set_option linter.unusedSectionVars false
set_option linter.defProp false
open Option renaming some->aa,none->af
namespace Go.Ge
def gy:Ty->List Value|.int k=>[.int k 0]|.bool=>[.bool false]|.str=>[.string ⟨#[]⟩]|.slice _=>[.slice af 0 0]|.arr n e=>(List.replicate n<|gy e).flatten|.pair a b=>gy a++gy b|.unit=>[]|.alt _ _ r=>gy r|.DV=>[.nilIface]
def en t:(gy t).length=t.size:=by induction t with|arr n e h=>simp[gy,Ty.size,h]|pair a b c f=>simp[gy,Ty.size,c,f]|alt u a r c g=>exact g|_=>rfl
def fg{b:Type}(l:List b):∀n i,i<n->((List.replicate n l).flatten.drop<|i*l.length).take l.length=l|0,i,h=>absurd h ai|n+1,0,_=>by simp[List.replicate_succ]|n+1,i+1,h=>by rw[List.replicate_succ,ahK,Dq,adZ,<-Ap,Nc];exact fg l n i ai
def po w I:∀t,bZ w I t t.zero (gy t):=by intro t;induction t with|int k=>exact⟨rfl,by cases k<;>decide,by cases k<;>decide⟩|bool=>rfl|str=>exact⟨rfl,qh _⟩|slice e j=>exact .inl ⟨⟨af,rfl⟩,rfl⟩|arr n e j =>refine⟨adK,by rw[en];rfl,λi x l=>?_⟩;have c:(List.replicate n e.zero)[i]?=aa x:=l;rw[amZ] at c;split at c;{(rename_i m;obtain rfl:e.zero=x:=by simpa using c);have:=fg (gy e) n i m;rw[en] at this;show bZ w I e e.zero (((List.replicate n _).flatten.drop _).take e.size);grind};grind|pair a b f g=>exact⟨_,_,rfl,f,g⟩|unit=>rfl|alt u a r f h=>exact h|DV=>rfl
def VV:Value->Value->Bool|.int k n,.int c m=>Nat.beq (Dr k) (Dr c)&&decide (n=m)|.bool a,.bool b=>a==b|.string a,.string b=>decide (a.data.toList=b.data.toList)|.slice af 0 0,.slice af 0 0=>true|.pointer af,.pointer af=>true|.nilIface,.nilIface=>true|_,_=>false
def abx{a b}(h:VV a b=true):a=b:=by
 unfold VV at h;split at h
 .simp only[gC,zn] at h;rw[Be h.1,h.2]
 .simpa using h
 .rename_i a b;obtain⟨⟨a⟩⟩:=a;obtain⟨⟨b⟩⟩:=b;grind
 .rfl
 .rfl
 {rfl};cases h
def IQ:List Value->List Value->Bool|[],[]=>true|a::r,b::s=>VV a b&&IQ r s|_,_=>false
def Mf:∀{a b},IQ a b=true->a=b|[],[],_=>rfl|a::r,b::s,h=>by simp only[IQ,gC] at h;rw[abx h.1,Mf h.2]|[],_::_,h=>by cases h|_::_,[],h=>by cases h
def GJ(P:Program)(c:TypeId)(b:Nat)(e:List Value):Bool :=match P.info? c with|some i=>Nat.beq i.size b&&(match i.zero with|some z=>IQ z.cells.toList e|none=>false)|none=>false
def km{P tid size b}(h:GJ P tid size b=true) :
  ∃i z,P.info? tid=aa i/\i.size=size/\i.zero=aa z/\z.cells.toList=b:=by
 unfold GJ at h;split at h
 .rename_i i c;simp only[gC] at h;split at h;{rename_i z e;exact⟨i,z,c,iN h.1,e,Mf h.2⟩}
  .grind
 .cases h
def KJ(P:Program)(b:TypeId):Bool :=match P.info? b with|some i=>Nat.ble i.bytes 32768|none=>false
def Ty.aii:Ty->Bool|.alt _ _ r=>r.aii|.DV=>true|_=>false
def eM(P:Program):Ty->Bool->TypeId->Nat->List Field->Bool|.int k,false,tid,_,_=>(match P.underlying tid with|some (.int g)=>Nat.beq (Dr k) (Dr g)|_=>false)&&GJ P tid 1 [.int k 0]|.bool,false,tid,_,_=>(match P.underlying tid with|some .bool=>true|_=>false)&&GJ P tid 1 [.bool false]|.str,false,tid,_,_=>(match P.underlying tid with|some .string=>true|_=>false)&&GJ P tid 1 [.string ⟨#[]⟩]|.slice e,false,tid,_,_=>(match P.underlying tid with|some (.slice c)=>eM P e false c 0 []&&KJ P c&&Nat.blt 0 e.size|_=>false)&&GJ P tid 1 [.slice af 0 0]|.arr n e,false,tid,_,_=>(match P.underlying tid with|some (.array m c)=>Nat.beq n m&&eM P e false c 0 []&&Nat.blt 0 e.size|_=>false)&&GJ P tid (n*e.size) (gy<|.arr n e)&&!P.eqGuardType P.depth tid|.pair a b,false,tid,_,_=>(match P.underlying tid with|some (.struct h)=>(match h.toList with|f::r=>Nat.beq f.offset 0&&decide (f.name ≠ "_")&&eM P a false f.type 0 []&&Nat.blt 0 a.size&&eM P b true 0 a.size r|[]=>false)|_=>false)&&GJ P tid (a.size+b.size) (gy<|.pair a b)&&!P.eqGuardType P.depth tid&&!P.stoodInHeld tid|.unit,false,tid,_,_=>false|.alt u _ r,false,tid,_,_=>eM P r false tid 0 []&&P.concrete u&&r.aii|.DV,false,tid,_,_=>(match P.underlying tid with|some (.interface _)=>true|_=>false)&&GJ P tid 1 [.nilIface]|.pair a b,true,_,off,f::r=>Nat.beq f.offset off&&decide (f.name ≠ "_")&&eM P a false f.type 0 []&&Nat.blt 0 a.size&&eM P b true 0 (off+a.size) r|.unit,true,_,_,[]=>true|_,_,_,_,_=>false
def Den(P:Program)(t:Ty)(b:TypeId):Prop:=eM P t false b 0 []=true
def sM(P:Program)(t:Ty)(off:Nat)(b:List Field):Prop:=eM P t true 0 off b=true
section
variable {P:Program} {tid:TypeId}
def Den.int{k}(h:Den P (.int k) tid):P.underlying tid=aa (.int k):=by
 simp only[Den,eM,gC] at h;have b:=h.1;split at b
 {rename_i e c;rw[c,Be b]};cases b
def Den.bool(h:Den P .bool tid):P.underlying tid=aa .bool:=by simp only[Den,eM] at h;grind
def Den.str(h:Den P .str tid):P.underlying tid=aa .string:=by simp only[Den,eM] at h;grind
def Den.slice{e}(h:Den P (.slice e) tid):∃b,P.underlying tid=aa (.slice b)/\Den P e b/\KJ P b=true/\0<e.size:=by
 simp only[Den,eM,gC] at h;have c:=h.1;split at c
 {rename_i b f;simp at c;exact⟨b,f,c.1.1,c.1.2,by simpa using c.2⟩};cases c
def Den.arr{n e}(h:Den P (.arr n e) tid):∃b,P.underlying tid=aa (.array n b)/\Den P e b/\0<e.size:=by
 simp only[Den,eM,gC] at h;have c:=h.1.1;split at c
 {rename_i m b f;simp only[gC] at c;rw[iN c.1.1];exact⟨b,f,c.1.2,by simpa using c.2⟩};cases c
def Den.aoW{n e}(h:Den P (.arr n e) tid):P.eqGuardType P.depth tid=false:=by simp only[Den,eM] at h;grind
def Den.pair{a b}(h:Den P (.pair a b) tid):∃e,P.underlying tid=aa (.struct e)/\sM P (.pair a b) 0 e.toList/\P.eqGuardType P.depth tid=false/\P.stoodInHeld tid=false:=by
 simp only[Den,eM,gC] at h;obtain⟨⟨⟨c,l⟩,g⟩,i⟩:=h;split at c
 {rename_i e j;refine⟨e,j,?_,by simpa using g,by simpa using i⟩;split at c;{rename_i f r k;simp only[sM,k,eM,Gq];exact c};cases c};cases c
def Den.info{t}(h:Den P t tid):∃i z,P.info? tid=aa i/\i.size=t.size/\i.zero=aa z/\z.cells.toList=gy t:=by induction t with|int k=>simp only[Den,eM,gC] at h;exact km h.2|bool=>simp only[Den,eM,gC] at h;exact km h.2|str=>simp only[Den,eM,gC] at h;exact km h.2|slice e=>simp only[Den,eM,gC] at h;exact km h.2|arr n e=>simp only[Den,eM,gC] at h;exact km h.1.2|pair a b=>simp only[Den,eM,gC] at h;exact km h.1.1.2|unit=>simp[Den,eM] at h|alt u a r f c=>simp only[Den,eM,gC] at h;exact c h.1.1|DV=>simp only[Den,eM,gC] at h;exact km h.2
def Den.DV(h:Den P .DV tid):∃b,P.underlying tid=aa (.interface b):=by simp only[Den,eM] at h;grind
def Den.rest{u a r}(h:Den P (.alt u a r) tid):Den P r tid/\P.concrete u=true:=by simp only[Den,eM,gC] at h;exact h.1
def Ty.PE:∀{t:Ty},t.aii=true->t.size=1/\t.isAgg=false:=by intro t;induction t with|alt u a r c b=>intro h;exact b h|DV=>intro h;exact⟨rfl,rfl⟩|_=>intro h;cases h
def Den.aij{u a r}(_:Den P r tid)(h:Den P (.alt u a r) tid):r.size=1:=by simp only[Den,eM,gC] at h;exact(Ty.PE h.2).1
def Den.agg{t}(h:Den P t tid) w:(isAgg tid).run P w=.ok t.isAgg w:=by induction t with|alt u a r f g=>exact g h.rest.1|DV=>(obtain⟨_,c⟩:=h.DV;unfold Go.isAgg;simp[run_underlying c,Ty.isAgg])|int k=>unfold Go.isAgg;simp[run_underlying h.int,Ty.isAgg]|bool=>unfold Go.isAgg;simp[run_underlying h.bool,Ty.isAgg]|str=>unfold Go.isAgg;simp[run_underlying h.str,Ty.isAgg]|slice e i=>(unfold Go.isAgg;obtain⟨_,c,_⟩:=h.slice;simp[run_underlying c,Ty.isAgg])|arr n e i=>(unfold Go.isAgg;obtain⟨_,c,_⟩:=h.arr;simp[run_underlying c,Ty.isAgg])|pair a b f j=>(unfold Go.isAgg;obtain⟨_,c,_⟩:=h.pair;simp[run_underlying c,Ty.isAgg])|unit=>simp[Den,eM] at h
def Den.sizeOf{t}(h:Den P t tid) w:(Go.sizeOf tid).run P w=.ok t.size w:=by obtain⟨i,z,b,c,_⟩:=h.info;simp[Go.sizeOf,typeInfo,b,c]
def Den.zero{t}(h:Den P t tid) w:∃z,(zeroValue tid).run P w=.ok z w/\z.cells.toList=gy t:=by obtain⟨i,z,b,f,c,e⟩:=h.info;exact⟨z,by simp[zeroValue,typeInfo,b,c],e⟩
def Den.cells{t}(h:Den P t tid):P.cellsOf tid=t.size:=by obtain⟨i,z,b,c,_⟩:=h.info;simp[Program.cellsOf,b,c]
def sM.cons{a b off c}(h:sM P (.pair a b) off c) :
  ∃f r,c=f::r/\f.offset=off/\f.name ≠ "_"/\Den P a f.type/\0<a.size/\sM P b (off+a.size) r:=by
 cases c with|nil=>simp[sM,eM] at h|cons f r =>simp only[sM,eM,gC] at h;obtain⟨⟨⟨⟨e,g⟩,i⟩,j⟩,k⟩:=h;exact⟨f,r,rfl,iN e,by simpa using g,i,by simpa using j,k⟩
def sM.at{t}:∀{off e k u o},sM P t off e->zz t k=aa u->kj t k=aa o ->
  ∃f,e[k]?=aa f/\f.offset=off+o/\Den P u f.type/\0<u.size:=by
 induction t with|pair a b i j =>(intro off e k u o h g c;obtain⟨f,r,rfl,m,n,p,q,s⟩:=h.cons;cases k with|zero =>simp only[zz,kj] at g c;grind|succ k =>simp only[zz,kj] at g c;cases l:kj b k with|none=>rw[l] at c;cases c|some v =>grind)|_=>intro off e k u o h g c;cases k<;>simp[zz] at g
end
def Gr.cells:Gr->List Value|.dat t=>gy t|.buf _ _=>[.slice af 0 0]|_=>[.pointer af]
def PF:List Gr->List Value|[]=>[]|f::r=>f.cells++PF r
def am8:List Gr->Nat|[]=>0|f::r=>f.size+am8 r
def Ux(P:Program):Nat->List Gr->List Field->Bool|_,[],[]=>true|off,f::r,g::s=>Nat.beq g.offset off&&Nat.blt 0 f.size&&(match P.info? g.type with|some i=>Nat.beq i.size f.size|none=>false)&&Ux P (off+f.size) r s|_,_,_=>false
def PG(P:Program)(b:TypeId)(c:List Gr):Bool :=(match P.underlying b with|some (.struct gs)=>Ux P 0 c gs.toList|_=>false)&&GJ P b (am8 c) (PF c)
def afe{P tid b}(h:PG P tid b=true) w:∃z,(zeroValue tid).run P w=.ok z w/\z.cells.toList=PF b:=by simp only[PG,gC] at h;obtain⟨i,z,c,g,e,f⟩:=km h.2;exact⟨z,by simp[zeroValue,typeInfo,c,e],f⟩
def aik{P}:∀{b gs off k o},Ux P off b gs=true->Cd b k=aa o->∃f i,gs[k]?=aa f/\f.offset=off+o/\P.info? f.type=aa i/\0<i.size:=by intro b;induction b with|nil=>intro gs off k o h c;cases c|cons f r j =>intro gs off k o h c;cases gs with|nil=>cases h|cons g s =>simp only[Ux,gC] at h;obtain⟨⟨⟨l,m⟩,e⟩,n⟩:=h;cases k with|zero =>(obtain rfl:=aU c;split at e;{simp_all};cases e)|succ k =>simp only[Cd] at c;grind
def ak3{P tid c k o}(h:PG P tid c=true)(e:Cd c k=aa o):∃(gs:Array Field) (f:Field) (i:TypeInfo),P.underlying tid=aa (.struct gs)/\gs.toList[k]?=aa f/\f.offset=o/\P.info? f.type=aa i/\0<i.size:=by
 simp only[PG,gC] at h;obtain⟨b,_⟩:=h;split at b
 {rename_i gs g;obtain⟨f,i,j,l,m,n⟩:=aik b e;grind};cases b
def IU{P}:∀{b gs off},Ux P off b gs=true->∃c,gs.mapM (λf=>(P.info? f.type).map λi=>(f.offset,i.size))=aa c /\
  ∀k o f,Cd b k=aa o->b[k]?=aa f->c[k]?=aa (off+o,f.size):=by
 intro b;induction b with|nil =>(intro gs off h;cases gs with|nil=>exact⟨[],rfl,λk o f _ l=>by cases l⟩|cons g s=>cases h)|cons f r m =>intro gs off h;cases gs with|nil=>cases h|cons g s =>simp only[Ux,gC] at h;obtain⟨⟨⟨u,v⟩,e⟩,n⟩:=h;obtain⟨c,p,x⟩:=m n;split at e;{rename_i i t;refine⟨(g.offset,i.size)::c,by simp[t,p],λk o q j y=>?_⟩;cases k with|zero =>(obtain rfl:=aU j;simp_all)|succ k =>simp only[Cd] at j;grind};cases e
structure fM (P:Program) (cx:Ctx):Prop where
 T:∀tid t,find cx.T tid=aa t->Den P t tid
 sL:∀tid,du cx.sL tid=true->(∀w,(isAgg tid).run P w=.ok false w)/\(∀w,(Go.sizeOf tid).run P w=.ok 1 w)/\∃z,(∀w,(zeroValue tid).run P w=.ok z w)/\z.oneCell'=true
 Bf:∀tid,du cx.Bf tid=true->∃e,P.underlying tid=aa (.pointer e)
 fns:∀f fn,find cx.fns f=aa fn->P.funcs[f]?=aa fn
 uu:∀tid fs,find cx.uu tid=aa fs->PG P tid fs=true
 Yp:∀tid e,find cx.Yp tid=aa e->P.underlying tid=aa (.slice e)
def jB{o t}(h:KC o t=true):o=aa t:=by
 unfold KC at h;split at h
 {rw[Ty.eq_of_beq h]};cases h
def addr_add b o n:Addr.add ⟨b,o,af⟩ n=⟨b,o+n,af⟩:=by unfold Addr.add;split<;>simp_all
def bk(l:List Value)(b:Nat)(c:List Value):List Value:=l.take b++c++l.drop (b+c.length)
def bS{l c off}(h:off+c.length<=l.length):(bk l off c).length=l.length:=by simp[bk];omega
def oA.same{cur cur' b}(h:oA cur b)(c:cur'.size=cur.size):oA cur' b:=λo e=>h o ai
section
variable {P:Program}
def ThB.same{e cur cur' b}(h:ThB e cur b)(c:cur'.size=cur.size):ThB e cur' b:=⟨h.th.same c,λf=>by rw[c];exact h.um f⟩
def dn g o t f:∀l i b w,w.heap[g]?=aa (.cells b t f)->oA b f ->
  o+i+l.length<=b.size->(∀v∈l,v.oneCell'=true)->(storeCells ⟨g,o,af⟩ l i).run P w=.ok () (w.setRow g (bk b.toList (o+i) l).toArray)
 | [],i,b,w,h,_,_,_=>by simp only[storeCells,bk,zo,qp,IA,Ba,Array.toArray_toList];rw[setRow_self w g b t f h];rfl
 | v::rest,i,b,w,h,j,n,p=>by (have hi:o+i<b.size:=by simp at n;omega);(have c:w.cell? ⟨g,o+i,af⟩=aa b[o+i]:=by simp[World.cell?,h]);(have k:w.frozen? ⟨g,o+i,af⟩=false:=by have:=j _ hi;simp only[World.frozen?];grind);(have m:(store ((⟨g,o,af⟩:Addr).add i) v).run P w=.ok () (w.setRow g<|b.setIfInBounds (o+i) v):=by rw[addr_add,run_store P w _ v _ (p v aW),c];simp[k,setCell_eq_setRow w g _ b t f v h]);simp only[storeCells,Sem.run_bind,m,Result.andThen_ok,(dn g o t f rest (i+1) (b.setIfInBounds (o+i) v) _ (setRow_heap w g b _ t _ h) (j.same aW) (by simp at n⊢;omega) λx q=>p x (by simp[q])),setRow_setRow];congr 3;have e:=list_seg_step b.toList _ v rest ai;simpa [bk,Ht] using e
def cell_of_heap{w:World}{g cur t b}(c:w.heap[g]?=aa (.cells cur t b)) j:w.cell? ⟨g,j,af⟩=cur[j]?:=by simp[World.cell?,c]
def Gt{w g off n cur t c}(e:w.heap[g]?=aa (.cells cur t c))(h:off+n<=cur.size) :
  (loadCells ⟨g,off,af⟩ n).run P w=.ok ((cur.toList.drop off).take n).toArray w:=by
 have:=run_loadCells_list (P:=P) w ⟨g,off,af⟩ ((cur.toList.drop off).take n) (λj v b=>by rw[addr_add,cell_of_heap e];rw[kh] at b;split at b;{grind};cases b)
 grind
def KK{w I g off cs}(h:IM w I g off cs):(loadCells ⟨g,off,af⟩ cs.length).run P w=.ok cs.toArray w :=run_loadCells_list w ⟨g,off,af⟩ cs (λj v b=>by rw[addr_add];exact(h j v b).1)
end
def kn{a b:Nat}(h:a≠b):Nat.beq a b=false:=by
 cases c:Nat.beq a b
 {rfl};simp_all
def ail(a:Act) d t v (hd:d<a.tmps.size):(a.put (aa d) v).tmps.getD t undef=if t=d then v else a.tmps.getD t undef:=by simp only[Act.put,abo];grind
def Yx(a:Act)(d:Option Nat) v:(a.put d v).tmps.size=a.tmps.size:=by cases d<;>simp[Act.put]
def put_defers(a:Act)(d:Option Nat) v:(a.put d v).defers=a.defers:=by cases d<;>rfl
section
variable {B:DW} {N:Nat} {γ bM:Gh} {σ:St} {a:Act} {w w':World} {cS:Nat->Option Box}
def dz.step(h:dz B N γ σ a w)(b:Ext B γ σ.mem w bM cS w')(c:bP B bM cS w'){d}(f:d<N){v val}(g:cK bM cS w' v .val [val]) :
  dz B N bM ({ bw:=σ.bw,mem:=cS:St }.put d v) (a.put (aa d) val) w' where
 bw:=λt=>by
  rw[ail a d t val<|by rw[h.size];exact f];simp only[St.put];by_cases e:t=d;{simp_all};rw[aK e,kn e];exact(h.bw t).ext b
 size:=by rw[Yx];exact h.size
 defers:=by exact h.defers
 ok:=c
def dz.go(h:dz B N γ σ a w)(b:Ext B γ σ.mem w bM cS w')(c:bP B bM cS w'):dz B N bM { bw:=σ.bw,mem:=cS } a w' where
 bw:=λt=>(h.bw t).ext b
 size:=h.size
 defers:=h.defers
 ok:=c
def dz.bF(h:dz B N γ σ a w)(b:Ext B γ σ.mem w bM cS w')(c:bP B bM cS w'){d}(e:∀k,d=aa k->k<N){v val}(f:cK bM cS w' v .val [val]) :
  dz B N bM ({ bw:=σ.bw,mem:=cS:St }.bF d v) (a.put d val) w':=by
 cases d with|none=>exact h.go b c|some d=>exact h.step b c (e d rfl) f
def dz.yu(h:dz B N γ σ a w){d}(b:∀k,d=aa k->k<N){v val}(c:cK γ σ.mem w v .val [val]) : dz B N γ (σ.bF d v) (a.put d val) w:=h.bF (Ext.refl _ _ _ _) h.ok b c
end
def et{γ mem w t x v}:cK γ mem w (.data t x) .val [v]↔∃cs,bZ w γ.I t x cs/\v=cX t cs:=by simp only[cK,List.cons.injEq,and_true]
def aff γ mem w v:cK γ mem w (Ps v) .val [v]:=by
 unfold Ps;split
 .rename_i k n;cases c:(decide (k.min<=n)&&decide (n<=k.max));{exact⟨_,rfl⟩};simp at c;exact⟨[.int k n],⟨rfl,c.1,c.2⟩,rfl⟩
 .rename_i b;exact⟨[.bool b],rfl,rfl⟩
 .rename_i s;cases c:Nat.ble s.data.toList.length 4294967296;{exact⟨_,rfl⟩};refine⟨[.string s],⟨?_,?_⟩,rfl⟩;{grind};have:=M7 c;simp only[maxLen];omega
 .rfl
 .rfl
 {rfl};exact⟨_,rfl⟩
def dz.dm{B N γ σ a w}(h:dz B N γ σ a w) x:cK γ σ.mem w (dm σ x) .val [a.eval x]:=by cases x with|tmp t=>exact h.bw t|const v=>exact aff _ _ _ v|global g=>exact⟨_,rfl⟩|func f=>exact⟨#[],rfl,rfl,λi b c e=>by simp at e⟩
def cK.pq{γ mem w v x}(h:cK γ mem w v .val [x])(O:∀u,v≠.D0 u)(K:v=.undef->x.oneCell'=true):cK γ mem w v .cells x.cells.toList:=by
 cases v with
 | undef=>exact⟨x,by cases x<;>first|rfl|(have:=K rfl;simp[Value.oneCell'] at this),K rfl⟩
 | data t y=>obtain⟨L,g,i⟩:=et.1 h;subst i;rw[vb g];exact g
 | qq=>obtain rfl:x=_:=by simpa [cK] using h
       rfl
 | vM=>obtain rfl:x=_:=by simpa [cK] using h
       rfl
 | vN=>obtain rfl:x=_:=by simpa [cK] using h
       rfl
 | zy b aY=>obtain⟨⟨v,g,i⟩,o⟩:=h;simp at g;subst g;refine⟨⟨x,?_,i⟩,?_⟩
            .cases x<;>first|rfl|(simp[Value.oneCell'] at i)
            .obtain⟨s,z,A,C⟩:=o;exact⟨s,z,A,λe=>by obtain⟨m,j,D,l⟩:=C e;refine⟨m,j,D,?_⟩;rcases l with l|l;{simp at l;subst l;exact .inl rfl};simp at l;subst l;exact .inr rfl⟩
 | cell t y=>obtain⟨m,H,L,g,i,o⟩:=h;simp at g;subst g;exact⟨m,H,L,rfl,i,o⟩
 | ptr b aY p=>obtain⟨⟨v,g,i⟩,o⟩:=h;simp at g;subst g;refine⟨⟨x,?_,i⟩,?_⟩
               .cases x<;>first|rfl|(simp[Value.oneCell'] at i)
               .obtain⟨s,z,A,C⟩:=o;exact⟨s,z,A,λe=>by obtain⟨m,j,D,l⟩:=C e;simp at l;subst l;exact⟨m,j,D,rfl⟩⟩
 | whole b aY=>obtain⟨⟨v,g,i⟩,o⟩:=h;simp at g;subst g;refine⟨⟨x,?_,i⟩,?_⟩
               .cases x<;>first|rfl|(simp[Value.oneCell'] at i)
               .obtain⟨s,z,A,C⟩:=o;exact⟨s,z,A,λe=>by obtain⟨u,n,D,l,E⟩:=C e;refine⟨u,n,D,l,?_⟩;rcases E with ⟨E,F⟩|⟨m,j,E,F⟩;{simp at F;subst F;exact .inl ⟨E,rfl⟩};simp at F;subst F;exact .inr ⟨m,j,E,rfl⟩⟩
 | part b aY lo n=>obtain⟨⟨v,g,i⟩,o⟩:=h;simp at g;subst g;refine⟨⟨x,?_,i⟩,?_⟩
                   .cases x<;>first|rfl|(simp[Value.oneCell'] at i)
                   .obtain⟨s,z,A,C⟩:=o;exact⟨s,z,A,λe=>by obtain⟨u,k,D,l,E,F,r,j,G,I⟩:=C e;simp at G;subst G;exact⟨u,k,D,l,E,F,r,j,rfl,I⟩⟩
 | win b aY q e k lo n=>obtain⟨⟨v,g,i⟩,o⟩:=h;simp at g;subst g;refine⟨⟨x,?_,i⟩,?_⟩
                        .cases x<;>first|rfl|(simp[Value.oneCell'] at i)
                        .obtain⟨s,z,A,C⟩:=o;exact⟨s,z,A,λe=>by obtain⟨Q,u,c,D,l,E,F,r,j,G,I⟩:=C e;simp at G;subst G;exact⟨Q,u,c,D,l,E,F,r,j,rfl,I⟩⟩
 | fn f M=>obtain⟨J,g,i⟩:=h;simp at g;subst g;exact⟨J,rfl,i⟩
 | mix p q=>obtain⟨R,S,g,i,o⟩:=h;simp at g;subst g;exact⟨R,S,by simp[Value.cells],i,o⟩
 | D0 u=>exact absurd rfl (O u)
 | nl=>exact h.elim
def cK.length{γ mem w}:∀{v cs},cK γ mem w v .cells cs->cs.length=dX v:=by intro v;induction v with|data t x=>intro cs h;exact bZ.length h|mix a b c g=>(intro cs h;obtain⟨m,o,rfl,j,l⟩:=h;rw[gR,c j,g l];rfl)|undef=>(intro cs h;obtain⟨v,rfl,_⟩:=h;rfl)|qq=>intro cs h;rw[show cs=_ from h];rfl|vM=>intro cs h;rw[show cs=_ from h];rfl|vN=>intro cs h;rw[show cs=_ from h];rfl|zy b aY=>(intro cs h;obtain⟨⟨_,rfl,_⟩,_⟩:=h;rfl)|cell t x=>(intro cs h;obtain⟨_,_,_,rfl,_⟩:=h;rfl)|ptr b aY p=>(intro cs h;obtain⟨⟨_,rfl,_⟩,_⟩:=h;rfl)|whole b aY=>(intro cs h;obtain⟨⟨_,rfl,_⟩,_⟩:=h;rfl)|part b aY lo n=>(intro cs h;obtain⟨⟨_,rfl,_⟩,_⟩:=h;rfl)|win b aY q e k lo n=>(intro cs h;obtain⟨⟨_,rfl,_⟩,_⟩:=h;rfl)|fn f i=>(intro cs h;obtain⟨_,rfl,_⟩:=h;rfl)|D0 u r=>intro cs h;exact h.elim|nl=>intro cs h;exact h.elim
def cK.one{γ mem w}:∀{v cs},cK γ mem w v .cells cs->∀c∈cs,c.oneCell'=true:=by intro v;induction v with|data t x=>intro cs h;exact bZ.one h|mix a b l m =>(intro cs h c g;obtain⟨o,r,rfl,i,s⟩:=h;grind)|undef=>(intro cs h c g;obtain⟨v,rfl,i⟩:=h;simp at g;subst g;exact i)|qq=>intro cs h c g;rw[show cs=_ from h] at g;simp at g;subst g;rfl|vM=>intro cs h c g;rw[show cs=_ from h] at g;simp at g;subst g;rfl|vN=>intro cs h c g;rw[show cs=_ from h] at g;simp at g;subst g;rfl|zy b aY=>(intro cs h c g;obtain⟨⟨_,rfl,i⟩,_⟩:=h;simp at g;subst g;exact i)|cell t x=>(intro cs h c g;obtain⟨_,_,_,rfl,_⟩:=h;simp at g;subst g;rfl)|ptr b aY p=>(intro cs h c g;obtain⟨⟨_,rfl,i⟩,_⟩:=h;simp at g;subst g;exact i)|whole b aY=>(intro cs h c g;obtain⟨⟨_,rfl,i⟩,_⟩:=h;simp at g;subst g;exact i)|part b aY lo n=>(intro cs h c g;obtain⟨⟨_,rfl,i⟩,_⟩:=h;simp at g;subst g;exact i)|win b aY q e k lo n=>(intro cs h c g;obtain⟨⟨_,rfl,i⟩,_⟩:=h;simp at g;subst g;exact i)|fn f j=>(intro cs h c g;obtain⟨_,rfl,_⟩:=h;simp at g;subst g;rfl)|D0 u y=>intro cs h;exact h.elim|nl=>intro cs h;exact h.elim
def vO{α}{l:List α}{i x}(h:idx l i=aa x):0<=i/\l[i.toNat]?=aa x:=by unfold idx at h;grind
def Hw{w I}:∀{t x cs k o u},bZ w I t x cs->Aq t x k=aa (o,u) ->
  ∃(c:Ty) (y:c.den),u=.data c y/\zz t k=aa c/\kj t k=aa o/\o+c.size<=cs.length/\bZ w I c y ((cs.drop o).take c.size):=by
 intro t;induction t with|pair a b j g =>(intro x cs k o u h e;obtain⟨s,v,rfl,f,l⟩:=h;cases k with|zero =>(obtain⟨rfl,rfl⟩:=e;refine⟨a,x.1,rfl,rfl,rfl,by rw[gR,f.length];omega,?_⟩;rw[D6,<-f.length,Yi];exact f)|succ k =>simp only[Aq] at e;cases i:Aq b x.2 k with|none=>rw[i] at e;cases e|some r =>rw[i] at e;obtain⟨rfl,rfl⟩:=e;obtain⟨c,y,m,n,p,z,q⟩:=g l i;refine⟨c,y,m,n,by simp[kj,p],by rw[gR,f.length];omega,?_⟩;rw[<-f.length,<-Ap,Nc];exact q)|_=>intro x cs k o u h e;cases k<;>simp[Aq] at e
def KL{γ mem w}:∀{v cs k o u},cK γ mem w v .cells cs->xa v k=aa (o,u) ->
  o+dX u<=cs.length/\cK γ mem w u .cells ((cs.drop o).take<|dX u):=by
 intro v;induction v with|data t x =>(intro cs k o u h c;obtain⟨m,y,rfl,_,_,e,f⟩:=Hw h c;exact⟨e,f⟩)|mix a b j g =>(intro cs k o u h c;obtain⟨n,p,rfl,e,f⟩:=h;cases k with|zero =>(obtain⟨rfl,rfl⟩:=c;refine⟨by rw[gR,e.length];omega,?_⟩;rw[D6,<-e.length,Yi];exact e)|succ k =>simp only[xa] at c;cases i:xa b k with|none=>rw[i] at c;cases c|some r =>rw[i] at c;obtain⟨rfl,rfl⟩:=c;obtain⟨q,l⟩:=g f i;refine⟨by rw[gR,e.length];omega,?_⟩;rw[<-e.length,<-Ap,Nc];exact l)|_=>intro cs k o u h c;cases k<;>simp[xa] at c
def Oz{γ mem w t v z es}(h:toS t v=aa z)(b:cK γ mem w v .cells es):bZ w γ.I t z es:=by cases v with|data u y =>(obtain⟨e,c⟩:=Ty.lZ h;subst e;subst c;exact b)|_=>cases h
def bind_some{α β}{t:Tree α}{f:α->Tree β}{y}(h:(t.bind f).run=aa y):∃x,t.run=aa x/\(f x).run=aa y:=by rw[Tree.run_bind] at h;exact Gl.1 h
def ck{T α o}{k:T->Tree α}{y}(h:(Tree.look o k).run=aa y):∃x,o=aa x/\(k x).run=aa y:=by cases o with|none=>cases h|some x=>exact⟨x,rfl,h⟩
def cL{α c}{t:Tree α}{y}(h:(Tree.jw c t).run=aa y):c=true/\t.run=aa y:=by cases c with|false=>cases h|true=>exact⟨rfl,h⟩
def aD{α c}{t:Tree α}{y}(h:(bif c then t else .fail).run=aa y):c=true/\t.run=aa y:=by cases c with|false=>cases h|true=>exact⟨rfl,h⟩
def gH{α c}{t e:Tree α}{y}(h:(Tree.node c t e).run=aa y):(bif c then t else e).run=aa y:=by cases c<;>exact h
section
variable {γ:Gh} {mem:Nat->Option Box} {w:World}
def Yy:∀{t x cs k o u y f es},
  bZ w γ.I t x cs->Aq t x k=aa (o,u)->(∀v,(f u).run=aa v->cK γ mem w v .cells es)->(VN t x k f).run=aa y->es.length=dX u ->bZ w γ.I t y (bk cs o es):=by
 intro t;induction t with|pair a b A i =>(intro x cs k o u y f es h e n c j;obtain⟨p,q,rfl,l,s⟩:=h;cases k with|zero =>(obtain⟨rfl,rfl⟩:=e;obtain⟨v,m,c⟩:=bind_some c;cases hv:toS a v with|none=>rw[hv] at c;cases c|some z =>rw[hv] at c;obtain rfl:=aU c;simp only[dX] at j;refine⟨es,q,?_,Oz hv (n v m),s⟩;simp only[bk,ahU,Gn,Gq];rw[show es.length=p.length by rw[j,l.length],Nc])|succ k =>simp only[Aq] at e;cases g:Aq b x.2 k with|none=>rw[g] at e;cases e|some r =>rw[g] at e;obtain⟨rfl,rfl⟩:=e;obtain⟨z,C,c⟩:=bind_some c;obtain rfl:=aU c;have:=i s g n C j;refine⟨p,bk q r.1 es,?_,l,this⟩;simp only[bk,<-l.length,ahy,rO];rw[Ht,<-Ap,Nc])|_=>intro x cs k o u y f es h e;cases k<;>simp[Aq] at e
def PH:∀{j cs k o u c f es},
  cK γ mem w j .cells cs->xa j k=aa (o,u)->(∀v,(f u).run=aa v->cK γ mem w v .cells es)->(Pu j k f).run=aa c->es.length=dX u ->cK γ mem w c .cells (bk cs o es):=by
 intro j;induction j with|data t x =>(intro cs k o u c f es h e l g m;obtain⟨y,D,g⟩:=bind_some g;obtain rfl:=aU g;exact Yy h e l D m)|mix a b E n =>(intro cs k o u c f es h e l g m;obtain⟨s,A,rfl,p,C⟩:=h;cases k with|zero =>(obtain⟨rfl,rfl⟩:=e;obtain⟨v,q,g⟩:=bind_some g;obtain rfl:=aU g;refine⟨es,A,?_,(l v q),C⟩;simp only[bk,ahU,Gn,Gq];rw[show es.length=s.length by rw[m,p.length],Nc])|succ k =>simp only[xa] at e;cases i:xa b k with|none=>rw[i] at e;cases e|some r =>rw[i] at e;obtain⟨rfl,rfl⟩:=e;obtain⟨z,F,g⟩:=bind_some g;obtain rfl:=aU g;have:=n C i l F m;refine⟨s,bk A r.1 es,?_,p,this⟩;simp only[bk,<-p.length,ahy,rO];rw[Ht,<-Ap,Nc])|_=>intro cs k o u c f es h e;cases k<;>simp[xa] at e
def zD:∀{p v u cs},cK γ mem w v .cells cs->(nav p v).run=aa u->er p+dX u<=cs.length/\cK γ mem w u .cells ((cs.drop<|er p).take<|dX u):=by intro p;induction p with|nil =>(intro v u cs h b;obtain rfl:=aU b;have j:=h.length;refine⟨by simp[er];omega,?_⟩;rw[show er []=0 from rfl,D6,<-j,Ao];exact h)|cons s p t =>intro v u cs h b;cases s with|gE k off =>(simp only[nav] at b;cases m:xa v k with|none=>rw[m] at b;cases b|some r =>rw[m] at b;obtain⟨o,c⟩:=aD b;obtain⟨F,y⟩:=KL h m;obtain⟨A,f⟩:=t y c;have j:=y.length;simp only[er,<-(iN o)];refine⟨ai,?_⟩;rw[adW,GH,Ap,yo ai] at f;exact f)|idx i size =>simp only[nav] at b;split at b;{(rename_i n e l;obtain⟨o,c⟩:=aD b;obtain⟨x,C,q⟩:=ck c;obtain⟨G,g⟩:=vO C;obtain⟨H,I,D⟩:=h;have z:=D _ x g;obtain⟨A,f⟩:=t (v:=.data e x) z q;have j:=z.length;have hi:i.toNat<n:=by have:=(ga.1 g).1;omega);have E:_*e.size<=n*e.size:=hL _ hi;rw[Dq] at E;simp only[er,(iN o)];refine⟨ai,?_⟩;rw[adW,GH,Ap,yo ai] at f;exact f};cases b
def vd cs a b n es (h:b+es.length<=n) (g:a+n<=cs.length) :
  bk cs a (bk ((cs.drop a).take n) b es)=bk cs (a+b) es:=by
 have e:((cs.drop a).take n).length=n:=dW;have c:(bk ((cs.drop a).take n) b es).length=n:=by rw[bS ai,e]
 have f:bk cs a (bk ((cs.drop a).take n) b es)=cs.take a++bk ((cs.drop a).take n) b es++cs.drop (a+n):=by rw[bk,c]
 rw[f];simp only[bk,rO];rw[GH,yo ai,<-rO,<-List.take_add];have:cs.drop (a+n)=(cs.drop a).drop n:=by rw[Ap]
 rw[this,<-abn (by rw[e];exact h),Ba,Ap,Ht]
def PI{I e n}{l:List e.den}{cs es i y}(r:l.length=n)(s:n*e.size<=cs.length)
  (h:∀j x,l[j]?=aa x->bZ w I e x ((cs.drop<|j*e.size).take e.size)) (k:i<n) (m:bZ w I e y es) : ∀j x,(l.set i y)[j]?=aa x->bZ w I e x (((bk cs (i*e.size) es).drop<|j*e.size).take e.size):=by
 intro j x b;have o:=m.length;have t:_*e.size<=n*e.size:=hL _ k;rw[ahL] at b;split at b
 .rename_i c;split at b
  .obtain rfl:=aU b;have:((bk cs (i*e.size) es).drop<|i*e.size).take e.size=es:=by
    rw[bk];grind
   grind
  cases b
 .rename_i c;have p:j<n:=by have:=(ga.1 b).1;omega
  have f:_*e.size<=n*e.size:=hL _ p;rw[Dq] at f;have key:((bk cs (i*e.size) es).drop<|j*e.size).take e.size=(cs.drop<|j*e.size).take e.size:=by apply Pg;intro q;rw[kh,kh];split;{rename_i u;rw[xw,xw,bk];rcases xy j i with g|g;{have:_*e.size<=i*e.size:=hL _ g;grind};have:(i+1)*e.size<=j*e.size:=hL _ ai;grind};rfl
  grind
def Ci:∀{p v E u c cs es},cK γ mem w v .cells cs->(nav p v).run=aa E->(Ca p v u).run=aa c->cK γ mem w u .cells es->es.length=dX E ->
  cK γ mem w c .cells (bk cs (er p) es):=by
 intro p;induction p with|nil =>(intro v E u c cs es h b F H q;obtain rfl:=aU b;obtain rfl:=aU F;have:=h.length;simp only[er,bk];grind)|cons s p Q =>intro v E u c cs es h b F H q;cases s with|gE k off =>(simp only[nav] at b;cases G:xa v k with|none=>rw[G] at b;cases b|some r =>rw[G] at b;obtain⟨I,g⟩:=aD b;obtain⟨V,J⟩:=KL h G;obtain⟨t,W⟩:=zD J g;have m:=J.length;rw[m] at t;have:=PH (f:=λw=>Ca p w u) h G (λz K=>Q J g K H q) F (by rw[bS<|by rw[m,q];exact t,m]);rw[vd cs r.1 _ _ es ai V,(iN I)] at this;exact this)|idx i size =>simp only[nav] at b;split at b;{rename_i n e l;obtain⟨I,g⟩:=aD b;obtain⟨x,R,A⟩:=ck g;obtain⟨X,L,M⟩:=ck F;obtain rfl:x=X:=aU (R.symm.trans L);obtain⟨z,K,j⟩:=bind_some M;cases O:toS e z with|none=>rw[O] at j;cases j|some y =>(rw[O] at j;obtain rfl:=aU j;obtain⟨h0,C⟩:=vO R;obtain⟨S,Y,T⟩:=h;have U:=T _ x C;have hi:i.toNat<n:=by have:=(ga.1 C).1;omega);(have Z:_*e.size<=n*e.size:=hL _ hi;rw[Dq] at Z;have D:cK γ mem w (.data e x) .cells _:=U;obtain⟨t,W⟩:=zD D A;have o:=U.length;rw[o] at t;have hsl:(bk ((cs.drop<|i.toNat*e.size).take e.size) (er p) es).length=e.size:=by rw[bS<|by rw[o,q];exact t,o]);simp only[er,(iN I)];rw[<-(vd cs _ _ e.size es ai ai)];refine⟨(@List.length_set _ l _ _).trans S,?_,PI S ai T hi (Oz O<|Q D A K H q)⟩;rw[bS ai];exact Y};cases b
end
open RowKit
section
variable {B:DW} {γ bM:Gh} {mem cS:Nat->Option Box} {w w':World}
def e7.keep{c p}(h:e7 γ mem w c p)(q:Ext B γ mem w bM cS w')(r:bM.loc c=γ.loc c)
  (v:∀b k,γ.loc c=aa (b,k)->w'.heap[b]?=w.heap[b]?):e7 bM cS w' c p:=by
 unfold e7 at h⊢;cases g:p.buf with|true =>(rw[g] at h;obtain⟨e,l,y,z,f⟩:=h;refine⟨e,l,y,z,?_⟩;rcases f with ⟨f,n⟩|⟨b,j,m,tid,s,f,n,t,o,u,A,C,D⟩;{exact .inl ⟨r.trans f,n⟩};exact .inr ⟨b,j,m,tid,s,r.trans f,(v _ _ f).trans n,t,o,u,A,C,λi x E=>bZ.mono q.I q.cells (D i x E)⟩)|false =>rw[g] at h;obtain⟨b,j,m,tid,s,f,n,t,F,u⟩:=h;exact⟨b,j,m,tid,s,r.trans f,(v _ _ f).trans n,t,F,u.ext q⟩
def dC{a}(h:w'.heap[a.block]?=w.heap[a.block]?):w'.cell? a=w.cell? a:=by simp[World.cell?,h]
def bT(c:Gh)(b:Nat)(L:Option (Nat×Nat)):Gh:={ c with loc:=λi=>if i=b then L else c.loc i }
def dh(c:Nat->Option Box)(b:Nat)(bx:Box):Nat->Option Box:=λi=>bif Nat.beq i b then aa bx else c i
def bK b bx:dh mem b bx b=aa bx:=by simp[dh]
def bh{b c} e (h:c≠b):dh mem b e c=mem c:=by simp[dh,kn h]
def xA(h:bP B γ mem w){b bx L}(f:∀g,mem b=aa g->g.aY<bx.aY)
  (m:yh B w w') (i:∀k,k<w.heap.size->w'.heap[k]?=w.heap[k]?):Ext B γ mem w (bT γ b L) (dh mem b bx) w' where
 below:=m
 I:=λ_ _ x=>x
 s9:=λ_ _ x=>.inl x
 cells:=λj o x=>dC (i j<|h.xd j o x)
 boxes:=λc cx l=>by
  by_cases e:c=b
  .subst e;refine⟨bx,bK _ _,Nat.le_of_lt (f _ l),λe=>absurd e ?_⟩;have:=f _ l;omega
  .exact⟨cx,by rw[bh _ e];exact l,b8 _,λ_=>⟨by simp[bT,e],rfl,rfl⟩⟩
def bP.add(h:bP B γ mem w){b bx L}(m:∀p,mem b=aa p->p.aY<bx.aY)
  (q:yh B w w') (j:∀k,k<w.heap.size->w'.heap[k]?=w.heap[k]?) (r:∀f k,L=aa (f,k)->w.heap.size<=f/\f<w'.heap.size) (u:e7 (bT γ b L) (dh mem b bx) w' b bx):bP B (bT γ b L) (dh mem b bx) w' where
 dk:=h.IP (xA (L:=L) h m q j)
 base:=gS h.base q.size
 boxes:=λc cx g=>by by_cases e:c=b;{subst e;rw[bK] at g;obtain rfl:=aU g;exact u};rw[bh _ e] at g;refine(h.boxes c cx g).keep (xA h m q j) (by simp[bT,e]) λf k x=>j f (h.fresh c f k (by rw[g];simp) x).2
 inj:=λc d f k v g s i n=>by by_cases e:c=b;{by_cases o:d=b;{rw[e,o]};exfalso;simp only[bT,aN e] at i;simp only[bT,aK o] at n;rw[bh _ o] at s;have:=(h.fresh d f v s n).2;have:=(r _ _ i).1;omega};by_cases o:d=b;{exfalso;simp only[bT,aK e] at i;simp only[bT,aN o] at n;rw[bh _ e] at g;have:=(h.fresh c f k g i).2;have:=(r _ _ n).1;omega};simp only[bT,aK e] at i;simp only[bT,aK o] at n;rw[bh _ e] at g;rw[bh _ o] at s;exact h.inj c d f k v g s i n
 fresh:=λc f k g i=>by
  by_cases e:c=b
  .simp only[bT,aN e] at i;obtain⟨n,y⟩:=r _ _ i;exact⟨.inl (by have:=h.base;omega),y⟩
  .simp only[bT,aK e] at i;rw[bh _ e] at g;have:=h.fresh c f k g i;exact⟨this.1,Hq this.2 q.size⟩
 xd:=λf l t=>Hq (h.xd f l t) q.size
 sep:=λc cx f k l g i t=>by
  by_cases e:c=b
  .exfalso;simp only[bT,aN e] at i;have:=(r _ _ i).1;have:=h.xd f l t;omega
  .simp only[bT,aK e] at i;rw[bh _ e] at g;exact h.sep c cx f k l g i t
def cZ(w:World) o:∀k,k<w.heap.size->(w.alloc o).heap[k]?=w.heap[k]?:=λk b=>Below.heap_alloc w o k b
def vP cs:oA cs (0,0):=λo _ h=>ai
def yv e cs:ThB e cs (0,0):=⟨vP cs,λ_ h=>ai⟩
def bP.newVar(h:bP B γ mem w){b v tid aY}(c:∀f,mem b=aa f->f.aY<aY){cs} g (i:tid=0\/g=tid) (hv:cK γ mem w v .cells cs.toList) :
  let bx:Box:={ val:=v,tid,buf:=false,ro:=false,lk:=false,aY }
  bP B (bT γ b<|some (w.heap.size,0)) (dh mem b bx) (w.alloc<|.cells cs g)/\Ext B γ mem w (bT γ b<|some (w.heap.size,0)) (dh mem b bx) (w.alloc<|.cells cs g):=by
 intro bx;have j:yh B w (w.alloc<|.cells cs g):=(yh.refl _ _).alloc h.base _;have hx:=xA (L:=aa (w.heap.size,0)) h (bx:=bx) c j (cZ w _);refine⟨h.add c j (cZ w _) (λl k e=>by obtain⟨rfl,rfl⟩:=b9 (aU e);exact⟨b8 _,aW⟩) ?_,hx⟩;exact⟨w.heap.size,0,cs,g,_,by simp[bT],heap_alloc_new w _,vP cs,i,hv.ext hx⟩
def bP.aim(h:bP B γ mem w){b e}{l:List e.den}{tid aY cap blk}(f:∀m,mem b=aa m->m.aY<aY){cs o p}(v:0<e.size)
  (u:yh B w w') (g:∀k,k<w.heap.size->w'.heap[k]?=w.heap[k]?) (r:w.heap.size<=blk) (j:w'.heap[blk]?=aa (.cells cs o p)) (s:ThB e cs p) (n:tid=0\/o=tid) (y:l.length<=cap) (z:cap<=maxLen) (A:cs.size=cap*e.size) (C:∀i x,l[i]?=aa x->bZ w' γ.I e x ((cs.toList.drop<|i*e.size).take e.size)) : let t:Box:={ val:=.data (.slice e) l,tid,buf:=true,ro:=false,lk:=false,aY }
  bP B (bT γ b<|some (blk,cap)) (dh mem b t) w'/\Ext B γ mem w (bT γ b<|some (blk,cap)) (dh mem b t) w':=by
 intro t;refine⟨h.add f u g (λc k q=>by obtain⟨rfl,rfl⟩:=b9 (aU q);exact⟨r,((A9.1 j).1)⟩) ?_,(xA h f u g)⟩;exact⟨e,l,rfl,v,.inr ⟨blk,cap,cs,o,p,by simp[bT],j,s,n,y,z,A,C⟩⟩
def bP.PJ(h:bP B γ mem w){b e}{l:List e.den}{tid aY cap}(f:∀g,mem b=aa g->g.aY<aY){cs p r}(s:0<e.size)
  (t:yh B w w') (c:∀k,k<w.heap.size->w'.heap[k]?=w.heap[k]?) (j:w'.heap[w.heap.size]?=aa (.cells cs p r)) (n:ThB e cs r) (m:tid=0\/p=tid) (u:l.length<=cap) (v:cap<=maxLen) (y:cs.size=cap*e.size) (z:∀i x,l[i]?=aa x->bZ w γ.I e x ((cs.toList.drop<|i*e.size).take e.size)) : let bx:Box:={ val:=.data (.slice e) l,tid,buf:=true,ro:=false,lk:=false,aY }
  bP B (bT γ b<|some (w.heap.size,cap)) (dh mem b bx) w'/\Ext B γ mem w (bT γ b<|some (w.heap.size,cap)) (dh mem b bx) w' :=h.aim f s t c (b8 _) j n m u v y λi x A =>bZ.mono (λ_ _ q=>q) (λblk o q=>dC (c blk<|h.xd blk o q)) (z i x A)
def bP.PK(h:bP B γ mem w){b e tid aY}(c:∀f,mem b=aa f->f.aY<aY)(i:0<e.size) :
  let g:Box:={ val:=.data (.slice e) ([]),tid,buf:=true,ro:=false,lk:=false,aY }
  bP B (bT γ b af) (dh mem b g) w/\Ext B γ mem w (bT γ b af) (dh mem b g) w:=by
 intro g;refine⟨h.add c (yh.refl B w) (λ_ _=>rfl) (λj k e=>by cases e) ?_,(xA h c (yh.refl B w) λ_ _=>rfl)⟩;exact⟨e,[],rfl,i,.inl ⟨by simp[bT],rfl⟩⟩
def IV{c off}(h:abw c off)(b:c.ro=false):False:=by rw[abw,b] at h;exact absurd h.1 aW
def bP.write(h:bP B γ mem w){b bx}(m:mem b=aa bx)(q:bx.ro=false){blk k}(r:γ.loc b=aa (blk,k)){cur cur' t y}
  (C:w.heap[blk]?=aa (.cells cur t y)) (J:cur'.size=cur.size) {v} (s:({ bx with val:=v }:Box).row=bx.row) (z:∀w' cS,Ext B γ mem w γ cS w'->w'.heap[blk]?=aa (.cells cur' t y)->e7 γ cS w' b { bx with val:=v }) : bP B γ (dh mem b { bx with val:=v }) (w.setRow blk cur')/\Ext B γ mem w γ (dh mem b { bx with val:=v }) (w.setRow blk cur'):=by
 have g:=λi n=>setRow_other w blk i cur' (n);have hx:Ext B γ mem w γ (dh mem b { bx with val:=v }) (w.setRow blk cur') :=
  { below:=⟨rfl,rfl,rfl,aW,λi n=>g i λe=>n (by rw[e];exact(h.fresh b blk k (by rw[m];simp) r).1)⟩
    I:=λ_ _ x=>x
    s9:=λ_ _ x=>.inl x
    cells:=λc o x=>by
     by_cases e:c=blk
     .subst e;exact(IV (h.sep b bx c k o m r x) q).elim
     .exact dC (g c e)
    boxes:=λc cx j=>by
     by_cases e:c=b
     .subst e;obtain rfl:cx=bx:=aU (j.symm.trans m);exact⟨_,bK _ _,b8 _,λ_=>⟨rfl,rfl,s⟩⟩
     .exact⟨cx,by rw[bh _ e];exact j,b8 _,λ_=>⟨rfl,rfl,rfl⟩⟩ }
 refine⟨?_,hx⟩;exact
  { dk:=h.IP hx
    base:=by have:=h.base;simpa using this
    boxes:=λc cx j=>by
     by_cases e:c=b
     .subst e;rw[bK] at j;obtain rfl:=aU j;exact z _ _ hx (setRow_heap w blk cur cur' t y C)
     .rw[bh _ e] at j;refine(h.boxes c cx j).keep hx rfl λf u A=>g f λD=>e ?_;subst D;exact h.inj c b f u k (by rw[j];simp) (by rw[m];simp) A r
    inj:=λc d f E F j G p H=>h.inj c d f E F (by
     by_cases e:c=b
     .subst e;rw[m];simp
     .rwa [bh _ e] at j) (by
     by_cases e:d=b
     .subst e;rw[m];simp
     .rwa [bh _ e] at G) p H
    fresh:=λc f u j p=>by
     have:=h.fresh c f u (by
      by_cases e:c=b
      .subst e;rw[m];simp
      .rwa [bh _ e] at j) p
     exact⟨this.1,by simpa using this.2⟩
    xd:=λf l n=>by have:=h.xd f l n;simpa using this
    sep:=λc cx f u l j p n=>by
     by_cases e:c=b
     .subst e;rw[r] at p;obtain⟨rfl,rfl⟩:=b9 (aU p);exact(IV (h.sep c bx blk k l m r n) q).elim
     .rw[bh _ e] at j;exact h.sep c cx f u l j p n }
def PL(f:Gh)(b:Nat)(n:Nat):Gh:={ f with I:=λc e=>f.I c e\/((∃k,f.loc b=aa (c,k))/\e<n) }
def bP.freeze(h:bP B γ mem w){b j}(l:mem b=aa j){e n}(r:j.row=aa (e,n)) :
  bP B (PL γ b<|n*e.size) (dh mem b { j with ro:=true }) w/\Ext B γ mem w (PL γ b<|n*e.size) (dh mem b { j with ro:=true }) w:=by
 have hx:Ext B γ mem w (PL γ b<|n*e.size) (dh mem b { j with ro:=true }) w :=
  { below:=yh.refl _ _
    I:=λ_ _ x=>.inl x
    s9:=λy o x=>by
     rcases x with x|⟨⟨k,x⟩,_⟩
     .exact .inl x
     .exact .inr (h.fresh b y k (by rw[l];simp) x).1
    cells:=λ_ _ _=>rfl
    boxes:=λc cx g=>by
     by_cases e:c=b
     .subst e;obtain rfl:cx=j:=aU (g.symm.trans l);exact⟨_,bK _ _,b8 _,λ_=>⟨rfl,rfl,rfl⟩⟩
     .exact⟨cx,by rw[bh _ e];exact g,b8 _,λ_=>⟨rfl,rfl,rfl⟩⟩ }
 refine⟨?_,hx⟩;exact
  { dk:=h.IP hx
    base:=h.base
    boxes:=λc cx g=>by
     by_cases e:c=b
     .subst e;rw[bK] at g;obtain rfl:=aU g;have:=(h.boxes c j l).keep hx rfl (λ_ _ _=>rfl);exact this
     .rw[bh _ e] at g;exact(h.boxes c cx g).keep hx rfl (λ_ _ _=>rfl)
    inj:=λc d f C D g E q F=>h.inj c d f C D (by
     by_cases e:c=b
     .subst e;rw[l];simp
     .rwa [bh _ e] at g) (by
     by_cases e:d=b
     .subst e;rw[l];simp
     .rwa [bh _ e] at E) q F
    fresh:=λc f s g q=>h.fresh c f s (by
     by_cases e:c=b
     .subst e;rw[l];simp
     .rwa [bh _ e] at g) q
    xd:=λf p i=>by
     rcases i with i|⟨⟨k,v⟩,_⟩
     .exact h.xd f p i
     .exact(h.fresh b f k (by rw[l];simp) v).2
    sep:=λc cx f s p g q i=>by
     by_cases z:c=b
     .subst z;rw[bK] at g;obtain rfl:=aU g;rcases i with i|⟨⟨k,v⟩,A⟩
      .obtain⟨J,G⟩:=h.sep c j f s p l q i;exact⟨rfl,G⟩
      .refine⟨rfl,λ_ u m H=>?_⟩;have t:j.row=aa (u,m):=H;rw[r] at t;obtain⟨rfl,rfl⟩:=b9 (aU t);exact A
     .rw[bh _ z] at g;rcases i with i|⟨⟨k,v⟩,A⟩
      .exact h.sep c cx f s p g q i
      .exact absurd (h.inj c b f s k (by rw[g];simp) (by rw[l];simp) q v) z }
end
end Go.Ge
namespace Go.Ge
open RowKit
def pr(P:Program)(B:DW)(N:Nat)(γ:Gh)(c:St)(a:Act)(w:World)(d:Option Nat)(s:Sem Value)(b:St):Prop :=∃v w' bM,s.run P w=.ok v w'/\dz B N bM b (a.put d v) w'/\Ext B γ c.mem w bM b.mem w'
section
variable {P:Program} {B:DW} {N:Nat} {γ:Gh} {σ bb:St} {a:Act} {w:World} {d:Option Nat}
def bU(h:dz B N γ σ a w)(b:∀k,d=aa k->k<N){s v x}(c:s.run P w=.ok x w)(e:cK γ σ.mem w v .val [x]) :  pr P B N γ σ a w d s (σ.bF d v) :=⟨x,w,γ,c,h.yu b e,by cases d<;>exact Ext.refl _ _ _ _⟩
def ef{β b val tid buf}{k:Nat->St->Tree β}{y}(h:(σ.bH b val tid buf k).run=aa y) :
  ∃aY,(∀c,σ.mem b=aa c->c.aY<aY)/\(k aY<|σ.cd b { val,tid,buf,ro:=false,lk:=false,aY }).run=aa y:=by
 unfold St.bH at h;split at h
 .rename_i bx f;cases e:bx.lk with|true=>rw[e] at h;cases h|false =>grind
 .grind
def yw(c:St) b e:(c.cd b e).mem=dh c.mem b e:=rfl
def gI{mem b aY bx}(h:mem b=aa bx)(e:bx.aY=aY){K}(c:K bx):oz mem b aY K :=⟨bx,h,ai,λ_=>c⟩
def Bl{cx}(m:fM P cx){nb bf ty x}(h:dz B N γ σ a w)(c:∀k,d=aa k->k<N)
  (b:(kk cx nb bf d ty (dm σ x) σ).run=aa bb):pr P B N γ σ a w d (pure<|a.eval x) bb:=by
 have hv:=h.dm x;unfold kk at b;split at b
 .rename_i g;rw[g] at hv;obtain⟨_,b⟩:=aD b;obtain rfl:=aU b;exact bU h c rfl hv
 .rename_i g;rw[g] at hv;have hx:a.eval x=.slice af 0 0:=by simpa [cK] using hv
  split at b
  .rename_i k e n;cases j:du bf k with
   | true =>
     rw[j] at b;simp at b;obtain⟨o,f,i⟩:=ef b;obtain rfl:=aU i;obtain⟨p,r,s,t,q⟩:=(m.T _ _ n).slice;obtain⟨m1,l⟩:=h.ok.PK f q;refine⟨_,w,_,rfl,h.step l m1 (c k rfl) ?_,l⟩;rw[hx];exact⟨⟨_,rfl,rfl⟩,gI (bK _ _) rfl ⟨e,0,rfl,rfl,.inl ⟨by simp[bT],rfl⟩⟩⟩
   | false =>
     rw[j] at b;obtain rfl:=aU b;exact bU h c rfl (by rw[hx];exact⟨_,.inl ⟨⟨af,rfl⟩,rfl⟩,rfl⟩)
  .obtain rfl:=aU b;exact bU h c rfl (by rw[hx];rfl)
 .obtain rfl:=aU b;exact bU h c rfl hv
def Cj{b:Bool}{v}(h:cK γ σ.mem w (.data .bool b) .val [v]):v=.bool b:=by obtain⟨c,e,f⟩:=et.1 h;rw[f,show c=_ from e];rfl
def wI{k}{n:Int}{v}(h:cK γ σ.mem w (.data (.int k) n) .val [v]):v=.int k n/\k.min<=n/\n<=k.max:=by obtain⟨e,b,c⟩:=et.1 h;rw[c,b.1];exact⟨rfl,b.2⟩
def Av{s:bj}{v}(h:cK γ σ.mem w (.data .str s) .val [v]):v=.string ⟨s.toArray⟩/\s.length<=maxLen:=by obtain⟨cs,b,c⟩:=et.1 h;rw[c,b.1];exact⟨rfl,b.2⟩
def gV(b:Bool):cK γ σ.mem w (.data .bool b) .val [.bool b]:=⟨_,rfl,rfl⟩
def mkInt{k:IntKind}{n}(h:k.min<=n/\n<=k.max):cK γ σ.mem w (.data (.int k) n) .val [.int k n]:=⟨_,⟨rfl,h.1,h.2⟩,rfl⟩
def mkStr{s:bj}(h:s.length<=maxLen):cK γ σ.mem w (.data .str s) .val [.string ⟨s.toArray⟩]:=⟨_,⟨rfl,h⟩,rfl⟩
def PM{c x y}(h:dz B N γ σ a w)(j:∀k,d=aa k->k<N)(f:(qs d (dm σ c) (dm σ x) (dm σ y) σ).run=aa bb) :
  pr P B N γ σ a w d (do pure (if <-asBool (a.eval c) then a.eval x else a.eval y)) bb:=by
 have p:=h.dm c;have hx:=h.dm x;have hy:=h.dm y;unfold qs at f;split at f
 .rename_i i l;rw[l] at p;have b:(do pure (if <-asBool (a.eval c) then a.eval x else a.eval y):Sem Value).run P w=.ok (if(show Bool from i)=true then a.eval x else a.eval y) w:=by rw[(Cj p)];cases i<;>rfl
  split at f;{rename_i t r u s m n;rw[m] at hx;rw[n] at hy;split at f;{rename_i v o;obtain rfl:=aU f;obtain⟨e,q⟩:=Ty.lZ o;subst e;subst q;refine bU h j b ?_;cases i;{exact hy};exact hx};cases f};have g:=gH f;cases i;{obtain rfl:=aU g;exact bU h j b hy};obtain rfl:=aU g;exact bU h j b hx
 .cases f
def fN(k:IntKind) n:k.min<=k.wrap n/\k.wrap n<=k.max:=wrap_within k n
def ak4{k:IntKind}{x y:Int}(h:k.min<=x/\x<=k.max):k.min<=x.tmod y/\x.tmod y<=k.max:=by
 have b:k.min<=0:=by cases k<;>decide
 have c:0<=k.max:=by cases k<;>decide
 have f:(x.tmod y).natAbs<=x.natAbs:=by rw[Int.natAbs_tmod];apply Nat.mod_le
 rcases Int.le_total 0 x with e|e
 .have:=Int.tmod_nonneg y e;omega
 have:x.tmod y<=0:=by have:=Int.tmod_nonneg y (show 0<=-x by omega);simp_all
 omega
def ak5{k:IntKind}{x} n (h:k.min<=x/\x<=k.max):k.min<=x.fdiv (2 ^ n)/\x.fdiv (2 ^ n)<=k.max:=by
 have f:k.min<=0:=by cases k<;>decide
 have g:0<=k.max:=by cases k<;>decide
 have b:(0:Int)<2 ^ n:=Int.pow_pos aI;have e:x.fdiv _=x / 2 ^ n:=amT _ ai;rcases Int.le_total 0 x with c|c
 .have j:=Int.ediv_nonneg c (Int.le_of_lt b);have i:=Int.ediv_le_self (2 ^ n) c;omega
 have i:x / 2 ^ n<1:=Int.ediv_lt_of_lt_mul b ai;have l:x<=x / 2 ^ n:=by rw[Int.le_ediv_iff_mul_le b];have:=Int.mul_le_mul_of_nonpos_left c b;grind
 omega
def VW{op l}(h:IB op=aa l):(op=.shl/\l=true)\/(op=.shr/\l=false):=by cases op<;>simp[IB] at h<;>simp[h]
def uL{op l}(h:isEq op=aa l):(op=.eql/\l=true)\/(op=.neq/\l=false):=by cases op<;>simp[isEq] at h<;>simp[h]
def ia(b:BinOp)(c:TypeId)(x y:Operand)(u v:Value):Sem Value:=do eqGuard b c x y u v;binOp b c u v
def VX{op k n m v g x y}(h:k.min<=n/\n<=k.max)(f:IB op=af)(c:(abp op k n m).run=aa v) :
  ∃r,(ia op g x y (.int k n)<|.int k m).run P w=.ok r w/\cK γ σ.mem w v .val [r]:=by
 unfold ia;cases op<;>simp only[eqGuard_at_int]<;>simp only[abp] at c
 case add=>obtain rfl:=aU c;exact⟨.int k _,by simp only[binOp_add];rfl,mkInt (fN _ _)⟩
 case sub=>obtain rfl:=aU c;exact⟨.int k _,by simp only[binOp_sub];rfl,mkInt (fN _ _)⟩
 case mul=>obtain rfl:=aU c;exact⟨.int k _,by simp only[binOp_mul];rfl,mkInt (fN _ _)⟩
 case quo =>
  have b:=gH c;cases e:aR m 0
  .rw[e] at b;obtain rfl:=aU b;exact⟨.int k _,by simp only[binOp_quo,Op.intDiv,aK (by simpa [aR] using e)];rfl,mkInt (fN _ _)⟩
  .rw[e] at b;cases b
 case rem =>
  have b:=gH c;cases e:aR m 0
  .rw[e] at b;obtain rfl:=aU b;exact⟨.int k _,by simp only[binOp_rem,Op.intDiv,aK (by simpa [aR] using e)];rfl,mkInt (ak4 h)⟩
  .rw[e] at b;cases b
 case and=>obtain rfl:=aU c;exact⟨.int k _,by simp only[binOp_and];rfl,mkInt (fN _ _)⟩
 case or=>obtain rfl:=aU c;exact⟨.int k _,by simp only[binOp_or];rfl,mkInt (fN _ _)⟩
 case xor=>obtain rfl:=aU c;exact⟨.int k _,by simp only[binOp_xor];rfl,mkInt (fN _ _)⟩
 case andNot=>obtain rfl:=aU c;exact⟨.int k _,by simp only[binOp_andNot];rfl,mkInt (fN _ _)⟩
 case shl=>cases f
 case shr=>cases f
 case eql=>obtain rfl:=aU c;exact⟨.bool _,by simp[binOp];rfl,gV _⟩
 case neq=>obtain rfl:=aU c;exact⟨.bool _,by simp[binOp,nt];rfl,gV _⟩
 case lss=>obtain rfl:=aU c;exact⟨.bool _,by simp[binOp,Op.intCmp,ba],gV _⟩
 case leq=>obtain rfl:=aU c;exact⟨.bool _,by simp[binOp,Op.intCmp,cm],gV _⟩
 case gtr=>obtain rfl:=aU c;exact⟨.bool _,by simp[binOp,Op.intCmp,ba],gV _⟩
 case geq=>obtain rfl:=aU c;exact⟨.bool _,by simp[binOp,Op.intCmp,cm],gV _⟩
def jP s:(⟨s.toArray⟩:ByteArray).toList=s:=by rw[ByteArray.toList_eq]
def afg s t:(s==t)=bA s t:=by rw[Iy];simp[bA]
def VY{op s t v f x y}(b:(abq op s t).run=aa v) :
  ∃r,(ia op f x y (.string ⟨s.toArray⟩)<|.string ⟨t.toArray⟩).run P w=.ok r w/\cK γ σ.mem w v .val [r]:=by
 unfold ia;cases op<;>simp only[eqGuard_at_string,Sem.run_bind,Sem.run_pure,Result.andThen_ok]<;>simp only[abq] at b<;>try (cases b;done)
 case add =>
  obtain⟨g,c⟩:=cL b;obtain rfl:=aU c;have i:s.length+t.length<=4294967296:=by have h:=gb g;simp only[plus,len] at h;omega
  refine⟨.string ⟨(s++t).toArray⟩,?_,mkStr (by simp only[app,gR,maxLen];omega)⟩;have e:∀l:bj,(⟨l.toArray⟩:ByteArray).size=l.length:=λl=>rfl;have:¬(((s.length+t.length:Nat):Int) > IntKind.i64.max):=by rw[IntKind.max_i64];omega
  simp only[binOp,Op.stringOp,e,this];congr 2
 case eql=>obtain rfl:=aU b;exact⟨.bool _,by simp only[binOp,Op.stringOp,jP,afg,Sem.run_pure],gV _⟩
 case neq=>obtain rfl:=aU b;exact⟨.bool<|nt _,by simp only[binOp,Op.stringOp,jP,afg,Sem.run_pure];rfl,gV _⟩
 case lss=>obtain rfl:=aU b;exact⟨.bool _,by simp only[binOp,Op.stringOp,jP,afg,Sem.run_pure];rfl,gV _⟩
 case leq=>obtain rfl:=aU b;exact⟨.bool _,by simp only[binOp,Op.stringOp,jP,afg,Sem.run_pure];rfl,gV _⟩
 case gtr=>obtain rfl:=aU b;exact⟨.bool<|nt _,by simp only[binOp,Op.stringOp,jP,afg,Sem.run_pure];rfl,gV _⟩
 case geq=>obtain rfl:=aU b;exact⟨.bool _,by simp only[binOp,Op.stringOp,jP];rfl,gV _⟩
def Yz{op left k c n m e x y}(f:k.min<=n/\n<=k.max)(g:IB op=aa left)(h:ba m 0=false) :
  ∃r,(ia op e x y (.int k n)<|.int c m).run P w=.ok r w/\cK γ σ.mem w (.data (.int k)<|bif left then om k n m else jv k n m) .val [r]:=by
 have b:¬m<0:=by simpa [ba] using h
 unfold ia;rcases VW g with ⟨rfl,rfl⟩|⟨rfl,rfl⟩
 .exact⟨.int k _,by simp only[ binOp_shl,Op.shift,aK b];rfl,mkInt (fN _ _)⟩
 .exact⟨.int k _,by simp only[ binOp_shr,Op.shift,aK b];rfl,mkInt (ak5 _ f)⟩
def FF{t tid}(c:Den P t tid){cs off}(h:off+t.size<=cs.size)(f:t.isAgg=false->t.size=1) :
  (part tid cs off).run P w=.ok (cX t<|(cs.toList.drop off).take t.size) w:=by
 unfold part;rw[Sem.run_bind,c.agg w];cases b:t.isAgg with|true =>simp only[zx,Sem.run_bind,c.sizeOf w,Result.andThen_ok,Sem.run_pure,cX,b];congr 2;grind|false =>(have i:=f b;simp only[ cX];have g:off<cs.size:=ai;have e:(cs.toList.drop off).take 1=[cs[off]]:=by apply Pg;grind);simp_all
def vQ:∀{t:Ty},t.isAgg=false->t.size=1:=by intro t h;induction t with|alt u a r c b=>exact b h|arr|pair|unit=>cases h|_=>rfl
def GK{γ:Gh}{w:World}:∀(t:Ty),(∀(d:Nat) (tid:TypeId) (x y:t.den) (cx cy:List Value) (c:Bool),Den P t tid->bZ w γ.I t x cx->bZ w γ.I t y cy->Ty.eqv t x y=aa c->t.Nf<d ->
   (Op.equalIn d tid (cX t cx)<|cX t cy).run P w=.ok c w) /\
  (∀(d off:Nat) (o:List Field) (x y:t.den) (cx cy:List Value) (l m:Array Value) (c:Bool),sM P t off o->bZ w γ.I t x cx->bZ w γ.I t y cy->Ty.eqv t x y=aa c->t.Nf<d ->l.toList.drop off=cx->m.toList.drop off=cy->off<=l.size->off<=m.size->(Op.eqFields d l m o).run P w=.ok c w):=by
 intro t;induction t with
 | int k =>refine⟨λd tid x y cx cy c g s v j F=>?_,λd off o x y cx cy l m c g=>by simp[sM,eM] at g⟩;obtain⟨d,rfl⟩:∃e,d=e+1:=⟨d-1,ai⟩;rw[s.1,v.1];obtain rfl:=aU j;show(Op.equalIn (d+1) tid (.int k x)<|.int k y).run P w=_;rw[run_equalIn_int w d tid k k x y g.int];congr 1
 | bool =>refine⟨λd tid x y cx cy c g s v j F=>?_,λd off o x y cx cy l m c g=>by simp[sM,eM] at g⟩;obtain⟨d,rfl⟩:∃e,d=e+1:=⟨d-1,ai⟩;rw[show cx=_ from s,show cy=_ from v];obtain rfl:=aU j;exact run_equalIn_bool' w d tid x y g.bool
 | str =>refine⟨λd tid x y cx cy c g s v j F=>?_,λd off o x y cx cy l m c g=>by simp[sM,eM] at g⟩;obtain⟨d,rfl⟩:∃e,d=e+1:=⟨d-1,ai⟩;rw[s.1,v.1];obtain rfl:=aU j;have G:=run_equalIn_string w d tid ⟨List.toArray x⟩ ⟨List.toArray y⟩ g.str;rw[jP<|show bj from x,jP (show bj from y),afg] at G;exact G
 | slice e ih=>exact⟨(λd tid x y cx cy c g s v j=>by cases j),(λd off o x y cx cy l m c g=>by simp[sM,eM] at g)⟩
 | alt u a r S ihr=>exact⟨(λd tid x y cx cy c g s v j=>by cases j),(λd off o x y cx cy l m c g=>by simp[sM,eM] at g)⟩
 | DV=>exact⟨(λd tid x y cx cy c g s v j=>by cases j),(λd off o x y cx cy l m c g=>by simp[sM,eM] at g)⟩
 | arr n e ih =>refine⟨λd tid x y cx cy c g s v j F=>?_,(λd off o x y cx cy l m c g=>by simp[sM,eM] at g)⟩;cases e with|int k =>(obtain⟨d,rfl⟩:∃e,d=e+1:=⟨d-1,ai⟩;obtain⟨d,rfl⟩:∃e,d=e+1:=⟨d-1,by have:(Ty.arr n<|.int k).Nf=1+1:=rfl;omega⟩;obtain rfl:=aU j;obtain⟨T,H,D,U⟩:=g.arr;obtain⟨i,z,i1,i2,_,_⟩:=D.info;have J:=D.cells;show(Op.equalIn _ tid (.agg cx.toArray)<|.agg cy.toArray).run P w=_;(rw[run_equalIn_array w _ cx.toArray cy.toArray H i1,J];obtain⟨V,hxc,A⟩:=s;obtain⟨W,hyc,C⟩:=v;have hz:(Ty.int k).size=1:=rfl;rw[hz] at hxc A hyc C⊢;change List Int at x y;have item:∀O,(∀i∈O,i<n)->(Op.eqItems (d+1) T 1 cx.toArray cy.toArray O).run P w=.ok (O.all λi=>decide (x[i]?=y[i]?)) w:=by intro O;induction O with|nil=>intro _;rfl|cons i O ihs =>intro hi;have K:=hi i (pg ..);obtain⟨a,hxi⟩:∃a,x[i]?=aa a:=⟨_,gQ (by rw[show x.length=n from V];exact K)⟩;obtain⟨b,hyi⟩:∃a,y[i]?=aa a:=⟨_,gQ (by rw[show y.length=n from W];exact K)⟩;have Q:=FF (w:=w) D (cs:=cx.toArray) (off:=i*1) dW (λ_=>hz);have R:=FF (w:=w) D (cs:=cy.toArray) (off:=i*1) dW (λ_=>hz);have ex:=(A i _ hxi).1;have ey:=(C i _ hyi).1;rw[hz] at Q R;rw[ ex] at Q;rw[ ey] at R;simp only[Op.eqItems,Sem.run_bind,Q,R,Result.andThen_ok];have L:=run_equalIn_int w d T k k a b D.int;simp only[cX,Ty.isAgg,zw,List.headD_cons,L,Result.andThen_ok];cases hb:(a==b) with|true =>grind|false =>simp_all);rw[item _ λi hi=>Iz.1 hi];congr 1;unfold eqL;rw[Iy];simp only[ zn];constructor;{intro h;apply Pg;intro i;by_cases K:i<n;{grind};rw[SK<|by rw[show x.length=n from V];omega,SK (by rw[show y.length=n from W];omega)]};grind)|_=>cases j
 | unit =>refine⟨(λd tid x y cx cy c g=>by simp[Den,eM] at g),λd off o x y cx cy l m c g s v j F G h2 h3 h4=>?_⟩;cases o with|nil=>(obtain rfl:=aU j;rfl)|cons f r=>simp[sM,eM] at g
 | pair a b S ihb =>
   have key:(∀d off o (x y:(Ty.pair a b).den) cx cy l m c,sM P (.pair a b) off o->bZ w γ.I _ x cx->bZ w γ.I _ y cy->Ty.eqv _ x y=aa c->(Ty.pair a b).Nf<d+1 ->
    l.toList.drop off=cx->m.toList.drop off=cy->off<=l.size->off<=m.size->(Op.eqFields d l m o).run P w=.ok c w):=by
    intro d off o x y cx cy l m c g s v j F G h2 h3 h4;obtain⟨f,r,rfl,H,D,U,k4,k5⟩:=g.cons;obtain⟨x1,x2,A,X,hx2⟩:=s;obtain⟨y1,y2,C,Y,hy2⟩:=v;simp only[Ty.eqv] at j;cases E:Ty.eqv a x.1 y.1 with|none=>rw[E] at j;cases j|some p =>cases M:Ty.eqv b x.2 y.2 with|none=>rw[E,M] at j;cases j|some q =>(rw[E,M] at j;obtain rfl:=aU j;have Z:=X.length;have hly:=Y.length;have lx:l.size-off=x1.length+x2.length:=by have:=congrArg List.length (G.trans A);simpa using this);(have ly:m.size-off=y1.length+y2.length:=by have:=congrArg List.length (h2.trans C);simpa using this);(have Q:=FF (w:=w) U (cs:=l) (off:=f.offset) ai vQ;have R:=FF (w:=w) U (cs:=m) (off:=f.offset) ai vQ;have ex:(l.toList.drop f.offset).take a.size=x1:=by rw[H,G,A,<-Z,Yi]);(have ey:(m.toList.drop f.offset).take a.size=y1:=by rw[H,h2,C,<-hly,Yi]);rw[ex] at Q;rw[ey] at R;have hsz:(Ty.pair a b).Nf=a.Nf+b.Nf+1:=rfl;have L:=S.1 d f.type x.1 y.1 x1 y1 p U X Y E ai;simp only[Op.eqFields,aN D,Sem.run_bind,Q,R,L,Result.andThen_ok];cases p with|false=>simp[an]|true =>simp;rw[ihb.2 d _ r x.2 y.2 x2 y2 l m q k5 hx2 hy2 M ai (by rw[<-Ap,G,A,<-Z,Nc]) (by rw[<-Ap,h2,C,<-hly,Nc]) ai ai];simp[an]
   (refine⟨λd tid x y cx cy c g s v j F=>?_,λd off o x y cx cy l m c g s v j F=>key d off o x y cx cy l m c g s v j ai⟩;obtain⟨d,rfl⟩:∃e,d=e+1:=⟨d-1,ai⟩;obtain⟨o,H,D,U,k4⟩:=g.pair;have hf:P.fieldsOf tid=o:=by simp[Program.fieldsOf,H]);show(Op.equalIn _ tid (.agg _)<|.agg _).run P w=_;rw[run_equalIn_struct w d tid _ _ (by rw[hf];exact H) k4,hf];exact key d 0 o.toList x y cx cy _ _ c D s v j ai aW aW aW aW
end
end Go.Ge
namespace Go.Ge
open RowKit
section
variable {P:Program} {B:DW} {N:Nat} {γ:Gh} {σ bb:St} {a:Act} {w:World} {d:Option Nat} {cx:Ctx}
def PN b c {e x y} (f:P.underlying e=aa .bool) :
  (ia .eql e x y (.bool b)<|.bool c).run P w=.ok (.bool<|eqB b c) w/\(ia .neq e x y (.bool b)<|.bool c).run P w=.ok (.bool<|nt<|eqB b c) w:=by
 constructor<;>simp only[ia,eqGuard_at_bool,binOp,Op.equal,Op.maxDepth,Sem.run_bind,Sem.run_pure,Result.andThen_ok,(run_equalIn_bool' w 9999 e b c f)]<;>rfl
def YA{c e}(f:P.underlying c=aa (.pointer e)) a b (h:a=af\/b=af) n :
  (Op.equalIn (n+1) c (.pointer a)<|.pointer b).run P w=.ok (a.isNone&&b.isNone) w:=by
 cases a with|none=>cases b<;>simp only[Op.equalIn,Sem.run_bind,run_underlying f,Result.andThen_ok]<;>rfl|some a=>cases b with|none=>simp only[Op.equalIn,Sem.run_bind,run_underlying f];rfl|some b=>simp at h
def Aw{c e x y}(f:P.underlying c=aa (.pointer e)) a b (h:a=af\/b=af) :
  (ia .eql c x y (.pointer a)<|.pointer b).run P w=.ok (.bool<|a.isNone&&b.isNone) w/\(ia .neq c x y (.pointer a)<|.pointer b).run P w=.ok (.bool<|!(a.isNone&&b.isNone)) w:=by
 constructor<;>simp only[ia,eqGuard_at_pointer,binOp,Op.equal,Op.maxDepth,Sem.run_bind,Sem.run_pure,Result.andThen_ok,(YA f a b h 9999)]
def afi(I:fM P cx){op}{j:TypeId}{x y u v p q r}(E:cK γ σ.mem w p .val [u])(F:cK γ σ.mem w q .val [v])
  (o:(bin (find cx.T j) (du cx.Bf j) op p q).run=aa r):∃z,(ia op j x y u v).run P w=.ok z w/\cK γ σ.mem w r .val [z]:=by
 unfold bin at o;split at o
 ·
  obtain⟨rfl,J⟩:=wI E;obtain⟨rfl,V⟩:=wI F;split at o
  .rename_i left K;have f:=gH o;rename_i k n k' m _;cases L:ba m 0
   .rw[L] at f;obtain rfl:=aU f;exact Yz J K L
   .rw[L] at f;cases f
  .rename_i K;obtain⟨s,f⟩:=aD o;have W:=Be s;subst W;exact VX J K f
 ·
  obtain⟨rfl,J⟩:=Av E;obtain⟨rfl,V⟩:=Av F;exact VY o
 ·
  rename_i b c;obtain rfl:=Cj E;obtain rfl:=Cj F;obtain⟨s,f⟩:=aD o;have A:=I.T _ _ (jB s);have e:=PN (w:=w) b c (x:=x) (y:=y) A.bool;split at f
  .rename_i t;obtain rfl:=aU f;rcases uL t with ⟨rfl,_⟩|⟨_,h⟩
   .exact⟨.bool _,e.1,gV _⟩
   .cases h
  .rename_i t;obtain rfl:=aU f;rcases uL t with ⟨_,h⟩|⟨rfl,_⟩
   .cases h
   .exact⟨.bool _,e.2,gV _⟩
  .cases f
 ·
  rename_i ta tb M X Y;obtain⟨s,f⟩:=aD o;simp only[gC] at s;have A:=I.T _ _ (jB s.1);split at f
  .rename_i Z e C t;obtain⟨O,Q⟩:=Ty.lZ C;subst O;subst Q;split at f
   .rename_i c D;obtain rfl:=aU f;obtain⟨g,R,rfl⟩:=et.1 E;obtain⟨i,S,rfl⟩:=et.1 F;have G:=(GK (P:=P) (γ:=γ) (w:=w) _).1 10000 j M _ g i c A R S D (by have:=M7 s.2;omega);obtain⟨fs,j1,j2,j3,j4⟩:=A.pair;have H:∀op,(eqGuard op j x y (.agg g.toArray)<|.agg i.toArray).run P w=.ok () w:=λop=>run_eqGuard_agg w op j x y _ _ j3;rcases uL t with ⟨rfl,rfl⟩|⟨rfl,rfl⟩
    .refine⟨.bool c,?_,gV _⟩;show(ia .eql j x y (.agg _)<|.agg _).run P w=_
     simp only[ia,Sem.run_bind,H,Result.andThen_ok];have l:(Op.equalIn 10000 j (.agg g.toArray)<|.agg i.toArray).run P w=.ok c w:=G;rw[run_eql_struct,l];rfl
    .refine⟨.bool<|nt c,?_,gV _⟩;show(ia .neq j x y (.agg _)<|.agg _).run P w=_
     simp only[ia,Sem.run_bind,H,Result.andThen_ok];have l:(Op.equalIn 10000 j (.agg g.toArray)<|.agg i.toArray).run P w=.ok c w:=G;rw[run_neq_struct,l];rfl
   .cases f
  .cases f
 ·
  rename_i nn ee M X Y;obtain⟨s,f⟩:=aD o;simp only[gC] at s;have A:=I.T _ _ (jB s.1);split at f
  .rename_i Z e C t;obtain⟨O,Q⟩:=Ty.lZ C;subst O;subst Q;split at f
   .rename_i c D;obtain rfl:=aU f;obtain⟨g,R,rfl⟩:=et.1 E;obtain⟨i,S,rfl⟩:=et.1 F;have G:=(GK _).1 10000 j M _ g i c A R S D (by have:=M7 s.2;omega);have H:∀op,(eqGuard op j x y (.agg g.toArray)<|.agg i.toArray).run P w=.ok () w:=λop=>run_eqGuard_agg w op j x y _ _ A.aoW;rcases uL t with ⟨rfl,rfl⟩|⟨rfl,rfl⟩
    .refine⟨.bool c,?_,gV _⟩;show(ia .eql j x y (.agg _)<|.agg _).run P w=_
     simp only[ia,Sem.run_bind,H,Result.andThen_ok];have l:(Op.equalIn 10000 j (.agg g.toArray)<|.agg i.toArray).run P w=.ok c w:=G;rw[run_eql_struct,l];rfl
    .refine⟨.bool _,?_,gV _⟩;show(ia .neq j x y (.agg _)<|.agg _).run P w=_
     simp only[ia,Sem.run_bind,H,Result.andThen_ok];have l:(Op.equalIn 10000 j (.agg g.toArray)<|.agg i.toArray).run P w=.ok c w:=G;rw[run_neq_struct,l];rfl
   .cases f
  .cases f
 ·
  obtain rfl:u=_:=by simpa [cK] using E
  obtain rfl:v=_:=by simpa [cK] using F
  split at o
  .rename_i e hp t;obtain rfl:=aU o;obtain⟨el,U⟩:=I.Bf _ hp;have q:=Aw (w:=w) (x:=x) (y:=y) U af af (.inl rfl);rcases uL t with ⟨rfl,rfl⟩|⟨rfl,rfl⟩
   .exact⟨_,q.1,gV _⟩
   .exact⟨_,q.2,gV _⟩
  .cases o
 .cases o
def ld{b aY}(h:live σ b aY=true):∃c,σ.mem b=aa c/\c.aY=aY:=by
 unfold live at h;split at h
 {rename_i c e;exact⟨c,e,iN h⟩};cases h
def bC{mem b aY bx}(e:mem b=aa bx)(f:bx.aY=aY){K}(h:oz mem b aY K):K bx:=by obtain⟨g,c,j,i⟩:=h;rw[e] at c;obtain rfl:=aU c;exact i f
def aby(m:fM P cx){op}{n:TypeId}{x y u v p q r}(o:cK γ σ.mem w p .val [u])(s:cK γ σ.mem w q .val [v])
  (l:(ah7 σ (find cx.T n) (du cx.Bf n) op p q).run=aa r):∃z,(ia op n x y u v).run P w=.ok z w/\cK γ σ.mem w r .val [z]:=by
 unfold ah7 at l;split at l
 .rename_i b t p;obtain⟨h,c⟩:=aD l;simp only[gC] at h;obtain⟨D,i,f⟩:=ld h.1;obtain⟨j,A,_,g⟩:=bC i f o.2;obtain rfl:u=_:=by simpa using g
  obtain rfl:v=_:=by simpa [cK] using s
  obtain⟨E,k⟩:=m.Bf _ h.2;have q:=Aw (P:=P) (w:=w) (x:=x) (y:=y) k (aa ⟨j,er p,af⟩) af (.inr rfl);split at c;{rename_i e C;obtain rfl:=aU c;rcases uL C with ⟨rfl,rfl⟩|⟨rfl,rfl⟩;{exact⟨_,q.1,gV _⟩};exact⟨_,q.2,gV _⟩};cases c
 .rename_i b t p;obtain⟨h,c⟩:=aD l;simp at h;obtain⟨D,i,f⟩:=ld h.1;obtain⟨j,A,_,g⟩:=bC i f s.2;obtain rfl:v=_:=by simpa using g
  obtain rfl:u=_:=by simpa [cK] using o
  obtain⟨E,k⟩:=m.Bf _ h.2;have q:=Aw (w:=w) (x:=x) (y:=y) k af (aa ⟨j,er p,af⟩) (.inl rfl);split at c;{rename_i e C;obtain rfl:=aU c;rcases uL C with ⟨rfl,rfl⟩|⟨rfl,rfl⟩;{exact⟨_,q.1,gV _⟩};exact⟨_,q.2,gV _⟩};cases c
 .exact afi m o s l
def ain{op u p r}(c:cK γ σ.mem w p .val [u])(b:(un op p).run=aa r):∃z,(Op.unary op u).run P w=.ok z w/\cK γ σ.mem w r .val [z]:=by
 unfold un at b;split at b
 .obtain rfl:=Cj c;obtain rfl:=aU b;exact⟨_,rfl,gV _⟩
 .obtain⟨rfl,e⟩:=wI c;obtain rfl:=aU b;exact⟨_,rfl,mkInt (fN _ _)⟩
 {obtain⟨rfl,e⟩:=wI c;obtain rfl:=aU b;rename_i k n;refine⟨_,?_,mkInt (fN _ _)⟩;cases f:k.signed<;>simp[Op.unary,Op.intBits,gD,f]};cases b
def aio(K:bP B γ σ.mem w){b n}(L:σ.mem b=aa n){blk cap}(A:γ.loc b=aa (blk,cap)){p v}(j:(akY n.buf p n.val).run=aa v) :
  ∃c tid m,w.heap[blk]?=aa (.cells c tid m)/\oA c m/\er p+dX v<=c.size/\cK γ σ.mem w v .cells ((c.toList.drop<|er p).take<|dX v):=by
 have f:=K.boxes b n L;unfold e7 at f;cases h:n.buf with|false =>(rw[h] at f j;obtain⟨o,q,c,tid,m,y,H,g,r,C⟩:=f;rw[A] at y;obtain⟨rfl,rfl⟩:=b9 (aU y);obtain⟨I,z⟩:=zD C j;exact⟨c,tid,m,H,g,by simpa using I,z⟩)|true =>rw[h] at f j;obtain⟨e,l,y,H,g⟩:=f;rw[y] at j;rcases g with ⟨g,_⟩|⟨o,q,c,tid,m,g,C,M,r,S,T,U,O⟩;{rw[A] at g;cases g};rw[A] at g;obtain⟨rfl,rfl⟩:=b9 (aU g);cases p with|nil=>cases j|cons s p =>cases s with|gE k off=>cases j|idx i size =>obtain⟨D,E⟩:=aD j;have t:=iN D;obtain⟨x,Q,F⟩:=ck E;obtain⟨V,u⟩:=vO Q;have J:=O _ x u;have R:=J.length;have hi:=(ga.1 u).1;have G:(i.toNat+1)*e.size<=cap*e.size:=hL _ ai;rw[Dq] at G;obtain⟨I,z⟩:=zD (v:=.data e x) J F;refine⟨c,tid,m,C,M.th,?_,?_⟩;{simp only[er,t];omega};rw[adW,GH,Ap,yo ai] at z;simp only[ t];exact z
def Bm{t tid}(i:Den P t tid){blk off x cs}(g:bZ w γ.I t x cs)(b:(loadCells ⟨blk,off,af⟩ cs.length).run P w=.ok cs.toArray w)
  (e:∀j v,cs[j]?=aa v->w.cell? ⟨blk,off+j,af⟩=aa v):(loadVar tid ⟨blk,off,af⟩).run P w=.ok (cX t cs) w:=by
 unfold loadVar;rw[Sem.run_bind,i.agg w];have h:=g.length;cases f:t.isAgg with|true =>simp only[zx,Sem.run_bind,i.sizeOf w,Result.andThen_ok,<-h,b,Sem.run_pure,cX,f,B9]|false =>rw[(vQ f)] at h;obtain⟨c,rfl⟩:=adH.1 h;have:=e 0 c rfl;simp at this;simp[cX,f,this]
def PQ:∀{u v},ad2 u v=true->dX v=u.size:=by intro u;induction u with|pair a b f e =>(intro v h;cases v with|data t x=>(obtain rfl:=Ty.eq_of_beq h;rfl)|mix p q =>(obtain⟨c,g⟩:=Bool.and_eq_true_iff.1 h;have i:dX p=a.size:=by unfold aia at c;split at c;{rfl};{obtain rfl:=Ty.eq_of_beq c;rfl};cases c);show dX p+dX q=a.size+b.size;rw[i,e g]|_=>cases h)|_ =>intro v h;cases v with|data t x=>(obtain rfl:=Ty.eq_of_beq h;rfl)|_=>cases h
def afj{u v}(b:aia u v=true):dX v=u.size:=by
 unfold aia at b;split at b
 .rfl
 {obtain rfl:=Ty.eq_of_beq b;rfl};cases b
def YB(q:fM P cx){ty x}(h:dz B N γ σ a w)(r:(mF cx d ty (dm σ x) σ).run=aa bb) :
  ∃u m E,bb=σ.bF d u/\a.eval x=.pointer (aa E)/\(loadVar ty E).run P w=.ok m w/\cK γ σ.mem w u .val [m]:=by
 have hv:=h.dm x;unfold mF at r;split at r
 .rename_i u y L;rw[L] at hv;obtain⟨J,s⟩:=aD r;obtain rfl:=aU s;have K:=q.T _ _ (jB J);obtain⟨F,off,cs,C,W,X⟩:=hv;obtain C:a.eval x=_:=by simpa using C
  have M:=Bm K W (KK X) (λj v D=>(X j v D).1);exact⟨_,_,_,rfl,C,M,cs,W,rfl⟩
 .rename_i b aY p L;rw[L] at hv;split at r
  .rename_i bx J;obtain⟨G,s⟩:=aD r;obtain⟨v,hn,O⟩:=bind_some s;obtain⟨g,Q⟩:=aD O;obtain rfl:=aU Q;obtain⟨F,cap,M,l⟩:=bC J (iN G) hv.2;obtain l:a.eval x=_:=by simpa using l
   obtain⟨H,tid,fr,Y,g2,g3,t⟩:=aio h.ok J M hn;have z:=Gt (P:=P) Y g3;have A:=t.length;have i:∀j R,((H.toList.drop _).take<|dX v)[j]?=aa R->w.cell? ⟨F,er p+j,af⟩=aa R:=λj R D=>by
    rw[cell_of_heap Y];rw[kh] at D;split at D
    .simpa using D
    .cases D
   have single:∀(o:(isAgg ty).run P w=.ok false w) (C:dX v=1) (n:∀c,cK γ σ.mem w v .cells [c]->cK γ σ.mem w v .val [c]),
     ∃u m E,σ.bF d v=σ.bF d u/\a.eval x=.pointer (aa E)/\(loadVar ty E).run P w=.ok m w/\cK γ σ.mem w u .val [m]:=by
    intro o C n;rw[C] at A t i;obtain⟨c,S⟩:=adH.1 A;rw[S] at t i;have:=i 0 c rfl;simp at this;refine⟨_,c,_,rfl,l,?_,n c t⟩;simp[loadVar,o,this]
   cases v with
   | mix Z q' =>
     simp only[FB] at g;split at g
     .rename_i u U;have K:=q.T _ _ U;have V:Ty.isAgg u=true:=by
       cases u with
       | pair a b=>rfl
       | _=>cases g
      refine⟨_,.agg ((H.toList.drop<|er p).take<|dX<|.mix Z q').toArray,_,rfl,l,?_,?_⟩
      .rw[(PQ g)] at z⊢;simp only[loadVar,Sem.run_bind,K.agg w,V,Result.andThen_ok,zx,K.sizeOf w,z,Sem.run_pure]
      .obtain⟨c1,c2,e1,e2,e3⟩:=t;exact⟨c1,c2,by rw[e1],e2,e3⟩
     .cases g
   | data u y =>
     rw[show FB cx ty _=false from rfl,Bool.or_false] at g;exact⟨_,_,_,rfl,l,(Bm (q.T _ _<|jB g) t (by rw[A];exact z) i),_,t,rfl⟩
   | whole b' I =>
     simp only[Cb] at g;split at g
     .rename_i e U;exact single (by have:=(q.T _ _ U).agg w;exact this) rfl (λc k=>k)
     .cases g
   | ptr b' I Z=>exact single ((q.sL _<|by simpa [FB,Cb] using g).1 w) rfl (λc k=>k)
   | vM=>exact single ((q.sL _<|by simpa [FB,Cb] using g).1 w) rfl (λc k=>k)
   | fn f aoO=>exact single ((q.sL _<|by simpa [FB,Cb] using g).1 w) rfl (λc k=>k)
   | _=>cases g
  .cases r
 .cases r
def PR(b:fM P cx){ty x}(h:dz B N γ σ a w)(c:∀k,d=aa k->k<N)(e:(mF cx d ty (dm σ x) σ).run=aa bb) :
  pr P B N γ σ a w d (Instr.loadAt ty<|a.eval x) bb:=by
 obtain⟨u,f,l,rfl,g,i,j⟩:=YB b h e;refine bU h c ?_ j;rw[g];simp only[Instr.loadAt,Instr.sureAddr,Sem.run_bind,Sem.run_pure,Result.andThen_ok,i]
end
end Go.Ge
