/- A ghost interpreter of the model's code, and that it tells the truth: part 2. It says of a function of plain data what a call of it comes to. -/
import Derived.Test.YtpipdmfkbnbchaaGreatDoorGeA
import Derived.Laws.StructEq
import Derived.ChangeKeysEq
namespace Go.Ge
set_option linter.unusedVariables false
def eF:Ty→List Value
 | .int k=>[.int k 0]
 | .bool=>[.bool false]
 | .str=>[.string ⟨#[]⟩]
 | .slice _=>[.slice none 0 0]
 | .arr n e=>(List.replicate n (eF e)).flatten
 | .pair a b=>eF a++eF b
 | .unit=>[]
 | .alt _ _ r=>eF r
 | .AV=>[.nilIface]
theorem dM(t:Ty):(eF t).length=t.size:=by
 induction t with
 | arr n e ih=>simp[eF,Ty.size,ih]
 | pair a b jE nr=>simp[eF,Ty.size,jE,nr]
 | alt u a r jE ihr=>exact ihr
 | _=>rfl
theorem eC{α:Type}(l:List α):∀(n i:Nat),i<n→((List.replicate n l).flatten.drop (i*l.length)).take l.length=l
 | 0,i,h=>absurd h (by omega)
 | n+1,0,_=>by simp[List.replicate_succ]
 | n+1,i+1,h=>by
   rw[List.replicate_succ,List.flatten_cons,Nat.succ_mul,Nat.add_comm,←List.drop_drop,List.drop_left]
   exact eC l n i (by omega)
theorem mK(w:World)(I:Nat→Nat→Prop):∀t:Ty,bG w I t t.zero (eF t):=by
 intro t
 induction t with
 | int k=>exact⟨rfl,by cases k<;>decide,by cases k<;>decide⟩
 | bool=>rfl
 | str=>exact⟨rfl,Nat.zero_le _⟩
 | slice e ih=>exact .inl ⟨⟨none,rfl⟩,rfl⟩
 | arr n e ih =>
   refine⟨List.length_replicate,by rw[dM];rfl,fun i x hx=>?_⟩
   have hx':(List.replicate n e.zero)[i]?=some x:=hx
   rw[List.getElem?_replicate] at hx'
   split at hx'
   ·rename_i hi
    obtain rfl:e.zero=x:=by simpa using hx'
    have:=eC (eF e) n i hi
    rw[dM] at this
    show bG w I e e.zero (((List.replicate n (eF e)).flatten.drop (i*e.size)).take e.size)
    rw[this];exact ih
   ·cases hx'
 | pair a b jE nr=>exact⟨_,_,rfl,jE,nr⟩
 | unit=>rfl
 | alt u a r jE ihr=>exact ihr
 | AV=>rfl
def Mx:Value→Value→Bool
 | .int k n,.int k' m=>Nat.beq (yA k) (yA k')&&decide (n=m)
 | .bool a,.bool b=>a==b
 | .string a,.string b=>decide (a.data.toList=b.data.toList)
 | .slice none 0 0,.slice none 0 0=>true
 | .pointer none,.pointer none=>true
 | .nilIface,.nilIface=>true
 | _,_=>false
theorem Q5{a b:Value}(h:Mx a b=true):a=b:=by
 unfold Mx at h
 split at h
 ·simp only[Bool.and_eq_true,decide_eq_true_eq] at h
  rw[wo h.1,h.2]
 ·simpa using h
 ·rename_i a b
  obtain⟨⟨a⟩⟩:=a;obtain⟨⟨b⟩⟩:=b
  have h':a=b:=by simpa using h
  rw[h']
 ·rfl
 ·rfl
 ·rfl
 ·cases h
def C9:List Value→List Value→Bool
 | [],[]=>true
 | a::r,b::s=>Mx a b&&C9 r s
 | _,_=>false
theorem FO:∀{a b:List Value},C9 a b=true→a=b
 | [],[],_=>rfl
 | a::r,b::s,h=>by simp only[C9,Bool.and_eq_true] at h;rw[Q5 h.1,FO h.2]
 | [],_::_,h=>by cases h
 | _::_,[],h=>by cases h
def Bo(P:Program)(tid:TypeId)(size:Nat)(zc:List Value):Bool :=
 match P.info? tid with
 | some i=>Nat.beq i.size size&&(match i.zero with|some z=>C9 z.cells.toList zc|none=>false)
 | none=>false
theorem iS{P:Program}{tid:TypeId}{size:Nat}{zc:List Value}(h:Bo P tid size zc=true) :
  ∃i z,P.info? tid=some i∧i.size=size∧i.zero=some z∧z.cells.toList=zc:=by
 unfold Bo at h
 split at h
 ·rename_i i hi
  simp only[Bool.and_eq_true] at h
  split at h
  ·rename_i z hz
   exact⟨i,z,hi,Nat.eq_of_beq_eq_true h.1,hz,FO h.2⟩
  ·cases h.2
 ·cases h
def ET(P:Program)(tid:TypeId):Bool :=
 match P.info? tid with
 | some i=>Nat.ble i.bytes 32768
 | none=>false
def Ty.VK:Ty→Bool
 | .alt _ _ r=>r.VK
 | .AV=>true
 | _=>false
def ff(P:Program):Ty→Bool→TypeId→Nat→List Field→Bool
 | .int k,false,tid,_,_=>(match P.underlying tid with|some (.int k')=>Nat.beq (yA k) (yA k')|_=>false)&&Bo P tid 1 [.int k 0]
 | .bool,false,tid,_,_=>(match P.underlying tid with|some .bool=>true|_=>false)&&Bo P tid 1 [.bool false]
 | .str,false,tid,_,_=>(match P.underlying tid with|some .string=>true|_=>false)&&Bo P tid 1 [.string ⟨#[]⟩]
 | .slice e,false,tid,_,_=>(match P.underlying tid with|some (.slice eZ)=>ff P e false eZ 0 []&&ET P eZ&&Nat.blt 0 e.size|_=>false)&&Bo P tid 1 [.slice none 0 0]
 | .arr n e,false,tid,_,_=>(match P.underlying tid with|some (.array m eZ)=>Nat.beq n m&&ff P e false eZ 0 []&&Nat.blt 0 e.size|_=>false)&&Bo P tid (n*e.size) (eF (.arr n e))&&!P.eqGuardType P.depth tid
 | .pair a b,false,tid,_,_=>(match P.underlying tid with
  | some (.struct fs)=>(match fs.toList with
    | f::r=>Nat.beq f.offset 0&&decide (f.name ≠ "_")&&ff P a false f.type 0 []&&Nat.blt 0 a.size&&ff P b true 0 a.size r
    | []=>false)
  | _=>false)&&Bo P tid (a.size+b.size) (eF (.pair a b))&&!P.eqGuardType P.depth tid&&!P.stoodInHeld tid
 | .unit,false,tid,_,_=>false
 | .alt u _ r,false,tid,_,_=>ff P r false tid 0 []&&P.concrete u&&r.VK
 | .AV,false,tid,_,_=>(match P.underlying tid with|some (.interface _)=>true|_=>false)&&Bo P tid 1 [.nilIface]
 | .pair a b,true,_,off,f::r=>Nat.beq f.offset off&&decide (f.name ≠ "_")&&ff P a false f.type 0 []&&Nat.blt 0 a.size&&ff P b true 0 (off+a.size) r
 | .unit,true,_,_,[]=>true
 | _,_,_,_,_=>false
def Den(P:Program)(t:Ty)(tid:TypeId):Prop:=ff P t false tid 0 []=true
def pE(P:Program)(t:Ty)(off:Nat)(fs:List Field):Prop:=ff P t true 0 off fs=true
section
variable {P:Program} {tid:TypeId}
theorem Den.int{k:IntKind}(h:Den P (.int k) tid):P.underlying tid=some (.int k):=by
 simp only[Den,ff,Bool.and_eq_true] at h
 have h1:=h.1
 split at h1
 ·rename_i k' hk;rw[hk,wo h1]
 ·cases h1
theorem Den.bool(h:Den P .bool tid):P.underlying tid=some .bool:=by
 simp only[Den,ff,Bool.and_eq_true] at h
 have h1:=h.1
 split at h1
 ·rename_i hk;rw[hk]
 ·cases h1
theorem Den.str(h:Den P .str tid):P.underlying tid=some .string:=by
 simp only[Den,ff,Bool.and_eq_true] at h
 have h1:=h.1
 split at h1
 ·rename_i hk;rw[hk]
 ·cases h1
theorem Den.slice{e:Ty}(h:Den P (.slice e) tid):∃eZ,P.underlying tid=some (.slice eZ)∧Den P e eZ∧ET P eZ=true∧0<e.size:=by
 simp only[Den,ff,Bool.and_eq_true] at h
 have h1:=h.1
 split at h1
 ·rename_i eZ hk
  simp only[Bool.and_eq_true] at h1
  exact⟨eZ,hk,h1.1.1,h1.1.2,by simpa using h1.2⟩
 ·cases h1
theorem Den.arr{n:Nat}{e:Ty}(h:Den P (.arr n e) tid):∃eZ,P.underlying tid=some (.array n eZ)∧Den P e eZ∧0<e.size:=by
 simp only[Den,ff,Bool.and_eq_true] at h
 have h1:=h.1.1
 split at h1
 ·rename_i m eZ hk
  simp only[Bool.and_eq_true] at h1
  rw[Nat.eq_of_beq_eq_true h1.1.1]
  exact⟨eZ,hk,h1.1.2,by simpa using h1.2⟩
 ·cases h1
theorem Den.abB{n:Nat}{e:Ty}(h:Den P (.arr n e) tid):P.eqGuardType P.depth tid=false:=by
 simp only[Den,ff,Bool.and_eq_true,Bool.not_eq_true'] at h
 exact h.2
theorem Den.pair{a b:Ty}(h:Den P (.pair a b) tid):∃fs,P.underlying tid=some (.struct fs)∧pE P (.pair a b) 0 fs.toList∧P.eqGuardType P.depth tid=false∧P.stoodInHeld tid=false:=by
 simp only[Den,ff,Bool.and_eq_true] at h
 obtain⟨⟨⟨h1,h2⟩,h3⟩,h4⟩:=h
 split at h1
 ·rename_i fs hk
  refine⟨fs,hk,?_,by simpa using h3,by simpa using h4⟩
  split at h1
  ·rename_i f r hr
   simp only[pE,hr,ff,Nat.zero_add]
   exact h1
  ·cases h1
 ·cases h1
theorem Den.info{t:Ty}(h:Den P t tid):∃i z,P.info? tid=some i∧i.size=t.size∧i.zero=some z∧z.cells.toList=eF t:=by
 induction t with
 | int k=>simp only[Den,ff,Bool.and_eq_true] at h;exact iS h.2
 | bool=>simp only[Den,ff,Bool.and_eq_true] at h;exact iS h.2
 | str=>simp only[Den,ff,Bool.and_eq_true] at h;exact iS h.2
 | slice e=>simp only[Den,ff,Bool.and_eq_true] at h;exact iS h.2
 | arr n e=>simp only[Den,ff,Bool.and_eq_true] at h;exact iS h.1.2
 | pair a b=>simp only[Den,ff,Bool.and_eq_true] at h;exact iS h.1.1.2
 | unit=>simp[Den,ff] at h
 | alt u a r jE ihr=>simp only[Den,ff,Bool.and_eq_true] at h;exact ihr h.1.1
 | AV=>simp only[Den,ff,Bool.and_eq_true] at h;exact iS h.2
theorem Den.AV(h:Den P .AV tid):∃ms,P.underlying tid=some (.interface ms):=by
 simp only[Den,ff,Bool.and_eq_true] at h
 have h1:=h.1
 split at h1
 ·exact⟨_,by assumption⟩
 ·cases h1
theorem Den.rest{u:Nat}{a r:Ty}(h:Den P (.alt u a r) tid):Den P r tid∧P.concrete u=true:=by
 simp only[Den,ff,Bool.and_eq_true] at h;exact h.1
theorem Ty.HU:∀{t:Ty},t.VK=true→t.size=1∧t.isAgg=false:=by
 intro t
 induction t with
 | alt u a r jE ihr=>intro h;exact ihr h
 | AV=>intro h;exact⟨rfl,rfl⟩
 | _=>intro h;cases h
theorem Den.VL{u:Nat}{a r:Ty}(_:Den P r tid)(h:Den P (.alt u a r) tid):r.size=1:=by
 simp only[Den,ff,Bool.and_eq_true] at h;exact(Ty.HU h.2).1
theorem Den.agg{t:Ty}(h:Den P t tid)(w:World):(isAgg tid).run P w=.ok t.isAgg w:=by
 induction t with
 | alt u a r jE ihr=>exact ihr h.rest.1
 | AV=>obtain⟨_,h1⟩:=h.AV;unfold Go.isAgg;simp[run_underlying h1,Ty.isAgg]
 | int k=>unfold Go.isAgg;simp[run_underlying h.int,Ty.isAgg]
 | bool=>unfold Go.isAgg;simp[run_underlying h.bool,Ty.isAgg]
 | str=>unfold Go.isAgg;simp[run_underlying h.str,Ty.isAgg]
 | slice e ih=>unfold Go.isAgg;obtain⟨_,h1,_⟩:=h.slice;simp[run_underlying h1,Ty.isAgg]
 | arr n e ih=>unfold Go.isAgg;obtain⟨_,h1,_⟩:=h.arr;simp[run_underlying h1,Ty.isAgg]
 | pair a b jE nr=>unfold Go.isAgg;obtain⟨_,h1,_⟩:=h.pair;simp[run_underlying h1,Ty.isAgg]
 | unit=>simp[Den,ff] at h
theorem Den.sizeOf{t:Ty}(h:Den P t tid)(w:World):(Go.sizeOf tid).run P w=.ok t.size w:=by
 obtain⟨i,z,h1,h2,_⟩:=h.info
 simp[Go.sizeOf,typeInfo,h1,h2]
theorem Den.zero{t:Ty}(h:Den P t tid)(w:World):∃z,(zeroValue tid).run P w=.ok z w∧z.cells.toList=eF t:=by
 obtain⟨i,z,h1,h2,h3,h4⟩:=h.info
 exact⟨z,by simp[zeroValue,typeInfo,h1,h3],h4⟩
theorem Den.cells{t:Ty}(h:Den P t tid):P.cellsOf tid=t.size:=by
 obtain⟨i,z,h1,h2,_⟩:=h.info
 simp[Program.cellsOf,h1,h2]
theorem pE.cons{a b:Ty}{off:Nat}{fs:List Field}(h:pE P (.pair a b) off fs) :
  ∃f r,fs=f::r∧f.offset=off∧f.name ≠ "_"∧Den P a f.type∧0<a.size∧pE P b (off+a.size) r:=by
 cases fs with
 | nil=>simp[pE,ff] at h
 | cons f r =>
   simp only[pE,ff,Bool.and_eq_true] at h
   obtain⟨⟨⟨⟨h1,h2⟩,h3⟩,h4⟩,h5⟩:=h
   exact⟨f,r,rfl,Nat.eq_of_beq_eq_true h1,by simpa using h2,h3,by simpa using h4,h5⟩
theorem pE.at{t:Ty}:∀{off:Nat} {fs:List Field} {k:Nat} {u:Ty} {o:Nat},pE P t off fs→tT t k=some u→iQ t k=some o →
  ∃f,fs[k]?=some f∧f.offset=off+o∧Den P u f.type∧0<u.size:=by
 induction t with
 | pair a b jE nr =>
   intro off fs k u o h hu ho
   obtain⟨f,r,rfl,h1,h2,h3,h4,h5⟩:=h.cons
   cases k with
   | zero =>
     simp only[tT,iQ,Option.some.injEq] at hu ho
     subst hu ho
     exact⟨f,rfl,by omega,h3,h4⟩
   | succ k =>
     simp only[tT,iQ] at hu ho
     cases hb:iQ b k with
     | none=>rw[hb] at ho;cases ho
     | some o' =>
       rw[hb] at ho
       simp only[Option.map_some,Option.some.injEq] at ho
       obtain⟨f',k1,k2,k3,k4⟩:=nr h5 hu hb
       exact⟨f',by simpa using k1,by omega,k3,k4⟩
 | _=>intro off fs k u o h hu ho;cases k<;>simp[tT] at hu
end
def nw.cells:nw→List Value
 | .dat t=>eF t
 | .buf _ _=>[.slice none 0 0]
 | _=>[.pointer none]
def HV:List nw→List Value
 | []=>[]
 | f::r=>f.cells++HV r
def ZC:List nw→Nat
 | []=>0
 | f::r=>f.size+ZC r
def Lr(P:Program):Nat→List nw→List Field→Bool
 | _,[],[]=>true
 | off,f::r,g::s=>Nat.beq g.offset off&&Nat.blt 0 f.size&&(match P.info? g.type with|some i=>Nat.beq i.size f.size|none=>false)&&Lr P (off+f.size) r s
 | _,_,_=>false
def Ka(P:Program)(tid:TypeId)(fs:List nw):Bool :=
 (match P.underlying tid with|some (.struct gs)=>Lr P 0 fs gs.toList|_=>false)&&Bo P tid (ZC fs) (HV fs)
theorem T6{P:Program}{tid:TypeId}{fs:List nw}(h:Ka P tid fs=true)(w:World):∃z,(zeroValue tid).run P w=.ok z w∧z.cells.toList=HV fs:=by
 simp only[Ka,Bool.and_eq_true] at h
 obtain⟨i,z,h1,h2,h3,h4⟩:=iS h.2
 exact⟨z,by simp[zeroValue,typeInfo,h1,h3],h4⟩
theorem VM{P:Program}:∀{fs:List nw} {gs:List Field} {off k o:Nat},Lr P off fs gs=true→xA fs k=some o→∃f i,gs[k]?=some f∧f.offset=off+o∧P.info? f.type=some i∧0<i.size:=by
 intro fs
 induction fs with
 | nil=>intro gs off k o h ho;cases ho
 | cons f r ih =>
   intro gs off k o h ho
   cases gs with
   | nil=>cases h
   | cons g s =>
     simp only[Lr,Bool.and_eq_true] at h
     obtain⟨⟨⟨h1,h2⟩,h3⟩,h4⟩:=h
     cases k with
     | zero =>
       obtain rfl:=Option.some.inj ho
       split at h3
       ·rename_i i hi
        have h3':=Nat.eq_of_beq_eq_true h3
        have h2':0<f.size:=by simpa using h2
        exact⟨g,i,rfl,by rw[Nat.eq_of_beq_eq_true h1];rfl,hi,by omega⟩
       ·cases h3
     | succ k =>
       simp only[xA] at ho
       split at ho
       ·rename_i o' ho'
        obtain rfl:=Option.some.inj ho
        obtain⟨f',i,k1,k2,k3,k4⟩:=ih h4 ho'
        exact⟨f',i,k1,by omega,k3,k4⟩
       ·cases ho
theorem Yl{P:Program}{tid:TypeId}{fs:List nw}{k o:Nat}(h:Ka P tid fs=true)(ho:xA fs k=some o):∃(gs:Array Field) (f:Field) (i:TypeInfo),P.underlying tid=some (.struct gs)∧gs.toList[k]?=some f∧f.offset=o∧P.info? f.type=some i∧0<i.size:=by
 simp only[Ka,Bool.and_eq_true] at h
 obtain⟨h1,_⟩:=h
 split at h1
 ·rename_i gs hg
  obtain⟨f,i,k1,k2,k3,k4⟩:=VM h1 ho
  exact⟨gs,f,i,hg,k1,by omega,k3,k4⟩
 ·cases h1
theorem Da{P:Program}:∀{fs:List nw} {gs:List Field} {off:Nat},Lr P off fs gs=true→∃pl:List (Nat×Nat),gs.mapM (fun f=>(P.info? f.type).map fun i=>(f.offset,i.size))=some pl ∧
  ∀k o f,xA fs k=some o→fs[k]?=some f→pl[k]?=some (off+o,f.size):=by
 intro fs
 induction fs with
 | nil =>
   intro gs off h
   cases gs with
   | nil=>exact⟨[],rfl,fun k o f _ hf=>by cases hf⟩
   | cons g s=>cases h
 | cons f r ih =>
   intro gs off h
   cases gs with
   | nil=>cases h
   | cons g s =>
     simp only[Lr,Bool.and_eq_true] at h
     obtain⟨⟨⟨h1,h2⟩,h3⟩,h4⟩:=h
     obtain⟨pl,p1,p2⟩:=ih h4
     split at h3
     ·rename_i i hi
      refine⟨(g.offset,i.size)::pl,by simp[hi,p1],fun k o q ho hq=>?_⟩
      cases k with
      | zero =>
        obtain rfl:=Option.some.inj ho
        obtain rfl:=Option.some.inj hq
        rw[List.getElem?_cons_zero,Nat.eq_of_beq_eq_true h1,Nat.eq_of_beq_eq_true h3]
        rfl
      | succ k =>
        simp only[xA] at ho
        split at ho
        ·rename_i o' ho'
         obtain rfl:=Option.some.inj ho
         have:=p2 k o' q ho' (by simpa using hq)
         rw[List.getElem?_cons_succ,this,Nat.add_assoc]
        ·cases ho
     ·cases h3
structure fC (P:Program) (cx:Ctx):Prop where
 T:∀tid t,find cx.T tid=some t→Den P t tid
 sE:∀tid,dJ cx.sE tid=true→(∀w,(isAgg tid).run P w=.ok false w)∧(∀w,(Go.sizeOf tid).run P w=.ok 1 w)∧∃z,(∀w,(zeroValue tid).run P w=.ok z w)∧z.oneCell'=true
 AX:∀tid,dJ cx.AX tid=true→∃e,P.underlying tid=some (.pointer e)
 fns:∀f fn,find cx.fns f=some fn→P.funcs[f]?=some fn
 sY:∀tid fs,find cx.sY tid=some fs→Ka P tid fs=true
 els:∀tid e,find cx.els tid=some e→P.underlying tid=some (.slice e)
theorem iu{o:Option Ty}{t:Ty}(h:EK o t=true):o=some t:=by
 unfold EK at h
 split at h
 ·rw[Ty.eq_of_beq h]
 ·cases h
theorem addr_add(b o n:Nat):Addr.add ⟨b,o,none⟩ n=⟨b,o+n,none⟩:=by
 unfold Addr.add;split<;>simp_all
def splice(l:List Value)(off:Nat)(c:List Value):List Value:=l.take off++c++l.drop (off+c.length)
theorem bO{l c:List Value}{off:Nat}(h:off+c.length≤l.length):(splice l off c).length=l.length:=by
 simp[splice];omega
theorem ld.same{cur cur':Array Value}{fr:Nat×Nat}(h:ld cur fr)(hs:cur'.size=cur.size):ld cur' fr:=fun o ho=>h o (by omega)
section
variable {P:Program}
theorem X2.same{e:Ty}{cur cur':Array Value}{fr:Nat×Nat}(h:X2 e cur fr)(hs:cur'.size=cur.size):X2 e cur' fr:=⟨h.th.same hs,fun he=>by rw[hs];exact h.um he⟩
theorem dn(g o:Nat)(t:TypeId)(fr:Nat×Nat):∀(vs:List Value) (i:Nat) (cur:Array Value) (w:World),w.heap[g]?=some (.cells cur t fr)→ld cur fr →
  o+i+vs.length≤cur.size→(∀v∈vs,v.oneCell'=true)→(storeCells ⟨g,o,none⟩ vs i).run P w=.ok () (w.setRow g (splice cur.toList (o+i) vs).toArray)
 | [],i,cur,w,hg,_,_,_=>by
   simp only[storeCells,splice,List.append_nil,List.length_nil,Nat.add_zero,List.take_append_drop,Array.toArray_toList]
   rw[setRow_self w g cur t fr hg]
   rfl
 | v::rest,i,cur,w,hg,HW,hl,h1=>by
   have hi:o+i<cur.size:=by simp at hl;omega
   have hcell:w.cell? ⟨g,o+i,none⟩=some cur[o+i]:=by simp[World.cell?,hg,hi]
   have adu:w.frozen? ⟨g,o+i,none⟩=false:=by
    have:=HW (o+i) hi
    simp only[World.frozen?,hg]
    obtain⟨a,b⟩:=fr
    simp only[Bool.and_eq_false_iff,decide_eq_false_iff_not]
    simp only at this
    omega
   have hst:(store ((⟨g,o,none⟩:Addr).add i) v).run P w=.ok () (w.setRow g (cur.setIfInBounds (o+i) v)):=by
    rw[addr_add,run_store P w _ v _ (h1 v (by simp)),hcell]
    simp[adu,setCell_eq_setRow w g (o+i) cur t fr v hg]
   have ih:=dn g o t fr rest (i+1) (cur.setIfInBounds (o+i) v) (w.setRow g (cur.setIfInBounds (o+i) v)) (setRow_heap w g cur _ t _ hg) (HW.same (by simp)) (by simp at hl⊢;omega) (fun x hx=>h1 x (by simp[hx]))
   simp only[storeCells,Sem.run_bind,hst,Result.andThen_ok,ih,setRow_setRow]
   congr 3
   have e:=list_seg_step cur.toList (o+i) v rest (by simp at hl⊢;omega)
   simpa [splice,Array.toList_setIfInBounds,Nat.add_assoc] using e
theorem cell_of_heap{w:World}{g:Nat}{cur:Array Value}{t:TypeId}{fr:Nat×Nat}(hg:w.heap[g]?=some (.cells cur t fr))(j:Nat):w.cell? ⟨g,j,none⟩=cur[j]?:=by
 simp[World.cell?,hg]
theorem AY{w:World}{g off n:Nat}{cur:Array Value}{t:TypeId}{fr:Nat×Nat}(hg:w.heap[g]?=some (.cells cur t fr))(h:off+n≤cur.size) :
  (loadCells ⟨g,off,none⟩ n).run P w=.ok ((cur.toList.drop off).take n).toArray w:=by
 have hl:((cur.toList.drop off).take n).length=n:=by simp;omega
 have:=run_loadCells_list (P:=P) w ⟨g,off,none⟩ ((cur.toList.drop off).take n) (fun j v hv=>by
  rw[addr_add,cell_of_heap hg]
  rw[List.getElem?_take] at hv
  split at hv
  ·rw[List.getElem?_drop] at hv;simpa using hv
  ·cases hv)
 rwa [hl] at this
theorem EU{w:World}{I:Nat→Nat→Prop}{g off:Nat}{cs:List Value}(h:C7 w I g off cs):(loadCells ⟨g,off,none⟩ cs.length).run P w=.ok cs.toArray w :=
 run_loadCells_list (P:=P) w ⟨g,off,none⟩ cs (fun j v hv=>by rw[addr_add];exact(h j v hv).1)
end
end Go.Ge
namespace Go.Ge
set_option linter.unusedVariables false
theorem gK{a b:Nat}(h:a≠b):Nat.beq a b=false:=by
 cases hb:Nat.beq a b
 ·rfl
 ·exact absurd (Nat.eq_of_beq_eq_true hb) h
theorem VN(a:Act)(d t:Nat)(v:Value)(hd:d<a.tmps.size):(a.put (some d) v).tmps.getD t undef=if t=d then v else a.tmps.getD t undef:=by
 simp only[Act.put,Array.getD_eq_getD_getElem?,Array.getElem?_setIfInBounds]
 by_cases h:d=t
 ·subst h;simp[hd]
 ·rw[if_neg h,if_neg (fun e=>h e.symm)]
theorem On(a:Act)(d:Option Nat)(v:Value):(a.put d v).tmps.size=a.tmps.size:=by cases d<;>simp[Act.put]
theorem put_defers(a:Act)(d:Option Nat)(v:Value):(a.put d v).defers=a.defers:=by cases d<;>rfl
section
variable {B:qz} {N:Nat} {γ γ':Gh} {σ:St} {a:Act} {w w':World} {mem':Nat→Option bU}
theorem cX.step(h:cX B N γ σ a w)(hx:Ext B γ σ.mem w γ' mem' w')(hm:bE B γ' mem' w'){d:Nat}(hd:d<N){v:aS}{val:Value}(hv:cw γ' mem' w' v .val [val]) :
  cX B N γ' ({ slots:=σ.slots,mem:=mem':St }.put d v) (a.put (some d) val) w' where
 slots:=fun t=>by
  rw[VN a d t val (by rw[h.size];exact hd)]
  simp only[St.put]
  by_cases e:t=d
  ·subst e;simpa using hv
  ·rw[if_neg e,gK e];exact(h.slots t).ext hx
 size:=by rw[On];exact h.size
 defers:=by rw[put_defers];exact h.defers
 ok:=hm
theorem cX.go(h:cX B N γ σ a w)(hx:Ext B γ σ.mem w γ' mem' w')(hm:bE B γ' mem' w'):cX B N γ' { slots:=σ.slots,mem:=mem' } a w' where
 slots:=fun t=>(h.slots t).ext hx
 size:=h.size
 defers:=h.defers
 ok:=hm
theorem cX.aU(h:cX B N γ σ a w)(hx:Ext B γ σ.mem w γ' mem' w')(hm:bE B γ' mem' w'){d:Option Nat}(hd:∀k,d=some k→k<N){v:aS}{val:Value}(hv:cw γ' mem' w' v .val [val]) :
  cX B N γ' ({ slots:=σ.slots,mem:=mem':St }.aU d v) (a.put d val) w':=by
 cases d with
 | none=>exact h.go hx hm
 | some d=>exact h.step hx hm (hd d rfl) hv
theorem cX.ua(h:cX B N γ σ a w){d:Option Nat}(hd:∀k,d=some k→k<N){v:aS}{val:Value}(hv:cw γ σ.mem w v .val [val]) :
 cX B N γ (σ.aU d v) (a.put d val) w:=h.aU (Ext.refl _ _ _ _) h.ok hd hv
end
theorem dP{γ:Gh}{mem:Nat→Option bU}{w:World}{t:Ty}{x:t.den}{v:Value}:cw γ mem w (.data t x) .val [v]↔∃cs,bG w γ.I t x cs∧v=cA t cs:=by
 simp only[cw,List.cons.injEq,and_true]
theorem T7(γ:Gh)(mem:Nat→Option bU)(w:World)(v:Value):cw γ mem w (HM v) .val [v]:=by
 unfold HM
 split
 ·rename_i k n
  cases hc:(decide (k.min≤n)&&decide (n≤k.max))
  ·exact⟨_,rfl⟩
  ·simp only[Bool.and_eq_true,decide_eq_true_eq] at hc
   exact⟨[.int k n],⟨rfl,hc.1,hc.2⟩,rfl⟩
 ·rename_i b;exact⟨[.bool b],rfl,rfl⟩
 ·rename_i s
  cases hc:Nat.ble s.data.toList.length 4294967296
  ·exact⟨_,rfl⟩
  ·refine⟨[.string s],⟨?_,?_⟩,rfl⟩
   ·obtain⟨⟨l⟩⟩:=s;rfl
   ·have:=Nat.le_of_ble_eq_true hc
    simp only[maxLen];omega
 ·rfl
 ·rfl
 ·rfl
 ·exact⟨_,rfl⟩
theorem cX.cJ{B:qz}{N:Nat}{γ:Gh}{σ:St}{a:Act}{w:World}(h:cX B N γ σ a w)(x:Operand):cw γ σ.mem w (cJ σ x) .val [a.eval x]:=by
 cases x with
 | tmp t=>exact h.slots t
 | const v=>exact T7 _ _ _ v
 | global g=>exact⟨_,rfl⟩
 | func f=>exact⟨#[],rfl,rfl,fun i b aC hc=>by simp at hc⟩
theorem cw.pP{γ:Gh}{mem:Nat→Option bU}{w:World}{v:aS}{x:Value}(h:cw γ mem w v .val [x])(hv:∀u,v≠.Ca u)(h0:v=.undef→x.oneCell'=true):cw γ mem w v .cells x.cells.toList:=by
 cases v with
 | undef=>exact⟨x,by cases x<;>first|rfl|(have:=h0 rfl;simp[Value.oneCell'] at this),h0 rfl⟩
 | data t y=>obtain⟨cs,h1,h2⟩:=dP.1 h;subst h2;show bG _ _ _ _ _;rw[qT h1];exact h1
 | nH=>obtain rfl:x=_:=by simpa [cw] using h
       rfl
 | qB=>obtain rfl:x=_:=by simpa [cw] using h
       rfl
 | rO=>obtain rfl:x=_:=by simpa [cw] using h
       rfl
 | uS b aC=>obtain⟨⟨v,h1,h2⟩,h3⟩:=h;simp at h1;subst h1;refine⟨⟨x,?_,h2⟩,?_⟩
            ·cases x<;>first|rfl|(simp[Value.oneCell'] at h2)
            ·obtain⟨bx,k1,k2,k3⟩:=h3
             exact⟨bx,k1,k2,fun e=>by
              obtain⟨blk,cap,j1,j2⟩:=k3 e
              refine⟨blk,cap,j1,?_⟩
              rcases j2 with j2|j2
              ·simp at j2;subst j2;exact .inl rfl
              ·simp at j2;subst j2;exact .inr rfl⟩
 | cell t y=>obtain⟨blk,off,cs,h1,h2,h3⟩:=h;simp at h1;subst h1;exact⟨blk,off,cs,rfl,h2,h3⟩
 | ptr b aC p=>obtain⟨⟨v,h1,h2⟩,h3⟩:=h;simp at h1;subst h1;refine⟨⟨x,?_,h2⟩,?_⟩
               ·cases x<;>first|rfl|(simp[Value.oneCell'] at h2)
               ·obtain⟨bx,k1,k2,k3⟩:=h3;exact⟨bx,k1,k2,fun e=>by obtain⟨blk,cap,j1,j2⟩:=k3 e;simp at j2;subst j2;exact⟨blk,cap,j1,rfl⟩⟩
 | whole b aC=>obtain⟨⟨v,h1,h2⟩,h3⟩:=h;simp at h1;subst h1;refine⟨⟨x,?_,h2⟩,?_⟩
               ·cases x<;>first|rfl|(simp[Value.oneCell'] at h2)
               ·obtain⟨bx,k1,k2,k3⟩:=h3
                exact⟨bx,k1,k2,fun e=>by
                 obtain⟨u,n,j1,j2,j3⟩:=k3 e
                 refine⟨u,n,j1,j2,?_⟩
                 rcases j3 with ⟨j3,j4⟩|⟨blk,cap,j3,j4⟩
                 ·simp at j4;subst j4;exact .inl ⟨j3,rfl⟩
                 ·simp at j4;subst j4;exact .inr ⟨blk,cap,j3,rfl⟩⟩
 | part b aC lo n=>obtain⟨⟨v,h1,h2⟩,h3⟩:=h;simp at h1;subst h1;refine⟨⟨x,?_,h2⟩,?_⟩
                   ·cases x<;>first|rfl|(simp[Value.oneCell'] at h2)
                   ·obtain⟨bx,k1,k2,k3⟩:=h3
                    exact⟨bx,k1,k2,fun e=>by
                     obtain⟨u,k,j1,j2,j3,j4,base,cap,j5,j6⟩:=k3 e
                     simp at j5;subst j5;exact⟨u,k,j1,j2,j3,j4,base,cap,rfl,j6⟩⟩
 | win b aC q e k lo n=>obtain⟨⟨v,h1,h2⟩,h3⟩:=h;simp at h1;subst h1;refine⟨⟨x,?_,h2⟩,?_⟩
                        ·cases x<;>first|rfl|(simp[Value.oneCell'] at h2)
                        ·obtain⟨bx,k1,k2,k3⟩:=h3
                         exact⟨bx,k1,k2,fun e=>by
                          obtain⟨j0,u,c,j1,j2,j3,j4,base,cap,j5,j6⟩:=k3 e
                          simp at j5;subst j5;exact⟨j0,u,c,j1,j2,j3,j4,base,cap,rfl,j6⟩⟩
 | fn f caps=>obtain⟨arr,h1,h2⟩:=h;simp at h1;subst h1;exact⟨arr,rfl,h2⟩
 | mix p q=>obtain⟨c1,c2,h1,h2,h3⟩:=h;simp at h1;subst h1;exact⟨c1,c2,by simp[Value.cells],h2,h3⟩
 | Ca u=>exact absurd rfl (hv u)
 | nl=>exact h.elim
theorem cw.length{γ:Gh}{mem:Nat→Option bU}{w:World}:∀{v:aS} {cs:List Value},cw γ mem w v .cells cs→cs.length=eN v:=by
 intro v
 induction v with
 | data t x=>intro cs h;exact bG.length h
 | mix a b jE nr=>intro cs h;obtain⟨c1,c2,rfl,h1,h2⟩:=h;rw[List.length_append,jE h1,nr h2];rfl
 | undef=>intro cs h;obtain⟨v,rfl,_⟩:=h;rfl
 | nH=>intro cs h;rw[show cs=_ from h];rfl
 | qB=>intro cs h;rw[show cs=_ from h];rfl
 | rO=>intro cs h;rw[show cs=_ from h];rfl
 | uS b aC=>intro cs h;obtain⟨⟨_,rfl,_⟩,_⟩:=h;rfl
 | cell t x=>intro cs h;obtain⟨_,_,_,rfl,_⟩:=h;rfl
 | ptr b aC p=>intro cs h;obtain⟨⟨_,rfl,_⟩,_⟩:=h;rfl
 | whole b aC=>intro cs h;obtain⟨⟨_,rfl,_⟩,_⟩:=h;rfl
 | part b aC lo n=>intro cs h;obtain⟨⟨_,rfl,_⟩,_⟩:=h;rfl
 | win b aC q e k lo n=>intro cs h;obtain⟨⟨_,rfl,_⟩,_⟩:=h;rfl
 | fn f caps=>intro cs h;obtain⟨_,rfl,_⟩:=h;rfl
 | Ca u ih=>intro cs h;exact h.elim
 | nl=>intro cs h;exact h.elim
theorem cw.one{γ:Gh}{mem:Nat→Option bU}{w:World}:∀{v:aS} {cs:List Value},cw γ mem w v .cells cs→∀c∈cs,c.oneCell'=true:=by
 intro v
 induction v with
 | data t x=>intro cs h;exact bG.one h
 | mix a b jE nr =>
   intro cs h c hc;obtain⟨c1,c2,rfl,h1,h2⟩:=h
   rcases List.mem_append.1 hc with hc|hc
   ·exact jE h1 c hc
   ·exact nr h2 c hc
 | undef=>intro cs h c hc;obtain⟨v,rfl,h1⟩:=h;simp at hc;subst hc;exact h1
 | nH=>intro cs h c hc;rw[show cs=_ from h] at hc;simp at hc;subst hc;rfl
 | qB=>intro cs h c hc;rw[show cs=_ from h] at hc;simp at hc;subst hc;rfl
 | rO=>intro cs h c hc;rw[show cs=_ from h] at hc;simp at hc;subst hc;rfl
 | uS b aC=>intro cs h c hc;obtain⟨⟨_,rfl,h1⟩,_⟩:=h;simp at hc;subst hc;exact h1
 | cell t x=>intro cs h c hc;obtain⟨_,_,_,rfl,_⟩:=h;simp at hc;subst hc;rfl
 | ptr b aC p=>intro cs h c hc;obtain⟨⟨_,rfl,h1⟩,_⟩:=h;simp at hc;subst hc;exact h1
 | whole b aC=>intro cs h c hc;obtain⟨⟨_,rfl,h1⟩,_⟩:=h;simp at hc;subst hc;exact h1
 | part b aC lo n=>intro cs h c hc;obtain⟨⟨_,rfl,h1⟩,_⟩:=h;simp at hc;subst hc;exact h1
 | win b aC q e k lo n=>intro cs h c hc;obtain⟨⟨_,rfl,h1⟩,_⟩:=h;simp at hc;subst hc;exact h1
 | fn f caps=>intro cs h c hc;obtain⟨_,rfl,_⟩:=h;simp at hc;subst hc;rfl
 | Ca u ih=>intro cs h;exact h.elim
 | nl=>intro cs h;exact h.elim
theorem rP{α:Type}{l:List α}{i:Int}{x:α}(h:idx l i=some x):0≤i∧l[i.toNat]?=some x:=by
 unfold idx at h
 split at h
 ·rename_i h0;exact⟨h0,h⟩
 ·cases h
theorem Cd{w:World}{I:Nat→Nat→Prop}:∀{t:Ty} {x:t.den} {cs:List Value} {k o:Nat} {u:aS},bG w I t x cs→oI t x k=some (o,u) →
  ∃(t':Ty) (y:t'.den),u=.data t' y∧tT t k=some t'∧iQ t k=some o∧o+t'.size≤cs.length∧bG w I t' y ((cs.drop o).take t'.size):=by
 intro t
 induction t with
 | pair a b jE nr =>
   intro x cs k o u h hk
   obtain⟨c1,c2,rfl,h1,h2⟩:=h
   cases k with
   | zero =>
     simp only[oI,Option.some.injEq,Prod.mk.injEq] at hk
     obtain⟨rfl,rfl⟩:=hk
     refine⟨a,x.1,rfl,rfl,rfl,by rw[List.length_append,h1.length];omega,?_⟩
     rw[List.drop_zero,←h1.length,List.take_left];exact h1
   | succ k =>
     simp only[oI] at hk
     cases hf:oI b x.2 k with
     | none=>rw[hf] at hk;cases hk
     | some r =>
       rw[hf] at hk
       simp only[Option.some.injEq,Prod.mk.injEq] at hk
       obtain⟨rfl,rfl⟩:=hk
       obtain⟨t',y,k1,k2,k3,k4,k5⟩:=nr h2 (show oI b x.2 k=some (r.1,r.2) from hf)
       refine⟨t',y,k1,k2,by simp[iQ,k3],by rw[List.length_append,h1.length];omega,?_⟩
       rw[←h1.length,←List.drop_drop,List.drop_left];exact k5
 | _=>intro x cs k o u h hk;cases k<;>simp[oI] at hk
theorem EV{γ:Gh}{mem:Nat→Option bU}{w:World}:∀{v:aS} {cs:List Value} {k o:Nat} {u:aS},cw γ mem w v .cells cs→lN v k=some (o,u) →
  o+eN u≤cs.length∧cw γ mem w u .cells ((cs.drop o).take (eN u)):=by
 intro v
 induction v with
 | data t x =>
   intro cs k o u h hk
   obtain⟨t',y,rfl,_,_,h1,h2⟩:=Cd (w:=w) h hk
   exact⟨h1,h2⟩
 | mix a b jE nr =>
   intro cs k o u h hk
   obtain⟨c1,c2,rfl,h1,h2⟩:=h
   cases k with
   | zero =>
     simp only[lN,Option.some.injEq,Prod.mk.injEq] at hk
     obtain⟨rfl,rfl⟩:=hk
     refine⟨by rw[List.length_append,h1.length];omega,?_⟩
     rw[List.drop_zero,←h1.length,List.take_left];exact h1
   | succ k =>
     simp only[lN] at hk
     cases hf:lN b k with
     | none=>rw[hf] at hk;cases hk
     | some r =>
       rw[hf] at hk
       simp only[Option.some.injEq,Prod.mk.injEq] at hk
       obtain⟨rfl,rfl⟩:=hk
       obtain⟨k4,k5⟩:=nr h2 (show lN b k=some (r.1,r.2) from hf)
       refine⟨by rw[List.length_append,h1.length];omega,?_⟩
       rw[←h1.length,←List.drop_drop,List.drop_left];exact k5
 | _=>intro cs k o u h hk;cases k<;>simp[lN] at hk
theorem HA{γ:Gh}{mem:Nat→Option bU}{w:World}{t:Ty}{v:aS}{z:t.den}{es:List Value}(h:toS t v=some z)(hv:cw γ mem w v .cells es):bG w γ.I t z es:=by
 cases v with
 | data u y =>
   obtain⟨e,e2⟩:=Ty.jP (show Ty.to u t y=some z from h)
   subst e;subst e2;exact hv
 | _=>cases h
theorem bind_some{α β:Type}{t:Tree α}{f:α→Tree β}{y:β}(h:(t.bind f).run=some y):∃x,t.run=some x∧(f x).run=some y:=by
 rw[Tree.run_bind] at h
 exact Option.bind_eq_some_iff.1 h
theorem b5{T α:Type}{o:Option T}{k:T→Tree α}{y:α}(h:(Tree.look o k).run=some y):∃x,o=some x∧(k x).run=some y:=by
 cases o with
 | none=>cases h
 | some x=>exact⟨x,rfl,h⟩
theorem cD{α:Type}{c:Bool}{t:Tree α}{y:α}(h:(Tree.need c t).run=some y):c=true∧t.run=some y:=by
 cases c with
 | false=>cases h
 | true=>exact⟨rfl,h⟩
theorem aD{α:Type}{c:Bool}{t:Tree α}{y:α}(h:(bif c then t else .fail).run=some y):c=true∧t.run=some y:=by
 cases c with
 | false=>cases h
 | true=>exact⟨rfl,h⟩
theorem fL{α:Type}{c:Bool}{t e:Tree α}{y:α}(h:(Tree.node c t e).run=some y):(bif c then t else e).run=some y:=by
 cases c<;>exact h
section
variable {γ:Gh} {mem:Nat→Option bU} {w:World}
theorem Oo:∀{t:Ty} {x:t.den} {cs:List Value} {k o:Nat} {u:aS} {y:t.den} {f:aS→Tree aS} {es:List Value},
  bG w γ.I t x cs→oI t x k=some (o,u)→(∀v,(f u).run=some v→cw γ mem w v .cells es)→(Hp t x k f).run=some y→es.length=eN u →
  bG w γ.I t y (splice cs o es):=by
 intro t
 induction t with
 | pair a b jE nr =>
   intro x cs k o u y f es h hk hf hs hl
   obtain⟨c1,c2,rfl,h1,h2⟩:=h
   cases k with
   | zero =>
     simp only[oI,Option.some.injEq,Prod.mk.injEq] at hk
     obtain⟨rfl,rfl⟩:=hk
     obtain⟨v,hf',hs⟩:=bind_some hs
     have he:=hf v hf'
     cases hv:toS a v with
     | none=>rw[hv] at hs;cases hs
     | some z =>
       rw[hv] at hs
       obtain rfl:=Option.some.inj hs
       simp only[eN] at hl
       refine⟨es,c2,?_,HA hv he,h2⟩
       simp only[splice,List.take_zero,List.nil_append,Nat.zero_add]
       rw[show es.length=c1.length by rw[hl,h1.length],List.drop_left]
   | succ k =>
     simp only[oI] at hk
     cases ZZ:oI b x.2 k with
     | none=>rw[ZZ] at hk;cases hk
     | some r =>
       rw[ZZ] at hk
       simp only[Option.some.injEq,Prod.mk.injEq] at hk
       obtain⟨rfl,rfl⟩:=hk
       obtain⟨z,hq,hs⟩:=bind_some hs
       obtain rfl:=Option.some.inj hs
       have:=nr h2 (show oI b x.2 k=some (r.1,r.2) from ZZ) hf hq hl
       refine⟨c1,splice c2 r.1 es,?_,h1,this⟩
       simp only[splice,←h1.length,List.take_length_add_append,List.append_assoc]
       congr 1;congr 1;congr 1
       rw[Nat.add_assoc,←List.drop_drop,List.drop_left]
 | _=>intro x cs k o u y f es h hk;cases k<;>simp[oI] at hk
theorem HX:∀{v0:aS} {cs:List Value} {k o:Nat} {u c:aS} {f:aS→Tree aS} {es:List Value},
  cw γ mem w v0 .cells cs→lN v0 k=some (o,u)→(∀v,(f u).run=some v→cw γ mem w v .cells es)→(EJ v0 k f).run=some c→es.length=eN u →
  cw γ mem w c .cells (splice cs o es):=by
 intro v0
 induction v0 with
 | data t x =>
   intro cs k o u c f es h hk hf hs hl
   obtain⟨y,hy,hs⟩:=bind_some hs
   obtain rfl:=Option.some.inj hs
   exact Oo h hk hf hy hl
 | mix a b jE nr =>
   intro cs k o u c f es h hk hf hs hl
   obtain⟨c1,c2,rfl,h1,h2⟩:=h
   cases k with
   | zero =>
     simp only[lN,Option.some.injEq,Prod.mk.injEq] at hk
     obtain⟨rfl,rfl⟩:=hk
     obtain⟨v,hf',hs⟩:=bind_some hs
     have he:=hf v hf'
     obtain rfl:=Option.some.inj hs
     refine⟨es,c2,?_,he,h2⟩
     simp only[splice,List.take_zero,List.nil_append,Nat.zero_add]
     rw[show es.length=c1.length by rw[hl,h1.length],List.drop_left]
   | succ k =>
     simp only[lN] at hk
     cases ZZ:lN b k with
     | none=>rw[ZZ] at hk;cases hk
     | some r =>
       rw[ZZ] at hk
       simp only[Option.some.injEq,Prod.mk.injEq] at hk
       obtain⟨rfl,rfl⟩:=hk
       obtain⟨z,hq,hs⟩:=bind_some hs
       obtain rfl:=Option.some.inj hs
       have:=nr h2 (show lN b k=some (r.1,r.2) from ZZ) hf hq hl
       refine⟨c1,splice c2 r.1 es,?_,h1,this⟩
       simp only[splice,←h1.length,List.take_length_add_append,List.append_assoc]
       congr 1;congr 1;congr 1
       rw[Nat.add_assoc,←List.drop_drop,List.drop_left]
 | _=>intro cs k o u c f es h hk;cases k<;>simp[lN] at hk
theorem xG:∀{p:List FK} {v u:aS} {cs:List Value},cw γ mem w v .cells cs→(VA p v).run=some u→cQ p+eN u≤cs.length∧cw γ mem w u .cells ((cs.drop (cQ p)).take (eN u)):=by
 intro p
 induction p with
 | nil =>
   intro v u cs h hn
   obtain rfl:=Option.some.inj hn
   have hl:=h.length
   refine⟨by simp[cQ];omega,?_⟩
   rw[show cQ []=0 from rfl,List.drop_zero,←hl,List.take_length];exact h
 | cons s p ih =>
   intro v u cs h hn
   cases s with
   | fJ k off =>
     simp only[VA] at hn
     cases hf:lN v k with
     | none=>rw[hf] at hn;cases hn
     | some r =>
       rw[hf] at hn
       obtain⟨hb,hn2⟩:=aD hn
       have hoff:=Nat.eq_of_beq_eq_true hb
       obtain⟨h1,h2⟩:=EV h (show lN v k=some (r.1,r.2) from hf)
       obtain⟨h3,h4⟩:=ih h2 hn2
       have hl:=h2.length
       simp only[cQ,←hoff]
       rw[hl] at h3
       refine⟨by omega,?_⟩
       rw[List.drop_take,List.take_take,List.drop_drop,Nat.min_eq_left (by omega)] at h4
       exact h4
   | idx i size =>
     simp only[VA] at hn
     split at hn
     ·rename_i n e l
      obtain⟨hb,hn2⟩:=aD hn
      have hsz:=Nat.eq_of_beq_eq_true hb
      obtain⟨x,hx,Ym⟩:=b5 hn2
      obtain⟨h0,hx2⟩:=rP hx
      obtain⟨k1,k2,k3⟩:=h
      have hr:=k3 _ x hx2
      obtain⟨h3,h4⟩:=ih (v:=.data e x) (show cw γ mem w (.data e x) .cells _ from hr) Ym
      have hl:=hr.length
      have hi:i.toNat<n:=by have:=(List.getElem?_eq_some_iff.1 hx2).1;omega
      have hm:(i.toNat+1)*e.size≤n*e.size:=Nat.mul_le_mul_right _ hi
      rw[Nat.succ_mul] at hm
      rw[hl] at h3
      simp only[cQ,hsz]
      refine⟨by omega,?_⟩
      rw[List.drop_take,List.take_take,List.drop_drop,Nat.min_eq_left (by omega)] at h4
      exact h4
     ·cases hn
theorem qU(cs:List Value)(a b:Nat)(n:Nat)(es:List Value)(h:b+es.length≤n)(hn:a+n≤cs.length) :
  splice cs a (splice ((cs.drop a).take n) b es)=splice cs (a+b) es:=by
 have hl:((cs.drop a).take n).length=n:=by simp;omega
 have hls:(splice ((cs.drop a).take n) b es).length=n:=by rw[bO (by omega),hl]
 have e1:splice cs a (splice ((cs.drop a).take n) b es)=cs.take a++splice ((cs.drop a).take n) b es++cs.drop (a+n):=by
  rw[splice,hls]
 rw[e1]
 simp only[splice,List.append_assoc]
 rw[List.take_take,Nat.min_eq_left (by omega),←List.append_assoc,←List.take_add]
 congr 1;congr 1
 have:cs.drop (a+n)=(cs.drop a).drop n:=by rw[List.drop_drop]
 rw[this,←List.drop_append_of_le_length (by rw[hl];exact h),List.take_append_drop,List.drop_drop,Nat.add_assoc]
theorem HY{I:Nat→Nat→Prop}{e:Ty}{n:Nat}{l:List e.den}{cs es:List Value}{i:Nat}{y:e.den}(hl:l.length=n)(hc:n*e.size≤cs.length)
  (h:∀(j:Nat) (x:e.den),l[j]?=some x→bG w I e x ((cs.drop (j*e.size)).take e.size)) (hi:i<n) (hy:bG w I e y es) :
  ∀(j:Nat) (x:e.den),(l.set i y)[j]?=some x→bG w I e x (((splice cs (i*e.size) es).drop (j*e.size)).take e.size):=by
 intro j x hx
 have hel:=hy.length
 have hm:(i+1)*e.size≤n*e.size:=Nat.mul_le_mul_right _ hi
 rw[Nat.succ_mul] at hm
 have htl:(cs.take (i*e.size)).length=i*e.size:=by rw[List.length_take];omega
 rw[List.getElem?_set] at hx
 split at hx
 ·rename_i hij
  subst hij
  split at hx
  ·obtain rfl:=Option.some.inj hx
   have:((splice cs (i*e.size) es).drop (i*e.size)).take e.size=es:=by
    rw[splice,List.append_assoc]
    conv=>lhs;arg 2;arg 1;rw[←htl]
    rw[htl,List.drop_left' htl,←hel,List.take_left]
   rw[this];exact hy
  ·cases hx
 ·rename_i hij
  have hj:j<n:=by have:=(List.getElem?_eq_some_iff.1 hx).1;omega
  have hmj:(j+1)*e.size≤n*e.size:=Nat.mul_le_mul_right _ hj
  rw[Nat.succ_mul] at hmj
  have key:((splice cs (i*e.size) es).drop (j*e.size)).take e.size=(cs.drop (j*e.size)).take e.size:=by
   apply List.ext_getElem?
   intro q
   rw[List.getElem?_take,List.getElem?_take]
   split
   ·rename_i hq
    rw[List.getElem?_drop,List.getElem?_drop,splice]
    rcases Nat.lt_or_ge j i with h1|h1
    ·have:(j+1)*e.size≤i*e.size:=Nat.mul_le_mul_right _ h1
     rw[Nat.succ_mul] at this
     rw[List.append_assoc,List.getElem?_append_left (by omega),List.getElem?_take,if_pos (by omega)]
    ·have:(i+1)*e.size≤j*e.size:=Nat.mul_le_mul_right _ (by omega)
     rw[Nat.succ_mul] at this
     rw[List.getElem?_append_right (by rw[List.length_append];omega),List.getElem?_drop,List.length_append,htl]
     congr 1;omega
   ·rfl
  rw[key];exact h j x hx
theorem Ce:∀{p:List FK} {v u0 u c:aS} {cs es:List Value},cw γ mem w v .cells cs→(VA p v).run=some u0→(xy p v u).run=some c→cw γ mem w u .cells es→es.length=eN u0 →
  cw γ mem w c .cells (splice cs (cQ p) es):=by
 intro p
 induction p with
 | nil =>
   intro v u0 u c cs es h hn hs he hl
   obtain rfl:=Option.some.inj hn
   obtain rfl:=Option.some.inj hs
   have:=h.length
   simp only[cQ,splice,List.take_zero,List.nil_append,Nat.zero_add]
   rw[List.drop_of_length_le (by omega),List.append_nil];exact he
 | cons s p ih =>
   intro v u0 u c cs es h hn hs he hl
   cases s with
   | fJ k off =>
     simp only[VA] at hn
     cases hf:lN v k with
     | none=>rw[hf] at hn;cases hn
     | some r =>
       rw[hf] at hn
       obtain⟨hb,hn2⟩:=aD hn
       have hoff:=Nat.eq_of_beq_eq_true hb
       obtain⟨h1,h2⟩:=EV h (show lN v k=some (r.1,r.2) from hf)
       obtain⟨h3,h4⟩:=xG h2 hn2
       have Hv:=h2.length
       rw[Hv] at h3
       have:=HX (f:=fun w=>xy p w u) h (show lN v k=some (r.1,r.2) from hf) (fun z hq=>ih (u:=u) h2 hn2 hq he hl) hs (by rw[bO (by rw[Hv,hl];exact h3),Hv])
       rw[qU cs r.1 (cQ p) (eN r.2) es (by omega) h1,hoff] at this
       exact this
   | idx i size =>
     simp only[VA] at hn
     split at hn
     ·rename_i n e l
      obtain⟨hb,hn2⟩:=aD hn
      have hsz:=Nat.eq_of_beq_eq_true hb
      obtain⟨x,hx,Ym⟩:=b5 hn2
      simp only[xy] at hs
      obtain⟨x',hx',hs2⟩:=b5 hs
      obtain rfl:x=x':=Option.some.inj (hx.symm.trans hx')
      obtain⟨z,hq,hs3⟩:=bind_some hs2
      cases hz:toS e z with
      | none=>rw[hz] at hs3;cases hs3
      | some y =>
        rw[hz] at hs3
        obtain rfl:=Option.some.inj hs3
        obtain⟨h0,hx2⟩:=rP hx
        obtain⟨k1,k2,k3⟩:=h
        have hr:=k3 _ x hx2
        have hi:i.toNat<n:=by have:=(List.getElem?_eq_some_iff.1 hx2).1;omega
        have hm:(i.toNat+1)*e.size≤n*e.size:=Nat.mul_le_mul_right _ hi
        rw[Nat.succ_mul] at hm
        have hrr:cw γ mem w (.data e x) .cells ((cs.drop (i.toNat*e.size)).take e.size):=hr
        obtain⟨h3,h4⟩:=xG hrr Ym
        have hrl:=hr.length
        rw[hrl] at h3
        have hzz:=HA hz (ih hrr Ym hq he hl)
        have VB:(splice ((cs.drop (i.toNat*e.size)).take e.size) (cQ p) es).length=e.size:=by rw[bO (by rw[hrl,hl];exact h3),hrl]
        have e1:=qU cs (i.toNat*e.size) (cQ p) e.size es (by omega) (by omega)
        simp only[cQ,hsz]
        rw[←e1]
        refine⟨?_,?_,?_⟩
        ·exact(@List.length_set _ (l:List e.den) _ _).trans k1
        ·rw[bO (by omega)];exact k2
        ·exact HY k1 (by omega) k3 hi hzz
     ·cases hn
end
end Go.Ge
namespace Go.Ge
set_option linter.unusedVariables false
open RowKit
section
variable {B:qz} {γ γ':Gh} {mem mem':Nat→Option bU} {w w':World}
theorem cP.keep{c:Nat}{bx:bU}(h:cP γ mem w c bx)(hx:Ext B γ mem w γ' mem' w')(hl:γ'.loc c=γ.loc c)
  (hb:∀blk k,γ.loc c=some (blk,k)→w'.heap[blk]?=w.heap[blk]?):cP γ' mem' w' c bx:=by
 unfold cP at h⊢
 cases bK:bx.buf with
 | true =>
   rw[bK] at h
   obtain⟨e,l,h1,h2,h3⟩:=h
   refine⟨e,l,h1,h2,?_⟩
   rcases h3 with ⟨h3,h4⟩|⟨blk,cap,cur,tid,fr,h3,h4,h5,iq,h6,h7,h8,h9⟩
   ·exact .inl ⟨hl.trans h3,h4⟩
   ·exact .inr ⟨blk,cap,cur,tid,fr,hl.trans h3,(hb _ _ h3).trans h4,h5,iq,h6,h7,h8,fun i x hi=>bG.mono hx.I hx.cells (h9 i x hi)⟩
 | false =>
   rw[bK] at h
   obtain⟨blk,cap,cur,tid,fr,h3,h4,h5,hk,h6⟩:=h
   exact⟨blk,cap,cur,tid,fr,hl.trans h3,(hb _ _ h3).trans h4,h5,hk,h6.ext hx⟩
theorem cR{a:Addr}(h:w'.heap[a.block]?=w.heap[a.block]?):w'.cell? a=w.cell? a:=by simp[World.cell?,h]
def bI(γ:Gh)(b:Nat)(L:Option (Nat×Nat)):Gh:={ γ with loc:=fun i=>if i=b then L else γ.loc i }
def cE(mem:Nat→Option bU)(b:Nat)(bx:bU):Nat→Option bU:=fun i=>bif Nat.beq i b then some bx else mem i
theorem bA(b:Nat)(bx:bU):cE mem b bx b=some bx:=by simp[cE]
theorem aP{b c:Nat}(bx:bU)(h:c≠b):cE mem b bx c=mem c:=by simp[cE,gK h]
theorem tc(h:bE B γ mem w){b:Nat}{bx:bU}{L:Option (Nat×Nat)}(bt:∀dh,mem b=some dh→dh.aC<bx.aC)
  (hw:tZ B w w') (hold:∀k,k<w.heap.size→w'.heap[k]?=w.heap[k]?):Ext B γ mem w (bI γ b L) (cE mem b bx) w' where
 below:=hw
 I:=fun _ _ x=>x
 pO:=fun _ _ x=>.inl x
 cells:=fun blk o x=>cR (hold blk (h.sU blk o x))
 boxes:=fun c cx hc=>by
  by_cases e:c=b
  ·subst e
   refine⟨bx,bA _ _,Nat.le_of_lt (bt _ hc),fun e=>absurd e ?_⟩
   have:=bt _ hc;omega
  ·exact⟨cx,by rw[aP _ e];exact hc,Nat.le_refl _,fun _=>⟨by simp[bI,e],rfl,rfl⟩⟩
theorem bE.add(h:bE B γ mem w){b:Nat}{bx:bU}{L:Option (Nat×Nat)}(bt:∀dh,mem b=some dh→dh.aC<bx.aC)
  (hw:tZ B w w') (hold:∀k,k<w.heap.size→w'.heap[k]?=w.heap[k]?) (hL:∀blk k,L=some (blk,k)→w.heap.size≤blk∧blk<w'.heap.size)
  (jj:cP (bI γ b L) (cE mem b bx) w' b bx):bE B (bI γ b L) (cE mem b bx) w' where
 bg:=h.C8 (tc (L:=L) h bt hw hold)
 base:=Nat.le_trans h.base hw.size
 boxes:=fun c cx hc=>by
  by_cases e:c=b
  ·subst e
   rw[bA] at hc
   obtain rfl:=Option.some.inj hc
   exact jj
  ·rw[aP _ e] at hc
   refine(h.boxes c cx hc).keep (tc h bt hw hold) (by simp[bI,e]) fun blk k hl=>hold blk (h.fresh c blk k (by rw[hc];simp) hl).2
 inj:=fun c d blk k k' hc hd h1 h2=>by
  by_cases e:c=b
  ·by_cases e2:d=b
   ·rw[e,e2]
   ·exfalso
    simp only[bI,if_pos e] at h1
    simp only[bI,if_neg e2] at h2
    rw[aP _ e2] at hd
    have:=(h.fresh d blk k' hd h2).2
    have:=(hL _ _ h1).1
    omega
  ·by_cases e2:d=b
   ·exfalso
    simp only[bI,if_neg e] at h1
    simp only[bI,if_pos e2] at h2
    rw[aP _ e] at hc
    have:=(h.fresh c blk k hc h1).2
    have:=(hL _ _ h2).1
    omega
   ·simp only[bI,if_neg e] at h1
    simp only[bI,if_neg e2] at h2
    rw[aP _ e] at hc
    rw[aP _ e2] at hd
    exact h.inj c d blk k k' hc hd h1 h2
 fresh:=fun c blk k hc h1=>by
  by_cases e:c=b
  ·simp only[bI,if_pos e] at h1
   obtain⟨h2,h3⟩:=hL _ _ h1
   exact⟨.inl (by have:=h.base;omega),h3⟩
  ·simp only[bI,if_neg e] at h1
   rw[aP _ e] at hc
   have:=h.fresh c blk k hc h1
   exact⟨this.1,Nat.lt_of_lt_of_le this.2 hw.size⟩
 sU:=fun blk off hi=>Nat.lt_of_lt_of_le (h.sU blk off hi) hw.size
 sep:=fun c cx blk k off hc h1 hi=>by
  by_cases e:c=b
  ·exfalso
   simp only[bI,if_pos e] at h1
   have:=(hL _ _ h1).1
   have:=h.sU blk off hi
   omega
  ·simp only[bI,if_neg e] at h1
   rw[aP _ e] at hc
   exact h.sep c cx blk k off hc h1 hi
theorem cK(w:World)(o:Obj):∀k,k<w.heap.size→(w.alloc o).heap[k]?=w.heap[k]?:=fun k hk=>Below.heap_alloc w o k hk
theorem rQ(cs:Array Value):ld cs (0,0):=fun o _ h=>by omega
theorem wD(e:Ty)(cs:Array Value):X2 e cs (0,0):=⟨rQ cs,fun _ h=>by omega⟩
theorem bE.newVar(h:bE B γ mem w){b:Nat}{v:aS}{tid:TypeId}{aC:Nat}(bt:∀dh,mem b=some dh→dh.aC<aC){cs:Array Value}(t':TypeId)(iq:tid=0∨t'=tid)(hv:cw γ mem w v .cells cs.toList) :
  let bx:bU:={ val:=v,tid,buf:=false,ro:=false,lk:=false,aC }
  bE B (bI γ b (some (w.heap.size,0))) (cE mem b bx) (w.alloc (.cells cs t'))∧Ext B γ mem w (bI γ b (some (w.heap.size,0))) (cE mem b bx) (w.alloc (.cells cs t')):=by
 intro bx
 have hw:tZ B w (w.alloc (.cells cs t')):=(tZ.refl _ _).alloc h.base _
 have hx:=tc (L:=some (w.heap.size,0)) h (bx:=bx) bt hw (cK w _)
 refine⟨h.add bt hw (cK w _) (fun blk k e=>by obtain⟨rfl,rfl⟩:=Prod.mk.inj (Option.some.inj e);exact⟨Nat.le_refl _,by simp⟩) ?_,hx⟩
 exact⟨w.heap.size,0,cs,t',(0,0),by simp[bI],heap_alloc_new w _,rQ cs,iq,hv.ext hx⟩
theorem bE.VO(h:bE B γ mem w){b:Nat}{e:Ty}{l:List e.den}{tid:TypeId}{aC cap blk:Nat}(bt:∀dh,mem b=some dh→dh.aC<aC){cs:Array Value}{t':TypeId}{fr:Nat×Nat}(he:0<e.size)
  (hw:tZ B w w') (hold:∀k,k<w.heap.size→w'.heap[k]?=w.heap[k]?) (hge:w.heap.size≤blk) (hnew:w'.heap[blk]?=some (.cells cs t' fr)) (HW:X2 e cs fr) (iq:tid=0∨t'=tid)
  (h1:l.length≤cap) (h2:cap≤maxLen) (h3:cs.size=cap*e.size) (h4:∀(i:Nat) (x:e.den),l[i]?=some x→bG w' γ.I e x ((cs.toList.drop (i*e.size)).take e.size)) :
  let bx:bU:={ val:=.data (.slice e) l,tid,buf:=true,ro:=false,lk:=false,aC }
  bE B (bI γ b (some (blk,cap))) (cE mem b bx) w'∧Ext B γ mem w (bI γ b (some (blk,cap))) (cE mem b bx) w':=by
 intro bx
 have hlt:blk<w'.heap.size:=(Array.getElem?_eq_some_iff.1 hnew).1
 have hx:=tc (L:=some (blk,cap)) h (bx:=bx) bt hw hold
 refine⟨h.add bt hw hold (fun c k q=>by obtain⟨rfl,rfl⟩:=Prod.mk.inj (Option.some.inj q);exact⟨hge,hlt⟩) ?_,hx⟩
 exact⟨e,l,rfl,he,.inr ⟨blk,cap,cs,t',fr,by simp[bI],hnew,HW,iq,h1,h2,h3,h4⟩⟩
theorem bE.My(h:bE B γ mem w){b:Nat}{e:Ty}{l:List e.den}{tid:TypeId}{aC cap:Nat}(bt:∀dh,mem b=some dh→dh.aC<aC){cs:Array Value}{t':TypeId}{fr:Nat×Nat}(he:0<e.size)
  (hw:tZ B w w') (hold:∀k,k<w.heap.size→w'.heap[k]?=w.heap[k]?) (hnew:w'.heap[w.heap.size]?=some (.cells cs t' fr)) (HW:X2 e cs fr) (iq:tid=0∨t'=tid)
  (h1:l.length≤cap) (h2:cap≤maxLen) (h3:cs.size=cap*e.size) (h4:∀(i:Nat) (x:e.den),l[i]?=some x→bG w γ.I e x ((cs.toList.drop (i*e.size)).take e.size)) :
  let bx:bU:={ val:=.data (.slice e) l,tid,buf:=true,ro:=false,lk:=false,aC }
  bE B (bI γ b (some (w.heap.size,cap))) (cE mem b bx) w'∧Ext B γ mem w (bI γ b (some (w.heap.size,cap))) (cE mem b bx) w' :=
 h.VO bt he hw hold (Nat.le_refl _) hnew HW iq h1 h2 h3 fun i x hi =>
  bG.mono (fun _ _ q=>q) (fun blk o q=>cR (hold blk (h.sU blk o q))) (h4 i x hi)
theorem bE.HZ(h:bE B γ mem w){b:Nat}{e:Ty}{tid:TypeId}{aC:Nat}(bt:∀dh,mem b=some dh→dh.aC<aC)(he:0<e.size) :
  let bx:bU:={ val:=.data (.slice e) ([]:List e.den),tid,buf:=true,ro:=false,lk:=false,aC }
  bE B (bI γ b none) (cE mem b bx) w∧Ext B γ mem w (bI γ b none) (cE mem b bx) w:=by
 intro bx
 have hx:=tc (L:=none) h (bx:=bx) bt (tZ.refl B w) (fun _ _=>rfl)
 refine⟨h.add bt (tZ.refl B w) (fun _ _=>rfl) (fun blk k e=>by cases e) ?_,hx⟩
 exact⟨e,[],rfl,he,.inl ⟨by simp[bI],rfl⟩⟩
theorem Db{bx:bU}{off:Nat}(h:Q4 bx off)(hro:bx.ro=false):False:=by rw[Q4,hro] at h;exact absurd h.1 (by simp)
theorem bE.write(h:bE B γ mem w){b:Nat}{bx:bU}(hb:mem b=some bx)(hro:bx.ro=false){blk k:Nat}(hl:γ.loc b=some (blk,k)){cur cur':Array Value}{t:TypeId}{fr:Nat×Nat}
  (hg:w.heap[blk]?=some (.cells cur t fr)) (hs:cur'.size=cur.size) {v:aS} (hrow:({ bx with val:=v }:bU).row=bx.row)
  (jj:∀w' mem',Ext B γ mem w γ mem' w'→w'.heap[blk]?=some (.cells cur' t fr)→cP γ mem' w' b { bx with val:=v }) :
  bE B γ (cE mem b { bx with val:=v }) (w.setRow blk cur')∧Ext B γ mem w γ (cE mem b { bx with val:=v }) (w.setRow blk cur'):=by
 have hf:=h.fresh b blk k (by rw[hb];simp) hl
 have hblk:=setRow_heap w blk cur cur' t fr hg
 have vB:∀i,i≠blk→(w.setRow blk cur').heap[i]?=w.heap[i]?:=fun i hi=>setRow_other w blk i cur' (fun e=>hi e)
 have hx:Ext B γ mem w γ (cE mem b { bx with val:=v }) (w.setRow blk cur') :=
  { below:=⟨rfl,rfl,rfl,by simp,fun i hi=>vB i (fun e=>hi (by rw[e];exact hf.1))⟩
    I:=fun _ _ x=>x
    pO:=fun _ _ x=>.inl x
    cells:=fun c o x=>by
     by_cases e:c=blk
     ·subst e;exact(Db (h.sep b bx c k o hb hl x) hro).elim
     ·exact cR (vB c e)
    boxes:=fun c cx hc=>by
     by_cases e:c=b
     ·subst e
      obtain rfl:cx=bx:=Option.some.inj (hc.symm.trans hb)
      exact⟨_,bA _ _,Nat.le_refl _,fun _=>⟨rfl,rfl,hrow⟩⟩
     ·exact⟨cx,by rw[aP _ e];exact hc,Nat.le_refl _,fun _=>⟨rfl,rfl,rfl⟩⟩ }
 refine⟨?_,hx⟩
 exact
  { bg:=h.C8 hx
    base:=by have:=h.base;simpa using this
    boxes:=fun c cx hc=>by
     by_cases e:c=b
     ·subst e
      rw[bA] at hc
      obtain rfl:=Option.some.inj hc
      exact jj _ _ hx hblk
     ·rw[aP _ e] at hc
      refine(h.boxes c cx hc).keep hx rfl fun dF k' hl'=>vB dF fun e2=>e ?_
      subst e2
      exact h.inj c b dF k' k (by rw[hc];simp) (by rw[hb];simp) hl' hl
    inj:=fun c d dF k1 k2 hc hd h1 h2=>h.inj c d dF k1 k2 (by
     by_cases e:c=b
     ·subst e;rw[hb];simp
     ·rwa [aP _ e] at hc) (by
     by_cases e:d=b
     ·subst e;rw[hb];simp
     ·rwa [aP _ e] at hd) h1 h2
    fresh:=fun c dF k' hc h1=>by
     have:=h.fresh c dF k' (by
      by_cases e:c=b
      ·subst e;rw[hb];simp
      ·rwa [aP _ e] at hc) h1
     exact⟨this.1,by simpa using this.2⟩
    sU:=fun dF off hi=>by have:=h.sU dF off hi;simpa using this
    sep:=fun c cx dF k' off hc h1 hi=>by
     by_cases e:c=b
     ·subst e
      rw[hl] at h1
      obtain⟨rfl,rfl⟩:=Prod.mk.inj (Option.some.inj h1)
      exact(Db (h.sep c bx blk k off hb hl hi) hro).elim
     ·rw[aP _ e] at hc
      exact h.sep c cx dF k' off hc h1 hi }
def H6(γ:Gh)(b:Nat)(n:Nat):Gh:={ γ with I:=fun blk off=>γ.I blk off∨((∃k,γ.loc b=some (blk,k))∧off<n) }
theorem bE.freeze(h:bE B γ mem w){b:Nat}{bx:bU}(hb:mem b=some bx){e:Ty}{n:Nat}(hrow:bx.row=some (e,n)) :
  bE B (H6 γ b (n*e.size)) (cE mem b { bx with ro:=true }) w∧Ext B γ mem w (H6 γ b (n*e.size)) (cE mem b { bx with ro:=true }) w:=by
 have hx:Ext B γ mem w (H6 γ b (n*e.size)) (cE mem b { bx with ro:=true }) w :=
  { below:=tZ.refl _ _
    I:=fun _ _ x=>.inl x
    pO:=fun blk o x=>by
     rcases x with x|⟨⟨k,x⟩,_⟩
     ·exact .inl x
     ·exact .inr (h.fresh b blk k (by rw[hb];simp) x).1
    cells:=fun _ _ _=>rfl
    boxes:=fun c cx hc=>by
     by_cases e:c=b
     ·subst e
      obtain rfl:cx=bx:=Option.some.inj (hc.symm.trans hb)
      exact⟨_,bA _ _,Nat.le_refl _,fun _=>⟨rfl,rfl,rfl⟩⟩
     ·exact⟨cx,by rw[aP _ e];exact hc,Nat.le_refl _,fun _=>⟨rfl,rfl,rfl⟩⟩ }
 refine⟨?_,hx⟩
 exact
  { bg:=h.C8 hx
    base:=h.base
    boxes:=fun c cx hc=>by
     by_cases e:c=b
     ·subst e
      rw[bA] at hc
      obtain rfl:=Option.some.inj hc
      have:=(h.boxes c bx hb).keep hx rfl (fun _ _ _=>rfl)
      exact this
     ·rw[aP _ e] at hc
      exact(h.boxes c cx hc).keep hx rfl (fun _ _ _=>rfl)
    inj:=fun c d dF k1 k2 hc hd h1 h2=>h.inj c d dF k1 k2 (by
     by_cases e:c=b
     ·subst e;rw[hb];simp
     ·rwa [aP _ e] at hc) (by
     by_cases e:d=b
     ·subst e;rw[hb];simp
     ·rwa [aP _ e] at hd) h1 h2
    fresh:=fun c dF k' hc h1=>h.fresh c dF k' (by
     by_cases e:c=b
     ·subst e;rw[hb];simp
     ·rwa [aP _ e] at hc) h1
    sU:=fun dF off hi=>by
     rcases hi with hi|⟨⟨k,hk⟩,_⟩
     ·exact h.sU dF off hi
     ·exact(h.fresh b dF k (by rw[hb];simp) hk).2
    sep:=fun c cx dF k' off hc h1 hi=>by
     by_cases e':c=b
     ·subst e'
      rw[bA] at hc
      obtain rfl:=Option.some.inj hc
      rcases hi with hi|⟨⟨k,hk⟩,ho⟩
      ·obtain⟨a1,a2⟩:=h.sep c bx dF k' off hb h1 hi
       exact⟨rfl,a2⟩
      ·refine⟨rfl,fun _ u m hr=>?_⟩
       have hr':bx.row=some (u,m):=hr
       rw[hrow] at hr'
       obtain⟨rfl,rfl⟩:=Prod.mk.inj (Option.some.inj hr')
       exact ho
     ·rw[aP _ e'] at hc
      rcases hi with hi|⟨⟨k,hk⟩,ho⟩
      ·exact h.sep c cx dF k' off hc h1 hi
      ·exact absurd (h.inj c b dF k' k (by rw[hc];simp) (by rw[hb];simp) h1 hk) e' }
end
end Go.Ge
namespace Go.Ge
set_option linter.unusedVariables false
set_option linter.unusedSimpArgs false
open RowKit
def oJ(P:Program)(B:qz)(N:Nat)(γ:Gh)(σ:St)(a:Act)(w:World)(d:Option Nat)(s:Sem Value)(σ':St):Prop :=
 ∃v w' γ',s.run P w=.ok v w'∧cX B N γ' σ' (a.put d v) w'∧Ext B γ σ.mem w γ' σ'.mem w'
section
variable {P:Program} {B:qz} {N:Nat} {γ:Gh} {σ σ':St} {a:Act} {w:World} {d:Option Nat}
theorem bM(h:cX B N γ σ a w)(hd:∀k,d=some k→k<N){s:Sem Value}{v:aS}{x:Value}(hs:s.run P w=.ok x w)(hv:cw γ σ.mem w v .val [x]) :
  oJ P B N γ σ a w d s (σ.aU d v) :=
 ⟨x,w,γ,hs,h.ua hd hv,by cases d<;>exact Ext.refl _ _ _ _⟩
theorem dX{β:Type}{b:Nat}{val:aS}{tid:TypeId}{buf:Bool}{k:Nat→St→Tree β}{y:β}(h:(σ.aO b val tid buf k).run=some y) :
  ∃aC,(∀dh,σ.mem b=some dh→dh.aC<aC)∧(k aC (σ.cr b { val,tid,buf,ro:=false,lk:=false,aC })).run=some y:=by
 unfold St.aO at h
 split at h
 ·rename_i bx hb
  cases hl:bx.lk with
  | true=>rw[hl] at h;cases h
  | false =>
    rw[hl] at h
    exact⟨bx.aC+1,(fun dh h0=>by rw[hb] at h0;obtain rfl:=Option.some.inj h0;omega),h⟩
 ·rename_i hb
  exact⟨0,(fun dh h0=>by rw[hb] at h0;cases h0),h⟩
theorem uc(σ:St)(b:Nat)(bx:bU):(σ.cr b bx).mem=cE σ.mem b bx:=rfl
theorem gz{mem:Nat→Option bU}{b aC:Nat}{bx:bU}(h:mem b=some bx)(hv:bx.aC=aC){K:bU→Prop}(hk:K bx):lQ mem b aC K :=
 ⟨bx,h,by omega,fun _=>hk⟩
theorem wE{cx:Ctx}(hc:fC P cx){nb:Nat}{bf:List Nat}{ty:TypeId}{x:Operand}(h:cX B N γ σ a w)(hd:∀k,d=some k→k<N)
  (hr:(iR cx nb bf d ty (cJ σ x) σ).run=some σ'):oJ P B N γ σ a w d (pure (a.eval x)) σ':=by
 have hv:=h.cJ x
 unfold iR at hr
 split at hr
 ·rename_i hn
  rw[hn] at hv
  obtain⟨_,hr⟩:=aD hr
  obtain rfl:=Option.some.inj hr
  exact bM h hd rfl hv
 ·rename_i hn
  rw[hn] at hv
  have hx:a.eval x=.slice none 0 0:=by simpa [cw] using hv
  split at hr
  ·rename_i k e hT
   cases hb:dJ bf k with
   | true =>
     rw[hb] at hr
     simp only[cond_true] at hr
     obtain⟨aC,bt,hr2⟩:=dX hr
     obtain rfl:=Option.some.inj hr2
     obtain⟨eZ,h1,h2,h3,h4⟩:=(hc.T _ _ hT).slice
     obtain⟨m1,m2⟩:=h.ok.HZ (tid:=0) bt h4
     refine⟨_,w,_,rfl,h.step m2 m1 (hd k rfl) ?_,m2⟩
     rw[hx]
     exact⟨⟨_,rfl,rfl⟩,gz (bA _ _) rfl ⟨e,0,rfl,rfl,.inl ⟨by simp[bI],rfl⟩⟩⟩
   | false =>
     rw[hb] at hr
     obtain rfl:=Option.some.inj hr
     exact bM (d:=some k) h hd rfl (by rw[hx];exact⟨_,.inl ⟨⟨none,rfl⟩,rfl⟩,rfl⟩)
  ·obtain rfl:=Option.some.inj hr
   exact bM h hd rfl (by rw[hx];rfl)
 ·obtain rfl:=Option.some.inj hr
  exact bM h hd rfl hv
theorem xH{b:Bool}{v:Value}(h:cw γ σ.mem w (.data .bool b) .val [v]):v=.bool b:=by
 obtain⟨cs,h1,h2⟩:=dP.1 h
 rw[h2,show cs=_ from h1];rfl
theorem sF{k:IntKind}{n:Int}{v:Value}(h:cw γ σ.mem w (.data (.int k) n) .val [v]):v=.int k n∧k.min≤n∧n≤k.max:=by
 obtain⟨cs,h1,h2⟩:=dP.1 h
 rw[h2,h1.1];exact⟨rfl,h1.2⟩
theorem vC{s:List UInt8}{v:Value}(h:cw γ σ.mem w (.data .str s) .val [v]):v=.string ⟨s.toArray⟩∧s.length≤maxLen:=by
 obtain⟨cs,h1,h2⟩:=dP.1 h
 rw[h2,h1.1];exact⟨rfl,h1.2⟩
theorem fX(b:Bool):cw γ σ.mem w (.data .bool b) .val [.bool b]:=⟨_,rfl,rfl⟩
theorem mkInt{k:IntKind}{n:Int}(h:k.min≤n∧n≤k.max):cw γ σ.mem w (.data (.int k) n) .val [.int k n]:=⟨_,⟨rfl,h.1,h.2⟩,rfl⟩
theorem mkStr{s:List UInt8}(h:s.length≤maxLen):cw γ σ.mem w (.data .str s) .val [.string ⟨s.toArray⟩]:=⟨_,⟨rfl,h⟩,rfl⟩
theorem H7{c x y:Operand}(h:cX B N γ σ a w)(hd:∀k,d=some k→k<N)(hr:(nI d (cJ σ c) (cJ σ x) (cJ σ y) σ).run=some σ') :
  oJ P B N γ σ a w d (do pure (if ←asBool (a.eval c) then a.eval x else a.eval y)) σ':=by
 have hc:=h.cJ c;have hx:=h.cJ x;have hy:=h.cJ y
 unfold nI at hr
 split at hr
 ·rename_i cb hcb
  rw[hcb] at hc
  have Z0:a.eval c=.bool cb:=xH hc
  have hrun:(do pure (if ←asBool (a.eval c) then a.eval x else a.eval y):Sem Value).run P w=.ok (if(show Bool from cb)=true then a.eval x else a.eval y) w:=by
   rw[Z0];cases cb<;>rfl
  split at hr
  ·rename_i t x1 u y1 hx1 hy1
   rw[hx1] at hx;rw[hy1] at hy
   split at hr
   ·rename_i y2 hy2
    obtain rfl:=Option.some.inj hr
    obtain⟨e,e2⟩:=Ty.jP hy2
    subst e;subst e2
    refine bM h hd hrun ?_
    cases cb
    ·exact hy
    ·exact hx
   ·cases hr
  ·have hr2:=fL hr
   cases cb
   ·obtain rfl:=Option.some.inj hr2;exact bM h hd hrun hy
   ·obtain rfl:=Option.some.inj hr2;exact bM h hd hrun hx
 ·cases hr
theorem eX(k:IntKind)(n:Int):k.min≤k.wrap n∧k.wrap n≤k.max:=wrap_within k n
theorem Yn{k:IntKind}{x y:Int}(h:k.min≤x∧x≤k.max):k.min≤x.tmod y∧x.tmod y≤k.max:=by
 have hmin:k.min≤0:=by cases k<;>decide
 have hmax:0≤k.max:=by cases k<;>decide
 have hab:(x.tmod y).natAbs≤x.natAbs:=by
  rw[Int.natAbs_tmod];exact Nat.mod_le _ _
 rcases Int.le_total 0 x with h0|h0
 ·have:=Int.tmod_nonneg y h0
  omega
 ·have:x.tmod y≤0:=by
   have:=Int.tmod_nonneg y (show 0≤-x by omega)
   rw[Int.neg_tmod] at this;omega
  omega
theorem Yo{k:IntKind}{x:Int}(n:Nat)(h:k.min≤x∧x≤k.max):k.min≤x.fdiv (2 ^ n)∧x.fdiv (2 ^ n)≤k.max:=by
 have hmin:k.min≤0:=by cases k<;>decide
 have hmax:0≤k.max:=by cases k<;>decide
 have hp:(0:Int)<2 ^ n:=Int.pow_pos (by decide)
 have e:x.fdiv (2 ^ n)=x / 2 ^ n:=Int.fdiv_eq_ediv_of_nonneg _ (by omega)
 rw[e]
 rcases Int.le_total 0 x with h0|h0
 ·have h1:=Int.ediv_nonneg h0 (Int.le_of_lt hp)
  have h2:=Int.ediv_le_self (2 ^ n:Int) h0
  omega
 ·have h2:x / 2 ^ n<1:=Int.ediv_lt_of_lt_mul hp (by omega)
  have h3:x≤x / 2 ^ n:=by
   rw[Int.le_ediv_iff_mul_le hp]
   have h1:(1:Int)≤2 ^ n:=hp
   have:=Int.mul_le_mul_of_nonpos_left h0 h1
   simpa using this
  omega
theorem Mz{op:BinOp}{l:Bool}(h:CY op=some l):(op=.shl∧l=true)∨(op=.shr∧l=false):=by
 cases op<;>simp[CY] at h<;>simp[h]
theorem qE{op:BinOp}{l:Bool}(h:isEq op=some l):(op=.eql∧l=true)∨(op=.neq∧l=false):=by
 cases op<;>simp[isEq] at h<;>simp[h]
def gf(op:BinOp)(xt:TypeId)(x y:Operand)(u v:Value):Sem Value:=do eqGuard op xt x y u v;binOp op xt u v
theorem MA{op:BinOp}{k:IntKind}{n m:Int}{v:aS}{xt:TypeId}{x y:Operand}(hn:k.min≤n∧n≤k.max)(hs:CY op=none)(hr:(QY op k n m).run=some v) :
  ∃r,(gf op xt x y (.int k n) (.int k m)).run P w=.ok r w∧cw γ σ.mem w v .val [r]:=by
 unfold gf
 cases op<;>simp only[eqGuard_at_int,Sem.run_bind,Sem.run_pure,Result.andThen_ok]<;>simp only[QY] at hr
 case add=>obtain rfl:=Option.some.inj hr;exact⟨.int k (aI k n m),by simp only[binOp_add,Op.intArith,Sem.run_pure];rfl,mkInt (eX _ _)⟩
 case sub=>obtain rfl:=Option.some.inj hr;exact⟨.int k (dO k n m),by simp only[binOp_sub,Op.intArith,Sem.run_pure];rfl,mkInt (eX _ _)⟩
 case mul=>obtain rfl:=Option.some.inj hr;exact⟨.int k (lJ k n m),by simp only[binOp_mul,Op.intArith,Sem.run_pure];rfl,mkInt (eX _ _)⟩
 case quo =>
  have hr2:=fL hr
  cases hz:bC m 0
  ·rw[hz] at hr2;obtain rfl:=Option.some.inj hr2
   have hm:m≠0:=by simpa [bC] using hz
   exact⟨.int k (GI k n m),by simp only[binOp_quo,Op.intDiv,if_neg hm,Sem.run_pure];rfl,mkInt (eX _ _)⟩
  ·rw[hz] at hr2;cases hr2
 case rem =>
  have hr2:=fL hr
  cases hz:bC m 0
  ·rw[hz] at hr2;obtain rfl:=Option.some.inj hr2
   have hm:m≠0:=by simpa [bC] using hz
   exact⟨.int k (ij n m),by simp only[binOp_rem,Op.intDiv,if_neg hm,Sem.run_pure];rfl,mkInt (Yn hn)⟩
  ·rw[hz] at hr2;cases hr2
 case and=>obtain rfl:=Option.some.inj hr;exact⟨.int k (jF k n m),by simp only[binOp_and,intBits_and,Sem.run_pure];rfl,mkInt (eX _ _)⟩
 case or=>obtain rfl:=Option.some.inj hr;exact⟨.int k (CW k n m),by simp only[binOp_or,intBits_or,Sem.run_pure];rfl,mkInt (eX _ _)⟩
 case xor=>obtain rfl:=Option.some.inj hr;exact⟨.int k (eu k n m),by simp only[binOp_xor,intBits_xor,Sem.run_pure];rfl,mkInt (eX _ _)⟩
 case andNot=>obtain rfl:=Option.some.inj hr;exact⟨.int k (Zz k n m),by simp only[binOp_andNot,intBits_andNot,Sem.run_pure];rfl,mkInt (eX _ _)⟩
 case shl=>cases hs
 case shr=>cases hs
 case eql=>obtain rfl:=Option.some.inj hr;exact⟨.bool (bC n m),by simp[binOp,Op.intCmp,bC];rfl,fX _⟩
 case neq=>obtain rfl:=Option.some.inj hr;exact⟨.bool (nt (bC n m)),by simp[binOp,Op.intCmp,bC,nt];rfl,fX _⟩
 case lss=>obtain rfl:=Option.some.inj hr;exact⟨.bool (aY n m),by simp[binOp,Op.intCmp,aY],fX _⟩
 case leq=>obtain rfl:=Option.some.inj hr;exact⟨.bool (cO n m),by simp[binOp,Op.intCmp,cO],fX _⟩
 case gtr=>obtain rfl:=Option.some.inj hr;exact⟨.bool (aY m n),by simp[binOp,Op.intCmp,aY],fX _⟩
 case geq=>obtain rfl:=Option.some.inj hr;exact⟨.bool (cO m n),by simp[binOp,Op.intCmp,cO],fX _⟩
theorem iE(s:List UInt8):(⟨s.toArray⟩:ByteArray).toList=s:=by rw[ByteArray.toList_eq]
theorem Q6(s t:List UInt8):(s==t)=cc s t:=by rw[Bool.eq_iff_iff];simp[cc]
theorem MB{op:BinOp}{s t:List UInt8}{v:aS}{xt:TypeId}{x y:Operand}(hr:(QZ op s t).run=some v) :
  ∃r,(gf op xt x y (.string ⟨s.toArray⟩) (.string ⟨t.toArray⟩)).run P w=.ok r w∧cw γ σ.mem w v .val [r]:=by
 unfold gf
 cases op<;>simp only[eqGuard_at_string,Sem.run_bind,Sem.run_pure,Result.andThen_ok]<;>simp only[QZ] at hr<;>try (cases hr;done)
 case add =>
  obtain⟨hf,hr2⟩:=cD hr
  obtain rfl:=Option.some.inj hr2
  have hl:s.length+t.length≤4294967296:=by have h2:plus (len s) (len t)≤4294967296:=of_decide_eq_true hf;simp only[plus,len] at h2;omega
  refine⟨.string ⟨(s++t).toArray⟩,?_,mkStr (by simp only[app,List.length_append,maxLen];omega)⟩
  have hsz:∀l:List UInt8,(⟨l.toArray⟩:ByteArray).size=l.length:=fun l=>rfl
  have:¬(((s.length+t.length:Nat):Int) > IntKind.i64.max):=by rw[IntKind.max_i64];omega
  simp only[binOp,Op.stringOp,hsz,this,if_false,Sem.run_pure]
  congr 2
 case eql=>obtain rfl:=Option.some.inj hr;exact⟨.bool (cc s t),by simp only[binOp,Op.stringOp,iE,Q6,Sem.run_pure],fX _⟩
 case neq=>obtain rfl:=Option.some.inj hr;exact⟨.bool (nt (cc s t)),by simp only[binOp,Op.stringOp,iE,Q6,Sem.run_pure];rfl,fX _⟩
 case lss=>obtain rfl:=Option.some.inj hr;exact⟨.bool (iD s t),by simp only[binOp,Op.stringOp,iE,Q6,Sem.run_pure];rfl,fX _⟩
 case leq=>obtain rfl:=Option.some.inj hr;exact⟨.bool (oor (iD s t) (cc s t)),by simp only[binOp,Op.stringOp,iE,Q6,Sem.run_pure];rfl,fX _⟩
 case gtr=>obtain rfl:=Option.some.inj hr;exact⟨.bool (nt (oor (iD s t) (cc s t))),by simp only[binOp,Op.stringOp,iE,Q6,Sem.run_pure];rfl,fX _⟩
 case geq=>obtain rfl:=Option.some.inj hr;exact⟨.bool (nt (iD s t)),by simp only[binOp,Op.stringOp,iE,Q6,Sem.run_pure];rfl,fX _⟩
theorem Oq{op:BinOp}{left:Bool}{k k':IntKind}{n m:Int}{xt:TypeId}{x y:Operand}(hn:k.min≤n∧n≤k.max)(hs:CY op=some left)(h0:aY m 0=false) :
  ∃r,(gf op xt x y (.int k n) (.int k' m)).run P w=.ok r w∧cw γ σ.mem w (.data (.int k) (bif left then yQ k n m else rN k n m)) .val [r]:=by
 have h1:¬m<0:=by simpa [aY] using h0
 unfold gf
 rcases Mz hs with ⟨rfl,rfl⟩|⟨rfl,rfl⟩
 ·exact⟨.int k (yQ k n m),by simp only[eqGuard_shl,binOp_shl,Op.shift,if_neg h1,Sem.run_bind,Sem.run_pure,Result.andThen_ok];rfl,mkInt (eX _ _)⟩
 ·exact⟨.int k (rN k n m),by simp only[eqGuard_shr,binOp_shr,Op.shift,if_neg h1,Sem.run_bind,Sem.run_pure,Result.andThen_ok];rfl,mkInt (Yo _ hn)⟩
theorem Ay{t:Ty}{tid:TypeId}(ht:Den P t tid){cs:Array Value}{off:Nat}(h:off+t.size≤cs.size)(h1:t.isAgg=false→t.size=1) :
  (part tid cs off).run P w=.ok (cA t ((cs.toList.drop off).take t.size)) w:=by
 unfold part
 rw[Sem.run_bind,ht.agg w,Result.andThen_ok]
 cases hag:t.isAgg with
 | true =>
   simp only[if_true,Sem.run_bind,ht.sizeOf w,Result.andThen_ok,Sem.run_pure,cA,hag,cond_true]
   congr 2
   apply Array.ext'
   simp
 | false =>
   have hs:=h1 hag
   simp only[if_neg (show ¬(false=true) by simp),cA,hag,cond_false,hs]
   have hlt:off<cs.size:=by omega
   have e:(cs.toList.drop off).take 1=[cs[off]]:=by
    apply List.ext_getElem?
    intro i
    rw[List.getElem?_take]
    cases i with
    | zero=>simp[hlt]
    | succ i=>simp
   rw[e]
   simp[hlt]
theorem rR:∀{t:Ty},t.isAgg=false→t.size=1:=by
 intro t h
 induction t with
 | alt u a r jE ihr=>exact ihr h
 | arr|pair|unit=>cases h
 | _=>rfl
theorem Ot(t:Ty):1≤t.CX:=by cases t<;>simp[Ty.CX]
theorem Bp{γ:Gh}{w:World}:∀(t:Ty),(∀(d:Nat) (tid:TypeId) (x y:t.den) (cx cy:List Value) (c:Bool),Den P t tid→bG w γ.I t x cx→bG w γ.I t y cy→Ty.eqv t x y=some c→t.CX<d →
   (Op.equalIn d tid (cA t cx) (cA t cy)).run P w=.ok c w) ∧
  (∀(d off:Nat) (fs:List Field) (x y:t.den) (cx cy:List Value) (xs ys:Array Value) (c:Bool),pE P t off fs→bG w γ.I t x cx→bG w γ.I t y cy→Ty.eqv t x y=some c→t.CX<d →
   xs.toList.drop off=cx→ys.toList.drop off=cy→off≤xs.size→off≤ys.size→(Op.eqFields d xs ys fs).run P w=.ok c w):=by
 intro t
 induction t with
 | int k =>
   refine⟨fun d tid x y cx cy c hd hx hy he hs=>?_,fun d off fs x y cx cy xs ys c hd=>by simp[pE,ff] at hd⟩
   obtain⟨d,rfl⟩:∃e,d=e+1:=⟨d-1,by omega⟩
   rw[hx.1,hy.1]
   obtain rfl:=Option.some.inj he
   show(Op.equalIn (d+1) tid (.int k x) (.int k y)).run P w=_
   rw[run_equalIn_int w d tid k k x y hd.int]
   congr 1
 | bool =>
   refine⟨fun d tid x y cx cy c hd hx hy he hs=>?_,fun d off fs x y cx cy xs ys c hd=>by simp[pE,ff] at hd⟩
   obtain⟨d,rfl⟩:∃e,d=e+1:=⟨d-1,by omega⟩
   rw[show cx=_ from hx,show cy=_ from hy]
   obtain rfl:=Option.some.inj he
   exact run_equalIn_bool' w d tid x y hd.bool
 | str =>
   refine⟨fun d tid x y cx cy c hd hx hy he hs=>?_,fun d off fs x y cx cy xs ys c hd=>by simp[pE,ff] at hd⟩
   obtain⟨d,rfl⟩:∃e,d=e+1:=⟨d-1,by omega⟩
   rw[hx.1,hy.1]
   obtain rfl:=Option.some.inj he
   have h1:=run_equalIn_string (P:=P) w d tid ⟨List.toArray (α:=UInt8) x⟩ ⟨List.toArray (α:=UInt8) y⟩ hd.str
   rw[iE (show List UInt8 from x),iE (show List UInt8 from y),Q6] at h1
   exact h1
 | slice e ih=>exact⟨(fun d tid x y cx cy c hd hx hy he=>by cases he),(fun d off fs x y cx cy xs ys c hd=>by simp[pE,ff] at hd)⟩
 | alt u a r jE ihr=>exact⟨(fun d tid x y cx cy c hd hx hy he=>by cases he),(fun d off fs x y cx cy xs ys c hd=>by simp[pE,ff] at hd)⟩
 | AV=>exact⟨(fun d tid x y cx cy c hd hx hy he=>by cases he),(fun d off fs x y cx cy xs ys c hd=>by simp[pE,ff] at hd)⟩
 | arr n e ih =>
   refine⟨fun d tid x y cx cy c hd hx hy he hs=>?_,(fun d off fs x y cx cy xs ys c hd=>by simp[pE,ff] at hd)⟩
   cases e with
   | int k =>
     obtain⟨d,rfl⟩:∃e,d=e+1:=⟨d-1,by omega⟩
     obtain⟨d,rfl⟩:∃e,d=e+1:=⟨d-1,by have:(Ty.arr n (.int k)).CX=1+1:=rfl;omega⟩
     obtain rfl:=Option.some.inj he
     obtain⟨eZ,k1,k2,k3⟩:=hd.arr
     obtain⟨i,z,i1,i2,_,_⟩:=k2.info
     have hcell:=k2.cells
     show(Op.equalIn (d+1+1) tid (.agg cx.toArray) (.agg cy.toArray)).run P w=_
     rw[run_equalIn_array w (d+1) cx.toArray cy.toArray k1 i1,hcell]
     obtain⟨hxl,hxc,hxe⟩:=hx
     obtain⟨hyl,hyc,hye⟩:=hy
     have hz:(Ty.int k).size=1:=rfl
     rw[hz] at hxc hxe hyc hye⊢
     rw[Nat.mul_one] at hxc hyc
     change List Int at x y
     have item:∀is:List Nat,(∀i∈is,i<n)→(Op.eqItems (d+1) eZ 1 cx.toArray cy.toArray is).run P w=.ok (is.all fun i=>decide (x[i]?=y[i]?)) w:=by
      intro is
      induction is with
      | nil=>intro _;rfl
      | cons i is ihs =>
        intro hi
        have hin:=hi i (List.mem_cons_self ..)
        obtain⟨a,Ls⟩:∃a,x[i]?=some a:=⟨_,List.getElem?_eq_getElem (by rw[show x.length=n from hxl];exact hin)⟩
        obtain⟨b,hyi⟩:∃a,y[i]?=some a:=⟨_,List.getElem?_eq_getElem (by rw[show y.length=n from hyl];exact hin)⟩
        have px:=Ay (w:=w) k2 (cs:=cx.toArray) (off:=i*1) (by rw[hz];simp[hxc];omega) (fun _=>hz)
        have py:=Ay (w:=w) k2 (cs:=cy.toArray) (off:=i*1) (by rw[hz];simp[hyc];omega) (fun _=>hz)
        have ex:=(hxe i _ Ls).1
        have ey:=(hye i _ hyi).1
        rw[hz] at px py
        rw[show cx.toArray.toList=cx from rfl,ex] at px
        rw[show cy.toArray.toList=cy from rfl,ey] at py
        simp only[Op.eqItems,Sem.run_bind,px,py,Result.andThen_ok]
        have heq:=run_equalIn_int w d eZ k k a b k2.int
        simp only[cA,Ty.isAgg,cond_false,List.headD_cons,heq,if_true,Result.andThen_ok,Ls,hyi,List.all_cons]
        cases hb:(a==b) with
        | true =>
          have hxy:a=b:=by simpa using hb
          simp only[Bool.not_true,Bool.false_eq_true,if_false,hxy,decide_true,Bool.true_and]
          exact ihs fun j hj=>hi j (List.mem_cons_of_mem _ hj)
        | false =>
          have hxy:¬a=b:=by simpa using hb
          simp[hxy]
     rw[item _ fun i hi=>List.mem_range.1 hi]
     congr 1
     unfold eqL
     rw[Bool.eq_iff_iff,List.all_eq_true]
     simp only[List.mem_range,decide_eq_true_eq]
     constructor
     ·intro h
      apply List.ext_getElem?
      intro i
      by_cases hin:i<n
      ·exact h i hin
      ·rw[List.getElem?_eq_none (by rw[show x.length=n from hxl];omega),List.getElem?_eq_none (by rw[show y.length=n from hyl];omega)]
     ·intro h i _
      exact congrArg (fun l=>l[i]?) h
   | _=>cases he
 | unit =>
   refine⟨(fun d tid x y cx cy c hd=>by simp[Den,ff] at hd),fun d off fs x y cx cy xs ys c hd hx hy he hs h1 h2 h3 h4=>?_⟩
   cases fs with
   | nil=>obtain rfl:=Option.some.inj he;rfl
   | cons f r=>simp[pE,ff] at hd
 | pair a b jE nr =>
   have key:(∀(d off:Nat) (fs:List Field) (x y:(Ty.pair a b).den) (cx cy:List Value) (xs ys:Array Value) (c:Bool),pE P (.pair a b) off fs→bG w γ.I (.pair a b) x cx→bG w γ.I (.pair a b) y cy→Ty.eqv (.pair a b) x y=some c→(Ty.pair a b).CX<d+1 →
    xs.toList.drop off=cx→ys.toList.drop off=cy→off≤xs.size→off≤ys.size→(Op.eqFields d xs ys fs).run P w=.ok c w):=by
    intro d off fs x y cx cy xs ys c hd hx hy he hs h1 h2 h3 h4
    obtain⟨f,r,rfl,k1,k2,k3,k4,k5⟩:=hd.cons
    obtain⟨x1,x2,hxe,hx1,hx2⟩:=hx
    obtain⟨y1,y2,hye,hy1,hy2⟩:=hy
    simp only[Ty.eqv] at he
    cases hea:Ty.eqv a x.1 y.1 with
    | none=>rw[hea] at he;cases he
    | some p =>
      cases heb:Ty.eqv b x.2 y.2 with
      | none=>rw[hea,heb] at he;cases he
      | some q =>
        rw[hea,heb] at he
        obtain rfl:=Option.some.inj he
        have hlx:=hx1.length
        have hly:=hy1.length
        have lx:xs.size-off=x1.length+x2.length:=by
         have:=congrArg List.length (h1.trans hxe);simpa using this
        have ly:ys.size-off=y1.length+y2.length:=by
         have:=congrArg List.length (h2.trans hye);simpa using this
        have px:=Ay (w:=w) k3 (cs:=xs) (off:=f.offset) (by omega) rR
        have py:=Ay (w:=w) k3 (cs:=ys) (off:=f.offset) (by omega) rR
        have ex:(xs.toList.drop f.offset).take a.size=x1:=by rw[k1,h1,hxe,←hlx,List.take_left]
        have ey:(ys.toList.drop f.offset).take a.size=y1:=by rw[k1,h2,hye,←hly,List.take_left]
        rw[ex] at px
        rw[ey] at py
        have hsz:(Ty.pair a b).CX=a.CX+b.CX+1:=rfl
        have hra:=Ot a
        have hrb:=Ot b
        have heq:=jE.1 d f.type x.1 y.1 x1 y1 p k3 hx1 hy1 hea (by omega)
        simp only[Op.eqFields,if_pos k2,Sem.run_bind,px,py,heq,Result.andThen_ok]
        cases p with
        | false=>simp[an]
        | true =>
          simp only[Bool.not_true,Bool.false_eq_true,if_false]
          rw[nr.2 d (off+a.size) r x.2 y.2 x2 y2 xs ys q k5 hx2 hy2 heb (by omega) (by rw[←List.drop_drop,h1,hxe,←hlx,List.drop_left]) (by rw[←List.drop_drop,h2,hye,←hly,List.drop_left]) (by omega) (by omega)]
          simp[an]
   refine⟨fun d tid x y cx cy c hd hx hy he hs=>?_,fun d off fs x y cx cy xs ys c hd hx hy he hs=>key d off fs x y cx cy xs ys c hd hx hy he (by omega)⟩
   obtain⟨d,rfl⟩:∃e,d=e+1:=⟨d-1,by omega⟩
   obtain⟨fs,k1,k2,k3,k4⟩:=hd.pair
   have hf:P.fieldsOf tid=fs:=by simp[Program.fieldsOf,k1]
   show(Op.equalIn (d+1) tid (.agg _) (.agg _)).run P w=_
   rw[run_equalIn_struct w d tid _ _ (by rw[hf];exact k1) k4,hf]
   exact key d 0 fs.toList x y cx cy _ _ c k2 hx hy he (by omega) (by simp) (by simp) (by simp) (by simp)
end
end Go.Ge
namespace Go.Ge
set_option linter.unusedVariables false
set_option linter.unusedSimpArgs false
open RowKit
section
variable {P:Program} {B:qz} {N:Nat} {γ:Gh} {σ σ':St} {a:Act} {w:World} {d:Option Nat} {cx:Ctx}
theorem H8(b c:Bool){xt:TypeId}{x y:Operand}(ht:P.underlying xt=some .bool) :
  (gf .eql xt x y (.bool b) (.bool c)).run P w=.ok (.bool (X1 b c)) w∧(gf .neq xt x y (.bool b) (.bool c)).run P w=.ok (.bool (nt (X1 b c))) w:=by
 have e:=run_equalIn_bool' (P:=P) w 9999 xt b c ht
 constructor<;>simp only[gf,eqGuard_at_bool,binOp,Op.equal,Op.maxDepth,Sem.run_bind,Sem.run_pure,Result.andThen_ok,e]<;>rfl
theorem Ou{xt e:TypeId}(ht:P.underlying xt=some (.pointer e))(a b:Option Addr)(h:a=none∨b=none)(n:Nat) :
  (Op.equalIn (n+1) xt (.pointer a) (.pointer b)).run P w=.ok (a.isNone&&b.isNone) w:=by
 cases a with
 | none=>cases b<;>simp only[Op.equalIn,Sem.run_bind,run_underlying ht,Result.andThen_ok]<;>rfl
 | some a=>cases b with
   | none=>simp only[Op.equalIn,Sem.run_bind,run_underlying ht,Result.andThen_ok];rfl
   | some b=>simp at h
theorem vD{xt e:TypeId}{x y:Operand}(ht:P.underlying xt=some (.pointer e))(a b:Option Addr)(h:a=none∨b=none) :
  (gf .eql xt x y (.pointer a) (.pointer b)).run P w=.ok (.bool (a.isNone&&b.isNone)) w∧(gf .neq xt x y (.pointer a) (.pointer b)).run P w=.ok (.bool (!(a.isNone&&b.isNone))) w:=by
 have e:=Ou (P:=P) (w:=w) ht a b h 9999
 constructor<;>simp only[gf,eqGuard_at_pointer,binOp,Op.equal,Op.maxDepth,Sem.run_bind,Sem.run_pure,Result.andThen_ok,e]
theorem T8(hc:fC P cx){op:BinOp}{xt:TypeId}{x y:Operand}{u v:Value}{p q r:aS}(hu:cw γ σ.mem w p .val [u])(hv:cw γ σ.mem w q .val [v])
  (hr:(bin (find cx.T xt) (dJ cx.AX xt) op p q).run=some r):∃z,(gf op xt x y u v).run P w=.ok z w∧cw γ σ.mem w r .val [z]:=by
 unfold bin at hr
 split at hr
 ·
  obtain⟨rfl,h1⟩:=sF hu
  obtain⟨rfl,h2⟩:=sF hv
  split at hr
  ·rename_i left hs
   have hr2:=fL hr
   rename_i k n k' m _
   cases hz:aY m 0
   ·rw[hz] at hr2;obtain rfl:=Option.some.inj hr2;exact Oq h1 hs hz
   ·rw[hz] at hr2;cases hr2
  ·rename_i hs
   obtain⟨hb,hr2⟩:=aD hr
   rename_i k n k' m _
   have hk:=wo hb
   subst hk
   exact MA h1 hs hr2
 ·
  obtain⟨rfl,h1⟩:=vC hu
  obtain⟨rfl,h2⟩:=vC hv
  exact MB hr
 ·
  rename_i b c
  obtain rfl:=xH hu
  obtain rfl:=xH hv
  obtain⟨hb,hr2⟩:=aD hr
  have ht:=hc.T _ _ (iu hb)
  have e:=H8 (P:=P) (w:=w) b c (x:=x) (y:=y) ht.bool
  split at hr2
  ·rename_i he
   obtain rfl:=Option.some.inj hr2
   rcases qE he with ⟨rfl,_⟩|⟨_,h⟩
   ·exact⟨.bool (X1 b c),e.1,fX _⟩
   ·cases h
  ·rename_i he
   obtain rfl:=Option.some.inj hr2
   rcases qE he with ⟨_,h⟩|⟨rfl,_⟩
   ·cases h
   ·exact⟨.bool (nt (X1 b c)),e.2,fX _⟩
  ·cases hr2
 ·
  rename_i ta tb x1 t2 y1
  obtain⟨hb,hr2⟩:=aD hr
  simp only[Bool.and_eq_true] at hb
  have ht:=hc.T _ _ (iu hb.1)
  split at hr2
  ·rename_i y2 e hy2 he
   obtain⟨e1,e2⟩:=Ty.jP hy2
   subst e1;subst e2
   split at hr2
   ·rename_i c hce
    obtain rfl:=Option.some.inj hr2
    obtain⟨Q7,k1,rfl⟩:=dP.1 hu
    obtain⟨Tk,k2,rfl⟩:=dP.1 hv
    have hq:=(Bp (P:=P) (γ:=γ) (w:=w) (.pair ta tb)).1 10000 xt x1 _ Q7 Tk c ht k1 k2 hce (by have:=Nat.le_of_ble_eq_true hb.2;omega)
    obtain⟨fs,j1,j2,j3,j4⟩:=ht.pair
    have hg:∀op,(eqGuard op xt x y (.agg Q7.toArray) (.agg Tk.toArray)).run P w=.ok () w:=fun op=>run_eqGuard_agg w op xt x y _ _ j3
    rcases qE he with ⟨rfl,rfl⟩|⟨rfl,rfl⟩
    ·refine⟨.bool c,?_,fX _⟩
     show(gf .eql xt x y (.agg _) (.agg _)).run P w=_
     simp only[gf,Sem.run_bind,hg,Result.andThen_ok]
     have Yp:(Op.equalIn 10000 xt (.agg Q7.toArray) (.agg Tk.toArray)).run P w=.ok c w:=hq
     rw[run_eql_struct,Yp];rfl
    ·refine⟨.bool (nt c),?_,fX _⟩
     show(gf .neq xt x y (.agg _) (.agg _)).run P w=_
     simp only[gf,Sem.run_bind,hg,Result.andThen_ok]
     have Yp:(Op.equalIn 10000 xt (.agg Q7.toArray) (.agg Tk.toArray)).run P w=.ok c w:=hq
     rw[run_neq_struct,Yp];rfl
   ·cases hr2
  ·cases hr2
 ·
  rename_i nn ee x1 t2 y1
  obtain⟨hb,hr2⟩:=aD hr
  simp only[Bool.and_eq_true] at hb
  have ht:=hc.T _ _ (iu hb.1)
  split at hr2
  ·rename_i y2 e hy2 he
   obtain⟨e1,e2⟩:=Ty.jP hy2
   subst e1;subst e2
   split at hr2
   ·rename_i c hce
    obtain rfl:=Option.some.inj hr2
    obtain⟨Q7,k1,rfl⟩:=dP.1 hu
    obtain⟨Tk,k2,rfl⟩:=dP.1 hv
    have hq:=(Bp (P:=P) (γ:=γ) (w:=w) (.arr nn ee)).1 10000 xt x1 _ Q7 Tk c ht k1 k2 hce (by have:=Nat.le_of_ble_eq_true hb.2;omega)
    have j3:=ht.abB
    have hg:∀op,(eqGuard op xt x y (.agg Q7.toArray) (.agg Tk.toArray)).run P w=.ok () w:=fun op=>run_eqGuard_agg w op xt x y _ _ j3
    rcases qE he with ⟨rfl,rfl⟩|⟨rfl,rfl⟩
    ·refine⟨.bool c,?_,fX _⟩
     show(gf .eql xt x y (.agg _) (.agg _)).run P w=_
     simp only[gf,Sem.run_bind,hg,Result.andThen_ok]
     have Yp:(Op.equalIn 10000 xt (.agg Q7.toArray) (.agg Tk.toArray)).run P w=.ok c w:=hq
     rw[run_eql_struct,Yp];rfl
    ·refine⟨.bool (nt c),?_,fX _⟩
     show(gf .neq xt x y (.agg _) (.agg _)).run P w=_
     simp only[gf,Sem.run_bind,hg,Result.andThen_ok]
     have Yp:(Op.equalIn 10000 xt (.agg Q7.toArray) (.agg Tk.toArray)).run P w=.ok c w:=hq
     rw[run_neq_struct,Yp];rfl
   ·cases hr2
  ·cases hr2
 ·
  obtain rfl:u=_:=by simpa [cw] using hu
  obtain rfl:v=_:=by simpa [cw] using hv
  split at hr
  ·rename_i e hp he
   obtain rfl:=Option.some.inj hr
   obtain⟨el,hpt⟩:=hc.AX _ hp
   have q:=vD (P:=P) (w:=w) (x:=x) (y:=y) hpt none none (.inl rfl)
   rcases qE he with ⟨rfl,rfl⟩|⟨rfl,rfl⟩
   ·exact⟨_,q.1,fX _⟩
   ·exact⟨_,q.2,fX _⟩
  ·cases hr
 ·cases hr
theorem kS{b aC:Nat}(h:live σ b aC=true):∃bx,σ.mem b=some bx∧bx.aC=aC:=by
 unfold live at h
 split at h
 ·rename_i bx hb;exact⟨bx,hb,Nat.eq_of_beq_eq_true h⟩
 ·cases h
theorem bq{mem:Nat→Option bU}{b aC:Nat}{bx:bU}(hb:mem b=some bx)(hv:bx.aC=aC){K:bU→Prop}(h:lQ mem b aC K):K bx:=by
 obtain⟨gu,h1,h2,h3⟩:=h
 rw[hb] at h1
 obtain rfl:=Option.some.inj h1
 exact h3 hv
theorem Q8(hc:fC P cx){op:BinOp}{xt:TypeId}{x y:Operand}{u v:Value}{p q r:aS}(hu:cw γ σ.mem w p .val [u])(hv:cw γ σ.mem w q .val [v])
  (hr:(VI σ (find cx.T xt) (dJ cx.AX xt) op p q).run=some r):∃z,(gf op xt x y u v).run P w=.ok z w∧cw γ σ.mem w r .val [z]:=by
 unfold VI at hr
 split at hr
 ·rename_i b aC p
  obtain⟨hb,hr2⟩:=aD hr
  simp only[Bool.and_eq_true] at hb
  obtain⟨bx,rS,bt⟩:=kS hb.1
  obtain⟨blk,cap,_,hval⟩:=bq rS bt hu.2
  obtain rfl:u=_:=by simpa using hval
  obtain rfl:v=_:=by simpa [cw] using hv
  obtain⟨el,hpt⟩:=hc.AX _ hb.2
  have q:=vD (P:=P) (w:=w) (x:=x) (y:=y) hpt (some ⟨blk,cQ p,none⟩) none (.inr rfl)
  split at hr2
  ·rename_i e he
   obtain rfl:=Option.some.inj hr2
   rcases qE he with ⟨rfl,rfl⟩|⟨rfl,rfl⟩
   ·exact⟨_,q.1,fX _⟩
   ·exact⟨_,q.2,fX _⟩
  ·cases hr2
 ·rename_i b aC p
  obtain⟨hb,hr2⟩:=aD hr
  simp only[Bool.and_eq_true] at hb
  obtain⟨bx,rS,bt⟩:=kS hb.1
  obtain⟨blk,cap,_,hval⟩:=bq rS bt hv.2
  obtain rfl:v=_:=by simpa using hval
  obtain rfl:u=_:=by simpa [cw] using hu
  obtain⟨el,hpt⟩:=hc.AX _ hb.2
  have q:=vD (P:=P) (w:=w) (x:=x) (y:=y) hpt none (some ⟨blk,cQ p,none⟩) (.inl rfl)
  split at hr2
  ·rename_i e he
   obtain rfl:=Option.some.inj hr2
   rcases qE he with ⟨rfl,rfl⟩|⟨rfl,rfl⟩
   ·exact⟨_,q.1,fX _⟩
   ·exact⟨_,q.2,fX _⟩
  ·cases hr2
 ·exact T8 hc hu hv hr
theorem VP{op:UnOp}{u:Value}{p r:aS}(hu:cw γ σ.mem w p .val [u])(hr:(un op p).run=some r):∃z,(Op.unary op u).run P w=.ok z w∧cw γ σ.mem w r .val [z]:=by
 unfold un at hr
 split at hr
 ·obtain rfl:=xH hu
  obtain rfl:=Option.some.inj hr
  exact⟨_,rfl,fX _⟩
 ·obtain⟨rfl,h1⟩:=sF hu
  obtain rfl:=Option.some.inj hr
  exact⟨_,rfl,mkInt (eX _ _)⟩
 ·obtain⟨rfl,h1⟩:=sF hu
  obtain rfl:=Option.some.inj hr
  rename_i k n
  refine⟨_,?_,mkInt (eX _ _)⟩
  cases hk:k.signed<;>simp[Op.unary,Op.intBits,eu,hk]
 ·cases hr
theorem VQ(hm:bE B γ σ.mem w){b:Nat}{bx:bU}(hb:σ.mem b=some bx){blk cap:Nat}(hl:γ.loc b=some (blk,cap)){p:List FK}{v:aS}(hn:(T3 bx.buf p bx.val).run=some v) :
  ∃cur tid fr,w.heap[blk]?=some (.cells cur tid fr)∧ld cur fr∧cQ p+eN v≤cur.size∧cw γ σ.mem w v .cells ((cur.toList.drop (cQ p)).take (eN v)):=by
 have jj:=hm.boxes b bx hb
 unfold cP at jj
 unfold T3 at hn
 cases bK:bx.buf with
 | false =>
   rw[bK] at jj hn
   obtain⟨dF,cap',cur,tid,fr,h1,h2,h3,iq,h4⟩:=jj
   rw[hl] at h1
   obtain⟨rfl,rfl⟩:=Prod.mk.inj (Option.some.inj h1)
   obtain⟨k1,k2⟩:=xG h4 hn
   exact⟨cur,tid,fr,h2,h3,by simpa using k1,k2⟩
 | true =>
   rw[bK] at jj hn
   obtain⟨e,l,h1,h2,h3⟩:=jj
   rw[h1] at hn
   rcases h3 with ⟨h3,_⟩|⟨dF,cap',cur,tid,fr,h3,h4,h5,iq,h6,h7,h8,h9⟩
   ·rw[hl] at h3;cases h3
   ·rw[hl] at h3
    obtain⟨rfl,rfl⟩:=Prod.mk.inj (Option.some.inj h3)
    cases p with
    | nil=>cases hn
    | cons s p =>
      cases s with
      | fJ k off=>cases hn
      | idx i size =>
        obtain⟨hsb,hn2⟩:=aD hn
        have hsz:=Nat.eq_of_beq_eq_true hsb
        obtain⟨x,hx,Ym⟩:=b5 hn2
        obtain⟨h0,hx2⟩:=rP hx
        have hr:=h9 _ x hx2
        have hrl:=hr.length
        have hi:i.toNat<l.length:=(List.getElem?_eq_some_iff.1 hx2).1
        have hm2:(i.toNat+1)*e.size≤cap*e.size:=Nat.mul_le_mul_right _ (by omega)
        rw[Nat.succ_mul] at hm2
        obtain⟨k1,k2⟩:=xG (v:=.data e x) (show cw γ σ.mem w (.data e x) .cells _ from hr) Ym
        rw[hrl] at k1
        refine⟨cur,tid,fr,h4,h5.th,?_,?_⟩
        ·simp only[cQ,hsz];omega
        ·rw[List.drop_take,List.take_take,List.drop_drop,Nat.min_eq_left (by omega)] at k2
         simp only[cQ,hsz];exact k2
theorem wF{t:Ty}{tid:TypeId}(ht:Den P t tid){blk off:Nat}{x:t.den}{cs:List Value}(MC:bG w γ.I t x cs)(abE:(loadCells ⟨blk,off,none⟩ cs.length).run P w=.ok cs.toArray w)
  (hcell:∀(j:Nat) v,cs[j]?=some v→w.cell? ⟨blk,off+j,none⟩=some v):(loadVar tid ⟨blk,off,none⟩).run P w=.ok (cA t cs) w:=by
 unfold loadVar
 rw[Sem.run_bind,ht.agg w,Result.andThen_ok]
 have hl:=MC.length
 cases hag:t.isAgg with
 | true =>
   simp only[if_true,Sem.run_bind,ht.sizeOf w,Result.andThen_ok,←hl,abE,Sem.run_pure,cA,hag,cond_true]
 | false =>
   have hs:=rR hag
   rw[hs] at hl
   obtain⟨c,rfl⟩:=List.length_eq_one_iff.1 hl
   have:=hcell 0 c rfl
   simp only[Nat.add_zero] at this
   simp[cA,hag,this]
theorem Ov(hc:fC P cx){ty:TypeId}{x:Operand}(h:cX B N γ σ a w)(hr:(kC cx d ty (cJ σ x) σ).run=some σ') :
  ∃u val ad,σ'=σ.aU d u∧a.eval x=.pointer (some ad)∧(loadVar ty ad).run P w=.ok val w∧cw γ σ.mem w u .val [val]:=by
 have hv:=h.cJ x
 unfold kC at hr
 split at hr
 ·rename_i u y hx
  rw[hx] at hv
  obtain⟨hb,hr2⟩:=aD hr
  obtain rfl:=Option.some.inj hr2
  have ht:=hc.T _ _ (iu hb)
  obtain⟨blk,off,cs,h1,h2,h3⟩:=hv
  obtain h1:a.eval x=_:=by simpa using h1
  have hl:=wF (P:=P) ht h2 (EU h3) (fun j v hj=>(h3 j v hj).1)
  exact⟨_,_,_,rfl,h1,hl,cs,h2,rfl⟩
 ·rename_i b aC p hx
  rw[hx] at hv
  split at hr
  ·rename_i bx hb
   obtain⟨bt,hr2⟩:=aD hr
   have bt:=Nat.eq_of_beq_eq_true bt
   obtain⟨v,hn,jG⟩:=bind_some hr2
   obtain⟨Lt,td⟩:=aD jG
   obtain rfl:=Option.some.inj td
   obtain⟨blk,cap,hl,hval⟩:=bq hb bt hv.2
   obtain hval:a.eval x=_:=by simpa using hval
   obtain⟨cur,tid,fr,g1,g2,g3,g4⟩:=VQ h.ok hb hl hn
   have hld:=AY (P:=P) g1 g3
   have hgl:=g4.length
   have hcells:∀(j:Nat) v',((cur.toList.drop (cQ p)).take (eN v))[j]?=some v'→w.cell? ⟨blk,cQ p+j,none⟩=some v':=fun j v' hj=>by
    rw[cell_of_heap g1]
    rw[List.getElem?_take] at hj
    split at hj
    ·rw[List.getElem?_drop] at hj;simpa using hj
    ·cases hj
   have single:∀(hone:(isAgg ty).run P w=.ok false w) (h1:eN v=1) (FP:∀c,cw γ σ.mem w v .cells [c]→cw γ σ.mem w v .val [c]),
     ∃u val ad,σ.aU d v=σ.aU d u∧a.eval x=.pointer (some ad)∧(loadVar ty ad).run P w=.ok val w∧cw γ σ.mem w u .val [val]:=by
    intro hone h1 FP
    rw[h1] at hgl g4 hcells
    obtain⟨c,VC⟩:=List.length_eq_one_iff.1 hgl
    rw[VC] at g4 hcells
    have:=hcells 0 c rfl
    simp only[Nat.add_zero] at this
    refine⟨_,c,_,rfl,hval,?_,FP c g4⟩
    simp[loadVar,hone,this]
   cases v with
   | data u y =>
     have ht:=hc.T _ _ (iu Lt)
     have Hv:=wF (P:=P) ht g4 (by rw[hgl];exact hld) hcells
     exact⟨_,_,_,rfl,hval,Hv,_,g4,rfl⟩
   | whole b' T9 =>
     simp only[EL] at Lt
     split at Lt
     ·rename_i e hT
      exact single (by have:=(hc.T _ _ hT).agg w;exact this) rfl (fun c k=>k)
     ·cases Lt
   | ptr b' T9 p'=>exact single ((hc.sE _ Lt).1 w) rfl (fun c k=>k)
   | qB=>exact single ((hc.sE _ Lt).1 w) rfl (fun c k=>k)
   | fn f caps=>exact single ((hc.sE _ Lt).1 w) rfl (fun c k=>k)
   | _=>cases Lt
  ·cases hr
 ·cases hr
theorem H9(hc:fC P cx){ty:TypeId}{x:Operand}(h:cX B N γ σ a w)(hd:∀k,d=some k→k<N)(hr:(kC cx d ty (cJ σ x) σ).run=some σ') :
  oJ P B N γ σ a w d (Instr.loadAt ty (a.eval x)) σ':=by
 obtain⟨u,val,ad,rfl,h1,h2,h3⟩:=Ov hc h hr
 refine bM h hd ?_ h3
 rw[h1]
 simp only[Instr.loadAt,Instr.sureAddr,Sem.run_bind,Sem.run_pure,Result.andThen_ok,h2]
end
end Go.Ge
