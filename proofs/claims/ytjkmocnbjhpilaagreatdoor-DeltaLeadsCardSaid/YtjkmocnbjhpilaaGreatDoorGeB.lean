/- A ghost interpreter of the model's code, and that it tells the truth: part 2. It says of a function of plain data what a call of it comes to. -/
import Derived.Test.YtjkmocnbjhpilaaGreatDoorGeA
import Derived.Laws.StructEq
import Derived.ChangeKeysEq
namespace Go.Ge
set_option linter.unusedVariables false
def eC:Ty→List Value
 | .int k=>[.int k 0]
 | .bool=>[.bool false]
 | .str=>[.string ⟨#[]⟩]
 | .slice _=>[.slice none 0 0]
 | .arr n e=>(List.replicate n (eC e)).flatten
 | .pair a b=>eC a++eC b
 | .unit=>[]
 | .alt _ _ r=>eC r
 | .vQ=>[.nilIface]
theorem dF(t:Ty):(eC t).length=t.size:=by
 induction t with
 | arr n e ih=>simp[eC,Ty.size,ih]
 | pair a b iQ kX=>simp[eC,Ty.size,iQ,kX]
 | alt u a r iQ ihr=>exact ihr
 | _=>rfl
theorem dP{α:Type}(l:List α):∀(n i:Nat),i<n→((List.replicate n l).flatten.drop (i*l.length)).take l.length=l
 | 0,i,h=>absurd h (by omega)
 | n+1,0,_=>by simp[List.replicate_succ]
 | n+1,i+1,h=>by
   rw[List.replicate_succ,List.flatten_cons,Nat.succ_mul,Nat.add_comm,←List.drop_drop,List.drop_left]
   exact dP l n i (by omega)
theorem mA(w:World)(I:Nat→Nat→Prop):∀t:Ty,bE w I t t.zero (eC t):=by
 intro t
 induction t with
 | int k=>exact⟨rfl,by cases k<;>decide,by cases k<;>decide⟩
 | bool=>rfl
 | str=>exact⟨rfl,Nat.zero_le _⟩
 | slice e ih=>exact .inl ⟨⟨none,rfl⟩,rfl⟩
 | arr n e ih =>
   refine⟨List.length_replicate,by rw[dF];rfl,fun i x hx=>?_⟩
   have hx':(List.replicate n e.zero)[i]?=some x:=hx
   rw[List.getElem?_replicate] at hx'
   split at hx'
   ·rename_i hi
    obtain rfl:e.zero=x:=by simpa using hx'
    have:=dP (eC e) n i hi
    rw[dF] at this
    show bE w I e e.zero (((List.replicate n (eC e)).flatten.drop (i*e.size)).take e.size)
    rw[this];exact ih
   ·cases hx'
 | pair a b iQ kX=>exact⟨_,_,rfl,iQ,kX⟩
 | unit=>rfl
 | alt u a r iQ ihr=>exact ihr
 | vQ=>rfl
def It:Value→Value→Bool
 | .int k n,.int k' m=>Nat.beq (vt k) (vt k')&&decide (n=m)
 | .bool a,.bool b=>a==b
 | .string a,.string b=>decide (a.data.toList=b.data.toList)
 | .slice none 0 0,.slice none 0 0=>true
 | .pointer none,.pointer none=>true
 | .nilIface,.nilIface=>true
 | _,_=>false
theorem Mi{a b:Value}(h:It a b=true):a=b:=by
 unfold It at h
 split at h
 ·simp only[Bool.and_eq_true,decide_eq_true_eq] at h
  rw[tO h.1,h.2]
 ·simpa using h
 ·rename_i a b
  obtain⟨⟨a⟩⟩:=a;obtain⟨⟨b⟩⟩:=b
  have h':a=b:=by simpa using h
  rw[h']
 ·rfl
 ·rfl
 ·rfl
 ·cases h
def zZ:List Value→List Value→Bool
 | [],[]=>true
 | a::r,b::s=>It a b&&zZ r s
 | _,_=>false
theorem Cn:∀{a b:List Value},zZ a b=true→a=b
 | [],[],_=>rfl
 | a::r,b::s,h=>by simp only[zZ,Bool.and_eq_true] at h;rw[Mi h.1,Cn h.2]
 | [],_::_,h=>by cases h
 | _::_,[],h=>by cases h
def yo(P:Program)(tid:TypeId)(size:Nat)(zc:List Value):Bool :=
 match P.info? tid with
 | some i=>Nat.beq i.size size&&(match i.zero with|some z=>zZ z.cells.toList zc|none=>false)
 | none=>false
theorem gT{P:Program}{tid:TypeId}{size:Nat}{zc:List Value}(h:yo P tid size zc=true) :
  ∃i z,P.info? tid=some i∧i.size=size∧i.zero=some z∧z.cells.toList=zc:=by
 unfold yo at h
 split at h
 ·rename_i i hi
  simp only[Bool.and_eq_true] at h
  split at h
  ·rename_i z hz
   exact⟨i,z,hi,Nat.eq_of_beq_eq_true h.1,hz,Cn h.2⟩
  ·cases h.2
 ·cases h
def BA(P:Program)(tid:TypeId):Bool :=
 match P.info? tid with
 | some i=>Nat.ble i.bytes 32768
 | none=>false
def Ty.Qu:Ty→Bool
 | .alt _ _ r=>r.Qu
 | .vQ=>true
 | _=>false
def eK(P:Program):Ty→Bool→TypeId→Nat→List Field→Bool
 | .int k,false,tid,_,_=>(match P.underlying tid with|some (.int k')=>Nat.beq (vt k) (vt k')|_=>false)&&yo P tid 1 [.int k 0]
 | .bool,false,tid,_,_=>(match P.underlying tid with|some .bool=>true|_=>false)&&yo P tid 1 [.bool false]
 | .str,false,tid,_,_=>(match P.underlying tid with|some .string=>true|_=>false)&&yo P tid 1 [.string ⟨#[]⟩]
 | .slice e,false,tid,_,_=>(match P.underlying tid with|some (.slice eB)=>eK P e false eB 0 []&&BA P eB&&Nat.blt 0 e.size|_=>false)&&yo P tid 1 [.slice none 0 0]
 | .arr n e,false,tid,_,_=>(match P.underlying tid with|some (.array m eB)=>Nat.beq n m&&eK P e false eB 0 []&&Nat.blt 0 e.size|_=>false)&&yo P tid (n*e.size) (eC (.arr n e))&&!P.eqGuardType P.depth tid
 | .pair a b,false,tid,_,_=>(match P.underlying tid with
  | some (.struct fs)=>(match fs.toList with
    | f::r=>Nat.beq f.offset 0&&decide (f.name ≠ "_")&&eK P a false f.type 0 []&&Nat.blt 0 a.size&&eK P b true 0 a.size r
    | []=>false)
  | _=>false)&&yo P tid (a.size+b.size) (eC (.pair a b))&&!P.eqGuardType P.depth tid&&!P.stoodInHeld tid
 | .unit,false,tid,_,_=>false
 | .alt u _ r,false,tid,_,_=>eK P r false tid 0 []&&P.concrete u&&r.Qu
 | .vQ,false,tid,_,_=>(match P.underlying tid with|some (.interface _)=>true|_=>false)&&yo P tid 1 [.nilIface]
 | .pair a b,true,_,off,f::r=>Nat.beq f.offset off&&decide (f.name ≠ "_")&&eK P a false f.type 0 []&&Nat.blt 0 a.size&&eK P b true 0 (off+a.size) r
 | .unit,true,_,_,[]=>true
 | _,_,_,_,_=>false
def Den(P:Program)(t:Ty)(tid:TypeId):Prop:=eK P t false tid 0 []=true
def mS(P:Program)(t:Ty)(off:Nat)(fs:List Field):Prop:=eK P t true 0 off fs=true
section
variable {P:Program} {tid:TypeId}
theorem Den.int{k:IntKind}(h:Den P (.int k) tid):P.underlying tid=some (.int k):=by
 simp only[Den,eK,Bool.and_eq_true] at h
 have h1:=h.1
 split at h1
 ·rename_i k' hk;rw[hk,tO h1]
 ·cases h1
theorem Den.bool(h:Den P .bool tid):P.underlying tid=some .bool:=by
 simp only[Den,eK,Bool.and_eq_true] at h
 have h1:=h.1
 split at h1
 ·rename_i hk;rw[hk]
 ·cases h1
theorem Den.str(h:Den P .str tid):P.underlying tid=some .string:=by
 simp only[Den,eK,Bool.and_eq_true] at h
 have h1:=h.1
 split at h1
 ·rename_i hk;rw[hk]
 ·cases h1
theorem Den.slice{e:Ty}(h:Den P (.slice e) tid):∃eB,P.underlying tid=some (.slice eB)∧Den P e eB∧BA P eB=true∧0<e.size:=by
 simp only[Den,eK,Bool.and_eq_true] at h
 have h1:=h.1
 split at h1
 ·rename_i eB hk
  simp only[Bool.and_eq_true] at h1
  exact⟨eB,hk,h1.1.1,h1.1.2,by simpa using h1.2⟩
 ·cases h1
theorem Den.arr{n:Nat}{e:Ty}(h:Den P (.arr n e) tid):∃eB,P.underlying tid=some (.array n eB)∧Den P e eB∧0<e.size:=by
 simp only[Den,eK,Bool.and_eq_true] at h
 have h1:=h.1.1
 split at h1
 ·rename_i m eB hk
  simp only[Bool.and_eq_true] at h1
  rw[Nat.eq_of_beq_eq_true h1.1.1]
  exact⟨eB,hk,h1.1.2,by simpa using h1.2⟩
 ·cases h1
theorem Den.V5{n:Nat}{e:Ty}(h:Den P (.arr n e) tid):P.eqGuardType P.depth tid=false:=by
 simp only[Den,eK,Bool.and_eq_true,Bool.not_eq_true'] at h
 exact h.2
theorem Den.pair{a b:Ty}(h:Den P (.pair a b) tid):∃fs,P.underlying tid=some (.struct fs)∧mS P (.pair a b) 0 fs.toList∧P.eqGuardType P.depth tid=false∧P.stoodInHeld tid=false:=by
 simp only[Den,eK,Bool.and_eq_true] at h
 obtain⟨⟨⟨h1,h2⟩,h3⟩,h4⟩:=h
 split at h1
 ·rename_i fs hk
  refine⟨fs,hk,?_,by simpa using h3,by simpa using h4⟩
  split at h1
  ·rename_i f r hr
   simp only[mS,hr,eK,Nat.zero_add]
   exact h1
  ·cases h1
 ·cases h1
theorem Den.info{t:Ty}(h:Den P t tid):∃i z,P.info? tid=some i∧i.size=t.size∧i.zero=some z∧z.cells.toList=eC t:=by
 induction t with
 | int k=>simp only[Den,eK,Bool.and_eq_true] at h;exact gT h.2
 | bool=>simp only[Den,eK,Bool.and_eq_true] at h;exact gT h.2
 | str=>simp only[Den,eK,Bool.and_eq_true] at h;exact gT h.2
 | slice e=>simp only[Den,eK,Bool.and_eq_true] at h;exact gT h.2
 | arr n e=>simp only[Den,eK,Bool.and_eq_true] at h;exact gT h.1.2
 | pair a b=>simp only[Den,eK,Bool.and_eq_true] at h;exact gT h.1.1.2
 | unit=>simp[Den,eK] at h
 | alt u a r iQ ihr=>simp only[Den,eK,Bool.and_eq_true] at h;exact ihr h.1.1
 | vQ=>simp only[Den,eK,Bool.and_eq_true] at h;exact gT h.2
theorem Den.vQ(h:Den P .vQ tid):∃ms,P.underlying tid=some (.interface ms):=by
 simp only[Den,eK,Bool.and_eq_true] at h
 have h1:=h.1
 split at h1
 ·exact⟨_,by assumption⟩
 ·cases h1
theorem Den.rest{u:Nat}{a r:Ty}(h:Den P (.alt u a r) tid):Den P r tid∧P.concrete u=true:=by
 simp only[Den,eK,Bool.and_eq_true] at h;exact h.1
theorem Ty.Ea:∀{t:Ty},t.Qu=true→t.size=1∧t.isAgg=false:=by
 intro t
 induction t with
 | alt u a r iQ ihr=>intro h;exact ihr h
 | vQ=>intro h;exact⟨rfl,rfl⟩
 | _=>intro h;cases h
theorem Den.Qv{u:Nat}{a r:Ty}(_:Den P r tid)(h:Den P (.alt u a r) tid):r.size=1:=by
 simp only[Den,eK,Bool.and_eq_true] at h;exact(Ty.Ea h.2).1
theorem Den.agg{t:Ty}(h:Den P t tid)(w:World):(isAgg tid).run P w=.ok t.isAgg w:=by
 induction t with
 | alt u a r iQ ihr=>exact ihr h.rest.1
 | vQ=>obtain⟨_,h1⟩:=h.vQ;unfold Go.isAgg;simp[run_underlying h1,Ty.isAgg]
 | int k=>unfold Go.isAgg;simp[run_underlying h.int,Ty.isAgg]
 | bool=>unfold Go.isAgg;simp[run_underlying h.bool,Ty.isAgg]
 | str=>unfold Go.isAgg;simp[run_underlying h.str,Ty.isAgg]
 | slice e ih=>unfold Go.isAgg;obtain⟨_,h1,_⟩:=h.slice;simp[run_underlying h1,Ty.isAgg]
 | arr n e ih=>unfold Go.isAgg;obtain⟨_,h1,_⟩:=h.arr;simp[run_underlying h1,Ty.isAgg]
 | pair a b iQ kX=>unfold Go.isAgg;obtain⟨_,h1,_⟩:=h.pair;simp[run_underlying h1,Ty.isAgg]
 | unit=>simp[Den,eK] at h
theorem Den.sizeOf{t:Ty}(h:Den P t tid)(w:World):(Go.sizeOf tid).run P w=.ok t.size w:=by
 obtain⟨i,z,h1,h2,_⟩:=h.info
 simp[Go.sizeOf,typeInfo,h1,h2]
theorem Den.zero{t:Ty}(h:Den P t tid)(w:World):∃z,(zeroValue tid).run P w=.ok z w∧z.cells.toList=eC t:=by
 obtain⟨i,z,h1,h2,h3,h4⟩:=h.info
 exact⟨z,by simp[zeroValue,typeInfo,h1,h3],h4⟩
theorem Den.cells{t:Ty}(h:Den P t tid):P.cellsOf tid=t.size:=by
 obtain⟨i,z,h1,h2,_⟩:=h.info
 simp[Program.cellsOf,h1,h2]
theorem mS.cons{a b:Ty}{off:Nat}{fs:List Field}(h:mS P (.pair a b) off fs) :
  ∃f r,fs=f::r∧f.offset=off∧f.name ≠ "_"∧Den P a f.type∧0<a.size∧mS P b (off+a.size) r:=by
 cases fs with
 | nil=>simp[mS,eK] at h
 | cons f r =>
   simp only[mS,eK,Bool.and_eq_true] at h
   obtain⟨⟨⟨⟨h1,h2⟩,h3⟩,h4⟩,h5⟩:=h
   exact⟨f,r,rfl,Nat.eq_of_beq_eq_true h1,by simpa using h2,h3,by simpa using h4,h5⟩
theorem mS.at{t:Ty}:∀{off:Nat} {fs:List Field} {k:Nat} {u:Ty} {o:Nat},mS P t off fs→rG t k=some u→gR t k=some o →
  ∃f,fs[k]?=some f∧f.offset=off+o∧Den P u f.type∧0<u.size:=by
 induction t with
 | pair a b iQ kX =>
   intro off fs k u o h hu ho
   obtain⟨f,r,rfl,h1,h2,h3,h4,h5⟩:=h.cons
   cases k with
   | zero =>
     simp only[rG,gR,Option.some.injEq] at hu ho
     subst hu ho
     exact⟨f,rfl,by omega,h3,h4⟩
   | succ k =>
     simp only[rG,gR] at hu ho
     cases hb:gR b k with
     | none=>rw[hb] at ho;cases ho
     | some o' =>
       rw[hb] at ho
       simp only[Option.map_some,Option.some.injEq] at ho
       obtain⟨f',k1,k2,k3,k4⟩:=kX h5 hu hb
       exact⟨f',by simpa using k1,by omega,k3,k4⟩
 | _=>intro off fs k u o h hu ho;cases k<;>simp[rG] at hu
end
def kK.cells:kK→List Value
 | .dat t=>eC t
 | .buf _ _=>[.slice none 0 0]
 | _=>[.pointer none]
def Eb:List kK→List Value
 | []=>[]
 | f::r=>f.cells++Eb r
def Ub:List kK→Nat
 | []=>0
 | f::r=>f.size+Ub r
def Ht(P:Program):Nat→List kK→List Field→Bool
 | _,[],[]=>true
 | off,f::r,g::s=>Nat.beq g.offset off&&Nat.blt 0 f.size&&(match P.info? g.type with|some i=>Nat.beq i.size f.size|none=>false)&&Ht P (off+f.size) r s
 | _,_,_=>false
def Ec(P:Program)(tid:TypeId)(fs:List kK):Bool :=
 (match P.underlying tid with|some (.struct gs)=>Ht P 0 fs gs.toList|_=>false)&&yo P tid (Ub fs) (Eb fs)
theorem OQ{P:Program}{tid:TypeId}{fs:List kK}(h:Ec P tid fs=true)(w:World):∃z,(zeroValue tid).run P w=.ok z w∧z.cells.toList=Eb fs:=by
 simp only[Ec,Bool.and_eq_true] at h
 obtain⟨i,z,h1,h2,h3,h4⟩:=gT h.2
 exact⟨z,by simp[zeroValue,typeInfo,h1,h3],h4⟩
theorem Qw{P:Program}:∀{fs:List kK} {gs:List Field} {off k o:Nat},Ht P off fs gs=true→uI fs k=some o→∃f i,gs[k]?=some f∧f.offset=off+o∧P.info? f.type=some i∧0<i.size:=by
 intro fs
 induction fs with
 | nil=>intro gs off k o h ho;cases ho
 | cons f r ih =>
   intro gs off k o h ho
   cases gs with
   | nil=>cases h
   | cons g s =>
     simp only[Ht,Bool.and_eq_true] at h
     obtain⟨⟨⟨h1,h2⟩,h3⟩,h4⟩:=h
     cases k with
     | zero =>
       obtain rfl:=Option.some.inj ho
       split at h3
       ·rename_i i hi
        have V6:=Nat.eq_of_beq_eq_true h3
        have W9:0<f.size:=by simpa using h2
        exact⟨g,i,rfl,by rw[Nat.eq_of_beq_eq_true h1];rfl,hi,by omega⟩
       ·cases h3
     | succ k =>
       simp only[uI] at ho
       split at ho
       ·rename_i o' ho'
        obtain rfl:=Option.some.inj ho
        obtain⟨f',i,k1,k2,k3,k4⟩:=ih h4 ho'
        exact⟨f',i,k1,by omega,k3,k4⟩
       ·cases ho
theorem S0{P:Program}{tid:TypeId}{fs:List kK}{k o:Nat}(h:Ec P tid fs=true)(ho:uI fs k=some o):∃(gs:Array Field) (f:Field) (i:TypeInfo),P.underlying tid=some (.struct gs)∧gs.toList[k]?=some f∧f.offset=o∧P.info? f.type=some i∧0<i.size:=by
 simp only[Ec,Bool.and_eq_true] at h
 obtain⟨h1,_⟩:=h
 split at h1
 ·rename_i gs hg
  obtain⟨f,i,k1,k2,k3,k4⟩:=Qw h1 ho
  exact⟨gs,f,i,hg,k1,by omega,k3,k4⟩
 ·cases h1
theorem z6{P:Program}:∀{fs:List kK} {gs:List Field} {off:Nat},Ht P off fs gs=true→∃pl:List (Nat×Nat),gs.mapM (fun f=>(P.info? f.type).map fun i=>(f.offset,i.size))=some pl ∧
  ∀k o f,uI fs k=some o→fs[k]?=some f→pl[k]?=some (off+o,f.size):=by
 intro fs
 induction fs with
 | nil =>
   intro gs off h
   cases gs with
   | nil=>exact⟨[],rfl,fun k o f _ hf=>by cases hf⟩
   | cons g s=>cases h
 | cons f r ih =>
   intro gs off h
   cases gs with
   | nil=>cases h
   | cons g s =>
     simp only[Ht,Bool.and_eq_true] at h
     obtain⟨⟨⟨h1,h2⟩,h3⟩,h4⟩:=h
     obtain⟨pl,p1,p2⟩:=ih h4
     split at h3
     ·rename_i i hi
      refine⟨(g.offset,i.size)::pl,by simp[hi,p1],fun k o q ho hq=>?_⟩
      cases k with
      | zero =>
        obtain rfl:=Option.some.inj ho
        obtain rfl:=Option.some.inj hq
        rw[List.getElem?_cons_zero,Nat.eq_of_beq_eq_true h1,Nat.eq_of_beq_eq_true h3]
        rfl
      | succ k =>
        simp only[uI] at ho
        split at ho
        ·rename_i o' ho'
         obtain rfl:=Option.some.inj ho
         have:=p2 k o' q ho' (by simpa using hq)
         rw[List.getElem?_cons_succ,this,Nat.add_assoc]
        ·cases ho
     ·cases h3
structure eG (P:Program) (cx:Ctx):Prop where
 T:∀tid t,find cx.T tid=some t→Den P t tid
 mU:∀tid,cT cx.mU tid=true→(∀w,(isAgg tid).run P w=.ok false w)∧(∀w,(Go.sizeOf tid).run P w=.ok 1 w)∧∃z,(∀w,(zeroValue tid).run P w=.ok z w)∧z.oneCell'=true
 tP:∀tid,cT cx.tP tid=true→∃e,P.underlying tid=some (.pointer e)
 fns:∀f fn,find cx.fns f=some fn→P.funcs[f]?=some fn
 nV:∀tid fs,find cx.nV tid=some fs→Ec P tid fs=true
 els:∀tid e,find cx.els tid=some e→P.underlying tid=some (.slice e)
theorem gr{o:Option Ty}{t:Ty}(h:Bq o t=true):o=some t:=by
 unfold Bq at h
 split at h
 ·rw[Ty.eq_of_beq h]
 ·cases h
theorem addr_add(b o n:Nat):Addr.add ⟨b,o,none⟩ n=⟨b,o+n,none⟩:=by
 unfold Addr.add;split<;>simp_all
def splice(l:List Value)(off:Nat)(c:List Value):List Value:=l.take off++c++l.drop (off+c.length)
theorem bN{l c:List Value}{off:Nat}(h:off+c.length≤l.length):(splice l off c).length=l.length:=by
 simp[splice];omega
theorem l9.same{cur cur':Array Value}{fr:Nat×Nat}(h:l9 cur fr)(hs:cur'.size=cur.size):l9 cur' fr:=fun o ho=>h o (by omega)
section
variable {P:Program}
theorem SY.same{e:Ty}{cur cur':Array Value}{fr:Nat×Nat}(h:SY e cur fr)(hs:cur'.size=cur.size):SY e cur' fr:=⟨h.th.same hs,fun he=>by rw[hs];exact h.um he⟩
theorem dD(g o:Nat)(t:TypeId)(fr:Nat×Nat):∀(vs:List Value) (i:Nat) (cur:Array Value) (w:World),w.heap[g]?=some (.cells cur t fr)→l9 cur fr →
  o+i+vs.length≤cur.size→(∀v∈vs,v.oneCell'=true)→(storeCells ⟨g,o,none⟩ vs i).run P w=.ok () (w.setRow g (splice cur.toList (o+i) vs).toArray)
 | [],i,cur,w,hg,_,_,_=>by
   simp only[storeCells,splice,List.append_nil,List.length_nil,Nat.add_zero,List.take_append_drop,Array.toArray_toList]
   rw[setRow_self w g cur t fr hg]
   rfl
 | v::rest,i,cur,w,hg,JY,hl,h1=>by
   have hi:o+i<cur.size:=by simp at hl;omega
   have hcell:w.cell? ⟨g,o+i,none⟩=some cur[o+i]:=by simp[World.cell?,hg,hi]
   have Xy:w.frozen? ⟨g,o+i,none⟩=false:=by
    have:=JY (o+i) hi
    simp only[World.frozen?,hg]
    obtain⟨a,b⟩:=fr
    simp only[Bool.and_eq_false_iff,decide_eq_false_iff_not]
    simp only at this
    omega
   have hst:(store ((⟨g,o,none⟩:Addr).add i) v).run P w=.ok () (w.setRow g (cur.setIfInBounds (o+i) v)):=by
    rw[addr_add,run_store P w _ v _ (h1 v (by simp)),hcell]
    simp[Xy,setCell_eq_setRow w g (o+i) cur t fr v hg]
   have ih:=dD g o t fr rest (i+1) (cur.setIfInBounds (o+i) v) (w.setRow g (cur.setIfInBounds (o+i) v)) (setRow_heap w g cur _ t _ hg) (JY.same (by simp)) (by simp at hl⊢;omega) (fun x hx=>h1 x (by simp[hx]))
   simp only[storeCells,Sem.run_bind,hst,Result.andThen_ok,ih,setRow_setRow]
   congr 3
   have e:=list_seg_step cur.toList (o+i) v rest (by simp at hl⊢;omega)
   simpa [splice,Array.toList_setIfInBounds,Nat.add_assoc] using e
theorem cell_of_heap{w:World}{g:Nat}{cur:Array Value}{t:TypeId}{fr:Nat×Nat}(hg:w.heap[g]?=some (.cells cur t fr))(j:Nat):w.cell? ⟨g,j,none⟩=cur[j]?:=by
 simp[World.cell?,hg]
theorem yc{w:World}{g off n:Nat}{cur:Array Value}{t:TypeId}{fr:Nat×Nat}(hg:w.heap[g]?=some (.cells cur t fr))(h:off+n≤cur.size) :
  (loadCells ⟨g,off,none⟩ n).run P w=.ok ((cur.toList.drop off).take n).toArray w:=by
 have hl:((cur.toList.drop off).take n).length=n:=by simp;omega
 have:=run_loadCells_list (P:=P) w ⟨g,off,none⟩ ((cur.toList.drop off).take n) (fun j v hv=>by
  rw[addr_add,cell_of_heap hg]
  rw[List.getElem?_take] at hv
  split at hv
  ·rw[List.getElem?_drop] at hv;simpa using hv
  ·cases hv)
 rwa [hl] at this
theorem BB{w:World}{I:Nat→Nat→Prop}{g off:Nat}{cs:List Value}(h:zX w I g off cs):(loadCells ⟨g,off,none⟩ cs.length).run P w=.ok cs.toArray w :=
 run_loadCells_list (P:=P) w ⟨g,off,none⟩ cs (fun j v hv=>by rw[addr_add];exact(h j v hv).1)
end
end Go.Ge
namespace Go.Ge
set_option linter.unusedVariables false
theorem fQ{a b:Nat}(h:a≠b):Nat.beq a b=false:=by
 cases hb:Nat.beq a b
 ·rfl
 ·exact absurd (Nat.eq_of_beq_eq_true hb) h
theorem Qx(a:Act)(d t:Nat)(v:Value)(hd:d<a.tmps.size):(a.put (some d) v).tmps.getD t undef=if t=d then v else a.tmps.getD t undef:=by
 simp only[Act.put,Array.getD_eq_getD_getElem?,Array.getElem?_setIfInBounds]
 by_cases h:d=t
 ·subst h;simp[hd]
 ·rw[if_neg h,if_neg (fun e=>h e.symm)]
theorem JZ(a:Act)(d:Option Nat)(v:Value):(a.put d v).tmps.size=a.tmps.size:=by cases d<;>simp[Act.put]
theorem put_defers(a:Act)(d:Option Nat)(v:Value):(a.put d v).defers=a.defers:=by cases d<;>rfl
section
variable {B:nY} {N:Nat} {γ γ':Gh} {σ:St} {a:Act} {w w':World} {mem':Nat→Option bL}
theorem cG.step(h:cG B N γ σ a w)(hx:Ext B γ σ.mem w γ' mem' w')(hm:bz B γ' mem' w'){d:Nat}(hd:d<N){v:aQ}{val:Value}(hv:b8 γ' mem' w' v .val [val]) :
  cG B N γ' ({ slots:=σ.slots,mem:=mem':St }.put d v) (a.put (some d) val) w' where
 slots:=fun t=>by
  rw[Qx a d t val (by rw[h.size];exact hd)]
  simp only[St.put]
  by_cases e:t=d
  ·subst e;simpa using hv
  ·rw[if_neg e,fQ e];exact(h.slots t).ext hx
 size:=by rw[JZ];exact h.size
 defers:=by rw[put_defers];exact h.defers
 ok:=hm
theorem cG.go(h:cG B N γ σ a w)(hx:Ext B γ σ.mem w γ' mem' w')(hm:bz B γ' mem' w'):cG B N γ' { slots:=σ.slots,mem:=mem' } a w' where
 slots:=fun t=>(h.slots t).ext hx
 size:=h.size
 defers:=h.defers
 ok:=hm
theorem cG.aR(h:cG B N γ σ a w)(hx:Ext B γ σ.mem w γ' mem' w')(hm:bz B γ' mem' w'){d:Option Nat}(hd:∀k,d=some k→k<N){v:aQ}{val:Value}(hv:b8 γ' mem' w' v .val [val]) :
  cG B N γ' ({ slots:=σ.slots,mem:=mem':St }.aR d v) (a.put d val) w':=by
 cases d with
 | none=>exact h.go hx hm
 | some d=>exact h.step hx hm (hd d rfl) hv
theorem cG.rN(h:cG B N γ σ a w){d:Option Nat}(hd:∀k,d=some k→k<N){v:aQ}{val:Value}(hv:b8 γ σ.mem w v .val [val]) :
 cG B N γ (σ.aR d v) (a.put d val) w:=h.aR (Ext.refl _ _ _ _) h.ok hd hv
end
theorem de{γ:Gh}{mem:Nat→Option bL}{w:World}{t:Ty}{x:t.den}{v:Value}:b8 γ mem w (.data t x) .val [v]↔∃cs,bE w γ.I t x cs∧v=bQ t cs:=by
 simp only[b8,List.cons.injEq,and_true]
theorem OR(γ:Gh)(mem:Nat→Option bL)(w:World)(v:Value):b8 γ mem w (D2 v) .val [v]:=by
 unfold D2
 split
 ·rename_i k n
  cases hc:(decide (k.min≤n)&&decide (n≤k.max))
  ·exact⟨_,rfl⟩
  ·simp only[Bool.and_eq_true,decide_eq_true_eq] at hc
   exact⟨[.int k n],⟨rfl,hc.1,hc.2⟩,rfl⟩
 ·rename_i b;exact⟨[.bool b],rfl,rfl⟩
 ·rename_i s
  cases hc:Nat.ble s.data.toList.length 4294967296
  ·exact⟨_,rfl⟩
  ·refine⟨[.string s],⟨?_,?_⟩,rfl⟩
   ·obtain⟨⟨l⟩⟩:=s;rfl
   ·have:=Nat.le_of_ble_eq_true hc
    simp only[maxLen];omega
 ·rfl
 ·rfl
 ·rfl
 ·exact⟨_,rfl⟩
theorem cG.cq{B:nY}{N:Nat}{γ:Gh}{σ:St}{a:Act}{w:World}(h:cG B N γ σ a w)(x:Operand):b8 γ σ.mem w (cq σ x) .val [a.eval x]:=by
 cases x with
 | tmp t=>exact h.slots t
 | const v=>exact OR _ _ _ v
 | global g=>exact⟨_,rfl⟩
 | func f=>exact⟨#[],rfl,rfl,fun i b ax hc=>by simp at hc⟩
theorem b8.ni{γ:Gh}{mem:Nat→Option bL}{w:World}{v:aQ}{x:Value}(h:b8 γ mem w v .val [x])(hv:∀u,v≠.yT u)(h0:v=.undef→x.oneCell'=true):b8 γ mem w v .cells x.cells.toList:=by
 cases v with
 | undef=>exact⟨x,by cases x<;>first|rfl|(have:=h0 rfl;simp[Value.oneCell'] at this),h0 rfl⟩
 | data t y=>obtain⟨cs,h1,h2⟩:=de.1 h;subst h2;show bE _ _ _ _ _;rw[oX h1];exact h1
 | lz=>obtain rfl:x=_:=by simpa [b8] using h
       rfl
 | oA=>obtain rfl:x=_:=by simpa [b8] using h
       rfl
 | pN=>obtain rfl:x=_:=by simpa [b8] using h
       rfl
 | sF b ax=>obtain⟨⟨v,h1,h2⟩,h3⟩:=h;simp at h1;subst h1;refine⟨⟨x,?_,h2⟩,?_⟩
            ·cases x<;>first|rfl|(simp[Value.oneCell'] at h2)
            ·obtain⟨bx,k1,k2,k3⟩:=h3
             exact⟨bx,k1,k2,fun e=>by
              obtain⟨blk,cap,j1,j2⟩:=k3 e
              refine⟨blk,cap,j1,?_⟩
              rcases j2 with j2|j2
              ·simp at j2;subst j2;exact .inl rfl
              ·simp at j2;subst j2;exact .inr rfl⟩
 | cell t y=>obtain⟨blk,off,cs,h1,h2,h3⟩:=h;simp at h1;subst h1;exact⟨blk,off,cs,rfl,h2,h3⟩
 | ptr b ax p=>obtain⟨⟨v,h1,h2⟩,h3⟩:=h;simp at h1;subst h1;refine⟨⟨x,?_,h2⟩,?_⟩
               ·cases x<;>first|rfl|(simp[Value.oneCell'] at h2)
               ·obtain⟨bx,k1,k2,k3⟩:=h3;exact⟨bx,k1,k2,fun e=>by obtain⟨blk,cap,j1,j2⟩:=k3 e;simp at j2;subst j2;exact⟨blk,cap,j1,rfl⟩⟩
 | whole b ax=>obtain⟨⟨v,h1,h2⟩,h3⟩:=h;simp at h1;subst h1;refine⟨⟨x,?_,h2⟩,?_⟩
               ·cases x<;>first|rfl|(simp[Value.oneCell'] at h2)
               ·obtain⟨bx,k1,k2,k3⟩:=h3
                exact⟨bx,k1,k2,fun e=>by
                 obtain⟨u,n,j1,j2,j3⟩:=k3 e
                 refine⟨u,n,j1,j2,?_⟩
                 rcases j3 with ⟨j3,j4⟩|⟨blk,cap,j3,j4⟩
                 ·simp at j4;subst j4;exact .inl ⟨j3,rfl⟩
                 ·simp at j4;subst j4;exact .inr ⟨blk,cap,j3,rfl⟩⟩
 | part b ax lo n=>obtain⟨⟨v,h1,h2⟩,h3⟩:=h;simp at h1;subst h1;refine⟨⟨x,?_,h2⟩,?_⟩
                   ·cases x<;>first|rfl|(simp[Value.oneCell'] at h2)
                   ·obtain⟨bx,k1,k2,k3⟩:=h3
                    exact⟨bx,k1,k2,fun e=>by
                     obtain⟨u,k,j1,j2,j3,j4,base,cap,j5,j6⟩:=k3 e
                     simp at j5;subst j5;exact⟨u,k,j1,j2,j3,j4,base,cap,rfl,j6⟩⟩
 | win b ax q e k lo n=>obtain⟨⟨v,h1,h2⟩,h3⟩:=h;simp at h1;subst h1;refine⟨⟨x,?_,h2⟩,?_⟩
                        ·cases x<;>first|rfl|(simp[Value.oneCell'] at h2)
                        ·obtain⟨bx,k1,k2,k3⟩:=h3
                         exact⟨bx,k1,k2,fun e=>by
                          obtain⟨j0,u,c,j1,j2,j3,j4,base,cap,j5,j6⟩:=k3 e
                          simp at j5;subst j5;exact⟨j0,u,c,j1,j2,j3,j4,base,cap,rfl,j6⟩⟩
 | fn f caps=>obtain⟨arr,h1,h2⟩:=h;simp at h1;subst h1;exact⟨arr,rfl,h2⟩
 | mix p q=>obtain⟨c1,c2,h1,h2,h3⟩:=h;simp at h1;subst h1;exact⟨c1,c2,by simp[Value.cells],h2,h3⟩
 | yT u=>exact absurd rfl (hv u)
 | nl=>exact h.elim
theorem b8.length{γ:Gh}{mem:Nat→Option bL}{w:World}:∀{v:aQ} {cs:List Value},b8 γ mem w v .cells cs→cs.length=dY v:=by
 intro v
 induction v with
 | data t x=>intro cs h;exact bE.length h
 | mix a b iQ kX=>intro cs h;obtain⟨c1,c2,rfl,h1,h2⟩:=h;rw[List.length_append,iQ h1,kX h2];rfl
 | undef=>intro cs h;obtain⟨v,rfl,_⟩:=h;rfl
 | lz=>intro cs h;rw[show cs=_ from h];rfl
 | oA=>intro cs h;rw[show cs=_ from h];rfl
 | pN=>intro cs h;rw[show cs=_ from h];rfl
 | sF b ax=>intro cs h;obtain⟨⟨_,rfl,_⟩,_⟩:=h;rfl
 | cell t x=>intro cs h;obtain⟨_,_,_,rfl,_⟩:=h;rfl
 | ptr b ax p=>intro cs h;obtain⟨⟨_,rfl,_⟩,_⟩:=h;rfl
 | whole b ax=>intro cs h;obtain⟨⟨_,rfl,_⟩,_⟩:=h;rfl
 | part b ax lo n=>intro cs h;obtain⟨⟨_,rfl,_⟩,_⟩:=h;rfl
 | win b ax q e k lo n=>intro cs h;obtain⟨⟨_,rfl,_⟩,_⟩:=h;rfl
 | fn f caps=>intro cs h;obtain⟨_,rfl,_⟩:=h;rfl
 | yT u ih=>intro cs h;exact h.elim
 | nl=>intro cs h;exact h.elim
theorem b8.one{γ:Gh}{mem:Nat→Option bL}{w:World}:∀{v:aQ} {cs:List Value},b8 γ mem w v .cells cs→∀c∈cs,c.oneCell'=true:=by
 intro v
 induction v with
 | data t x=>intro cs h;exact bE.one h
 | mix a b iQ kX =>
   intro cs h c hc;obtain⟨c1,c2,rfl,h1,h2⟩:=h
   rcases List.mem_append.1 hc with hc|hc
   ·exact iQ h1 c hc
   ·exact kX h2 c hc
 | undef=>intro cs h c hc;obtain⟨v,rfl,h1⟩:=h;simp at hc;subst hc;exact h1
 | lz=>intro cs h c hc;rw[show cs=_ from h] at hc;simp at hc;subst hc;rfl
 | oA=>intro cs h c hc;rw[show cs=_ from h] at hc;simp at hc;subst hc;rfl
 | pN=>intro cs h c hc;rw[show cs=_ from h] at hc;simp at hc;subst hc;rfl
 | sF b ax=>intro cs h c hc;obtain⟨⟨_,rfl,h1⟩,_⟩:=h;simp at hc;subst hc;exact h1
 | cell t x=>intro cs h c hc;obtain⟨_,_,_,rfl,_⟩:=h;simp at hc;subst hc;rfl
 | ptr b ax p=>intro cs h c hc;obtain⟨⟨_,rfl,h1⟩,_⟩:=h;simp at hc;subst hc;exact h1
 | whole b ax=>intro cs h c hc;obtain⟨⟨_,rfl,h1⟩,_⟩:=h;simp at hc;subst hc;exact h1
 | part b ax lo n=>intro cs h c hc;obtain⟨⟨_,rfl,h1⟩,_⟩:=h;simp at hc;subst hc;exact h1
 | win b ax q e k lo n=>intro cs h c hc;obtain⟨⟨_,rfl,h1⟩,_⟩:=h;simp at hc;subst hc;exact h1
 | fn f caps=>intro cs h c hc;obtain⟨_,rfl,_⟩:=h;simp at hc;subst hc;rfl
 | yT u ih=>intro cs h;exact h.elim
 | nl=>intro cs h;exact h.elim
theorem pO{α:Type}{l:List α}{i:Int}{x:α}(h:idx l i=some x):0≤i∧l[i.toNat]?=some x:=by
 unfold idx at h
 split at h
 ·rename_i h0;exact⟨h0,h⟩
 ·cases h
theorem yW{w:World}{I:Nat→Nat→Prop}:∀{t:Ty} {x:t.den} {cs:List Value} {k o:Nat} {u:aQ},bE w I t x cs→l8 t x k=some (o,u) →
  ∃(t':Ty) (y:t'.den),u=.data t' y∧rG t k=some t'∧gR t k=some o∧o+t'.size≤cs.length∧bE w I t' y ((cs.drop o).take t'.size):=by
 intro t
 induction t with
 | pair a b iQ kX =>
   intro x cs k o u h hk
   obtain⟨c1,c2,rfl,h1,h2⟩:=h
   cases k with
   | zero =>
     simp only[l8,Option.some.injEq,Prod.mk.injEq] at hk
     obtain⟨rfl,rfl⟩:=hk
     refine⟨a,x.1,rfl,rfl,rfl,by rw[List.length_append,h1.length];omega,?_⟩
     rw[List.drop_zero,←h1.length,List.take_left];exact h1
   | succ k =>
     simp only[l8] at hk
     cases hf:l8 b x.2 k with
     | none=>rw[hf] at hk;cases hk
     | some r =>
       rw[hf] at hk
       simp only[Option.some.injEq,Prod.mk.injEq] at hk
       obtain⟨rfl,rfl⟩:=hk
       obtain⟨t',y,k1,k2,k3,k4,k5⟩:=kX h2 (show l8 b x.2 k=some (r.1,r.2) from hf)
       refine⟨t',y,k1,k2,by simp[gR,k3],by rw[List.length_append,h1.length];omega,?_⟩
       rw[←h1.length,←List.drop_drop,List.drop_left];exact k5
 | _=>intro x cs k o u h hk;cases k<;>simp[l8] at hk
theorem BC{γ:Gh}{mem:Nat→Option bL}{w:World}:∀{v:aQ} {cs:List Value} {k o:Nat} {u:aQ},b8 γ mem w v .cells cs→jV v k=some (o,u) →
  o+dY u≤cs.length∧b8 γ mem w u .cells ((cs.drop o).take (dY u)):=by
 intro v
 induction v with
 | data t x =>
   intro cs k o u h hk
   obtain⟨t',y,rfl,_,_,h1,h2⟩:=yW (w:=w) h hk
   exact⟨h1,h2⟩
 | mix a b iQ kX =>
   intro cs k o u h hk
   obtain⟨c1,c2,rfl,h1,h2⟩:=h
   cases k with
   | zero =>
     simp only[jV,Option.some.injEq,Prod.mk.injEq] at hk
     obtain⟨rfl,rfl⟩:=hk
     refine⟨by rw[List.length_append,h1.length];omega,?_⟩
     rw[List.drop_zero,←h1.length,List.take_left];exact h1
   | succ k =>
     simp only[jV] at hk
     cases hf:jV b k with
     | none=>rw[hf] at hk;cases hk
     | some r =>
       rw[hf] at hk
       simp only[Option.some.injEq,Prod.mk.injEq] at hk
       obtain⟨rfl,rfl⟩:=hk
       obtain⟨k4,k5⟩:=kX h2 (show jV b k=some (r.1,r.2) from hf)
       refine⟨by rw[List.length_append,h1.length];omega,?_⟩
       rw[←h1.length,←List.drop_drop,List.drop_left];exact k5
 | _=>intro cs k o u h hk;cases k<;>simp[jV] at hk
theorem DP{γ:Gh}{mem:Nat→Option bL}{w:World}{t:Ty}{v:aQ}{z:t.den}{es:List Value}(h:Qb t v=some z)(hv:b8 γ mem w v .cells es):bE w γ.I t z es:=by
 cases v with
 | data u y =>
   obtain⟨e,e2⟩:=Ty.iY (show Ty.to u t y=some z from h)
   subst e;subst e2;exact hv
 | _=>cases h
theorem bind_some{α β:Type}{t:Tree α}{f:α→Tree β}{y:β}(h:(t.bind f).run=some y):∃x,t.run=some x∧(f x).run=some y:=by
 rw[Tree.run_bind] at h
 exact Option.bind_eq_some_iff.1 h
theorem bR{T α:Type}{o:Option T}{k:T→Tree α}{y:α}(h:(Tree.look o k).run=some y):∃x,o=some x∧(k x).run=some y:=by
 cases o with
 | none=>cases h
 | some x=>exact⟨x,rfl,h⟩
theorem b9{α:Type}{c:Bool}{t:Tree α}{y:α}(h:(Tree.need c t).run=some y):c=true∧t.run=some y:=by
 cases c with
 | false=>cases h
 | true=>exact⟨rfl,h⟩
theorem aA{α:Type}{c:Bool}{t:Tree α}{y:α}(h:(bif c then t else .fail).run=some y):c=true∧t.run=some y:=by
 cases c with
 | false=>cases h
 | true=>exact⟨rfl,h⟩
theorem eU{α:Type}{c:Bool}{t e:Tree α}{y:α}(h:(Tree.node c t e).run=some y):(bif c then t else e).run=some y:=by
 cases c<;>exact h
section
variable {γ:Gh} {mem:Nat→Option bL} {w:World}
theorem J0:∀{t:Ty} {x:t.den} {cs:List Value} {k o:Nat} {u:aQ} {y:t.den} {f:aQ→Tree aQ} {es:List Value},
  bE w γ.I t x cs→l8 t x k=some (o,u)→(∀v,(f u).run=some v→b8 γ mem w v .cells es)→(DG t x k f).run=some y→es.length=dY u →
  bE w γ.I t y (splice cs o es):=by
 intro t
 induction t with
 | pair a b iQ kX =>
   intro x cs k o u y f es h hk hf hs hl
   obtain⟨c1,c2,rfl,h1,h2⟩:=h
   cases k with
   | zero =>
     simp only[l8,Option.some.injEq,Prod.mk.injEq] at hk
     obtain⟨rfl,rfl⟩:=hk
     obtain⟨v,hf',hs⟩:=bind_some hs
     have he:=hf v hf'
     cases hv:Qb a v with
     | none=>rw[hv] at hs;cases hs
     | some z =>
       rw[hv] at hs
       obtain rfl:=Option.some.inj hs
       simp only[dY] at hl
       refine⟨es,c2,?_,DP hv he,h2⟩
       simp only[splice,List.take_zero,List.nil_append,Nat.zero_add]
       rw[show es.length=c1.length by rw[hl,h1.length],List.drop_left]
   | succ k =>
     simp only[l8] at hk
     cases UC:l8 b x.2 k with
     | none=>rw[UC] at hk;cases hk
     | some r =>
       rw[UC] at hk
       simp only[Option.some.injEq,Prod.mk.injEq] at hk
       obtain⟨rfl,rfl⟩:=hk
       obtain⟨z,hq,hs⟩:=bind_some hs
       obtain rfl:=Option.some.inj hs
       have:=kX h2 (show l8 b x.2 k=some (r.1,r.2) from UC) hf hq hl
       refine⟨c1,splice c2 r.1 es,?_,h1,this⟩
       simp only[splice,←h1.length,List.take_length_add_append,List.append_assoc]
       congr 1;congr 1;congr 1
       rw[Nat.add_assoc,←List.drop_drop,List.drop_left]
 | _=>intro x cs k o u y f es h hk;cases k<;>simp[l8] at hk
theorem Ed:∀{v0:aQ} {cs:List Value} {k o:Nat} {u c:aQ} {f:aQ→Tree aQ} {es:List Value},
  b8 γ mem w v0 .cells cs→jV v0 k=some (o,u)→(∀v,(f u).run=some v→b8 γ mem w v .cells es)→(Bp v0 k f).run=some c→es.length=dY u →
  b8 γ mem w c .cells (splice cs o es):=by
 intro v0
 induction v0 with
 | data t x =>
   intro cs k o u c f es h hk hf hs hl
   obtain⟨y,hy,hs⟩:=bind_some hs
   obtain rfl:=Option.some.inj hs
   exact J0 h hk hf hy hl
 | mix a b iQ kX =>
   intro cs k o u c f es h hk hf hs hl
   obtain⟨c1,c2,rfl,h1,h2⟩:=h
   cases k with
   | zero =>
     simp only[jV,Option.some.injEq,Prod.mk.injEq] at hk
     obtain⟨rfl,rfl⟩:=hk
     obtain⟨v,hf',hs⟩:=bind_some hs
     have he:=hf v hf'
     obtain rfl:=Option.some.inj hs
     refine⟨es,c2,?_,he,h2⟩
     simp only[splice,List.take_zero,List.nil_append,Nat.zero_add]
     rw[show es.length=c1.length by rw[hl,h1.length],List.drop_left]
   | succ k =>
     simp only[jV] at hk
     cases UC:jV b k with
     | none=>rw[UC] at hk;cases hk
     | some r =>
       rw[UC] at hk
       simp only[Option.some.injEq,Prod.mk.injEq] at hk
       obtain⟨rfl,rfl⟩:=hk
       obtain⟨z,hq,hs⟩:=bind_some hs
       obtain rfl:=Option.some.inj hs
       have:=kX h2 (show jV b k=some (r.1,r.2) from UC) hf hq hl
       refine⟨c1,splice c2 r.1 es,?_,h1,this⟩
       simp only[splice,←h1.length,List.take_length_add_append,List.append_assoc]
       congr 1;congr 1;congr 1
       rw[Nat.add_assoc,←List.drop_drop,List.drop_left]
 | _=>intro cs k o u c f es h hk;cases k<;>simp[jV] at hk
theorem uN:∀{p:List Ci} {v u:aQ} {cs:List Value},b8 γ mem w v .cells cs→(Qc p v).run=some u→cz p+dY u≤cs.length∧b8 γ mem w u .cells ((cs.drop (cz p)).take (dY u)):=by
 intro p
 induction p with
 | nil =>
   intro v u cs h hn
   obtain rfl:=Option.some.inj hn
   have hl:=h.length
   refine⟨by simp[cz];omega,?_⟩
   rw[show cz []=0 from rfl,List.drop_zero,←hl,List.take_length];exact h
 | cons s p ih =>
   intro v u cs h hn
   cases s with
   | qI k off =>
     simp only[Qc] at hn
     cases hf:jV v k with
     | none=>rw[hf] at hn;cases hn
     | some r =>
       rw[hf] at hn
       obtain⟨hb,hn2⟩:=aA hn
       have hoff:=Nat.eq_of_beq_eq_true hb
       obtain⟨h1,h2⟩:=BC h (show jV v k=some (r.1,r.2) from hf)
       obtain⟨h3,h4⟩:=ih h2 hn2
       have hl:=h2.length
       simp only[cz,←hoff]
       rw[hl] at h3
       refine⟨by omega,?_⟩
       rw[List.drop_take,List.take_take,List.drop_drop,Nat.min_eq_left (by omega)] at h4
       exact h4
   | idx i size =>
     simp only[Qc] at hn
     split at hn
     ·rename_i n e l
      obtain⟨hb,hn2⟩:=aA hn
      have hsz:=Nat.eq_of_beq_eq_true hb
      obtain⟨x,hx,S1⟩:=bR hn2
      obtain⟨h0,hx2⟩:=pO hx
      obtain⟨k1,k2,k3⟩:=h
      have hr:=k3 _ x hx2
      obtain⟨h3,h4⟩:=ih (v:=.data e x) (show b8 γ mem w (.data e x) .cells _ from hr) S1
      have hl:=hr.length
      have hi:i.toNat<n:=by have:=(List.getElem?_eq_some_iff.1 hx2).1;omega
      have hm:(i.toNat+1)*e.size≤n*e.size:=Nat.mul_le_mul_right _ hi
      rw[Nat.succ_mul] at hm
      rw[hl] at h3
      simp only[cz,hsz]
      refine⟨by omega,?_⟩
      rw[List.drop_take,List.take_take,List.drop_drop,Nat.min_eq_left (by omega)] at h4
      exact h4
     ·cases hn
theorem oY(cs:List Value)(a b:Nat)(n:Nat)(es:List Value)(h:b+es.length≤n)(hn:a+n≤cs.length) :
  splice cs a (splice ((cs.drop a).take n) b es)=splice cs (a+b) es:=by
 have hl:((cs.drop a).take n).length=n:=by simp;omega
 have hls:(splice ((cs.drop a).take n) b es).length=n:=by rw[bN (by omega),hl]
 have e1:splice cs a (splice ((cs.drop a).take n) b es)=cs.take a++splice ((cs.drop a).take n) b es++cs.drop (a+n):=by
  rw[splice,hls]
 rw[e1]
 simp only[splice,List.append_assoc]
 rw[List.take_take,Nat.min_eq_left (by omega),←List.append_assoc,←List.take_add]
 congr 1;congr 1
 have:cs.drop (a+n)=(cs.drop a).drop n:=by rw[List.drop_drop]
 rw[this,←List.drop_append_of_le_length (by rw[hl];exact h),List.take_append_drop,List.drop_drop,Nat.add_assoc]
theorem Ee{I:Nat→Nat→Prop}{e:Ty}{n:Nat}{l:List e.den}{cs es:List Value}{i:Nat}{y:e.den}(hl:l.length=n)(hc:n*e.size≤cs.length)
  (h:∀(j:Nat) (x:e.den),l[j]?=some x→bE w I e x ((cs.drop (j*e.size)).take e.size)) (hi:i<n) (hy:bE w I e y es) :
  ∀(j:Nat) (x:e.den),(l.set i y)[j]?=some x→bE w I e x (((splice cs (i*e.size) es).drop (j*e.size)).take e.size):=by
 intro j x hx
 have hel:=hy.length
 have hm:(i+1)*e.size≤n*e.size:=Nat.mul_le_mul_right _ hi
 rw[Nat.succ_mul] at hm
 have htl:(cs.take (i*e.size)).length=i*e.size:=by rw[List.length_take];omega
 rw[List.getElem?_set] at hx
 split at hx
 ·rename_i hij
  subst hij
  split at hx
  ·obtain rfl:=Option.some.inj hx
   have:((splice cs (i*e.size) es).drop (i*e.size)).take e.size=es:=by
    rw[splice,List.append_assoc]
    conv=>lhs;arg 2;arg 1;rw[←htl]
    rw[htl,List.drop_left' htl,←hel,List.take_left]
   rw[this];exact hy
  ·cases hx
 ·rename_i hij
  have hj:j<n:=by have:=(List.getElem?_eq_some_iff.1 hx).1;omega
  have Zs:(j+1)*e.size≤n*e.size:=Nat.mul_le_mul_right _ hj
  rw[Nat.succ_mul] at Zs
  have key:((splice cs (i*e.size) es).drop (j*e.size)).take e.size=(cs.drop (j*e.size)).take e.size:=by
   apply List.ext_getElem?
   intro q
   rw[List.getElem?_take,List.getElem?_take]
   split
   ·rename_i hq
    rw[List.getElem?_drop,List.getElem?_drop,splice]
    rcases Nat.lt_or_ge j i with h1|h1
    ·have:(j+1)*e.size≤i*e.size:=Nat.mul_le_mul_right _ h1
     rw[Nat.succ_mul] at this
     rw[List.append_assoc,List.getElem?_append_left (by omega),List.getElem?_take,if_pos (by omega)]
    ·have:(i+1)*e.size≤j*e.size:=Nat.mul_le_mul_right _ (by omega)
     rw[Nat.succ_mul] at this
     rw[List.getElem?_append_right (by rw[List.length_append];omega),List.getElem?_drop,List.length_append,htl]
     congr 1;omega
   ·rfl
  rw[key];exact h j x hx
theorem yX:∀{p:List Ci} {v u0 u c:aQ} {cs es:List Value},b8 γ mem w v .cells cs→(Qc p v).run=some u0→(uG p v u).run=some c→b8 γ mem w u .cells es→es.length=dY u0 →
  b8 γ mem w c .cells (splice cs (cz p) es):=by
 intro p
 induction p with
 | nil =>
   intro v u0 u c cs es h hn hs he hl
   obtain rfl:=Option.some.inj hn
   obtain rfl:=Option.some.inj hs
   have:=h.length
   simp only[cz,splice,List.take_zero,List.nil_append,Nat.zero_add]
   rw[List.drop_of_length_le (by omega),List.append_nil];exact he
 | cons s p ih =>
   intro v u0 u c cs es h hn hs he hl
   cases s with
   | qI k off =>
     simp only[Qc] at hn
     cases hf:jV v k with
     | none=>rw[hf] at hn;cases hn
     | some r =>
       rw[hf] at hn
       obtain⟨hb,hn2⟩:=aA hn
       have hoff:=Nat.eq_of_beq_eq_true hb
       obtain⟨h1,h2⟩:=BC h (show jV v k=some (r.1,r.2) from hf)
       obtain⟨h3,h4⟩:=uN h2 hn2
       have Gg:=h2.length
       rw[Gg] at h3
       have:=Ed (f:=fun w=>uG p w u) h (show jV v k=some (r.1,r.2) from hf) (fun z hq=>ih (u:=u) h2 hn2 hq he hl) hs (by rw[bN (by rw[Gg,hl];exact h3),Gg])
       rw[oY cs r.1 (cz p) (dY r.2) es (by omega) h1,hoff] at this
       exact this
   | idx i size =>
     simp only[Qc] at hn
     split at hn
     ·rename_i n e l
      obtain⟨hb,hn2⟩:=aA hn
      have hsz:=Nat.eq_of_beq_eq_true hb
      obtain⟨x,hx,S1⟩:=bR hn2
      simp only[uG] at hs
      obtain⟨x',hx',hs2⟩:=bR hs
      obtain rfl:x=x':=Option.some.inj (hx.symm.trans hx')
      obtain⟨z,hq,hs3⟩:=bind_some hs2
      cases hz:Qb e z with
      | none=>rw[hz] at hs3;cases hs3
      | some y =>
        rw[hz] at hs3
        obtain rfl:=Option.some.inj hs3
        obtain⟨h0,hx2⟩:=pO hx
        obtain⟨k1,k2,k3⟩:=h
        have hr:=k3 _ x hx2
        have hi:i.toNat<n:=by have:=(List.getElem?_eq_some_iff.1 hx2).1;omega
        have hm:(i.toNat+1)*e.size≤n*e.size:=Nat.mul_le_mul_right _ hi
        rw[Nat.succ_mul] at hm
        have V7:b8 γ mem w (.data e x) .cells ((cs.drop (i.toNat*e.size)).take e.size):=hr
        obtain⟨h3,h4⟩:=uN V7 S1
        have hrl:=hr.length
        rw[hrl] at h3
        have Xz:=DP hz (ih V7 S1 hq he hl)
        have Qd:(splice ((cs.drop (i.toNat*e.size)).take e.size) (cz p) es).length=e.size:=by rw[bN (by rw[hrl,hl];exact h3),hrl]
        have e1:=oY cs (i.toNat*e.size) (cz p) e.size es (by omega) (by omega)
        simp only[cz,hsz]
        rw[←e1]
        refine⟨?_,?_,?_⟩
        ·exact(@List.length_set _ (l:List e.den) _ _).trans k1
        ·rw[bN (by omega)];exact k2
        ·exact Ee k1 (by omega) k3 hi Xz
     ·cases hn
end
end Go.Ge
namespace Go.Ge
set_option linter.unusedVariables false
open RowKit
section
variable {B:nY} {γ γ':Gh} {mem mem':Nat→Option bL} {w w':World}
theorem cw.keep{c:Nat}{bx:bL}(h:cw γ mem w c bx)(hx:Ext B γ mem w γ' mem' w')(hl:γ'.loc c=γ.loc c)
  (hb:∀blk k,γ.loc c=some (blk,k)→w'.heap[blk]?=w.heap[blk]?):cw γ' mem' w' c bx:=by
 unfold cw at h⊢
 cases bF:bx.buf with
 | true =>
   rw[bF] at h
   obtain⟨e,l,h1,h2,h3⟩:=h
   refine⟨e,l,h1,h2,?_⟩
   rcases h3 with ⟨h3,h4⟩|⟨blk,cap,cur,tid,fr,h3,h4,h5,gk,h6,h7,h8,h9⟩
   ·exact .inl ⟨hl.trans h3,h4⟩
   ·exact .inr ⟨blk,cap,cur,tid,fr,hl.trans h3,(hb _ _ h3).trans h4,h5,gk,h6,h7,h8,fun i x hi=>bE.mono hx.I hx.cells (h9 i x hi)⟩
 | false =>
   rw[bF] at h
   obtain⟨blk,cap,cur,tid,fr,h3,h4,h5,hk,h6⟩:=h
   exact⟨blk,cap,cur,tid,fr,hl.trans h3,(hb _ _ h3).trans h4,h5,hk,h6.ext hx⟩
theorem cQ{a:Addr}(h:w'.heap[a.block]?=w.heap[a.block]?):w'.cell? a=w.cell? a:=by simp[World.cell?,h]
def bD(γ:Gh)(b:Nat)(L:Option (Nat×Nat)):Gh:={ γ with loc:=fun i=>if i=b then L else γ.loc i }
def cc(mem:Nat→Option bL)(b:Nat)(bx:bL):Nat→Option bL:=fun i=>bif Nat.beq i b then some bx else mem i
theorem bt(b:Nat)(bx:bL):cc mem b bx b=some bx:=by simp[cc]
theorem aM{b c:Nat}(bx:bL)(h:c≠b):cc mem b bx c=mem c:=by simp[cc,fQ h]
theorem qL(h:bz B γ mem w){b:Nat}{bx:bL}{L:Option (Nat×Nat)}(aZ:∀cK,mem b=some cK→cK.ax<bx.ax)
  (hw:rM B w w') (hold:∀k,k<w.heap.size→w'.heap[k]?=w.heap[k]?):Ext B γ mem w (bD γ b L) (cc mem b bx) w' where
 below:=hw
 I:=fun _ _ x=>x
 nh:=fun _ _ x=>.inl x
 cells:=fun blk o x=>cQ (hold blk (h.qu blk o x))
 boxes:=fun c cx hc=>by
  by_cases e:c=b
  ·subst e
   refine⟨bx,bt _ _,Nat.le_of_lt (aZ _ hc),fun e=>absurd e ?_⟩
   have:=aZ _ hc;omega
  ·exact⟨cx,by rw[aM _ e];exact hc,Nat.le_refl _,fun _=>⟨by simp[bD,e],rfl,rfl⟩⟩
theorem bz.add(h:bz B γ mem w){b:Nat}{bx:bL}{L:Option (Nat×Nat)}(aZ:∀cK,mem b=some cK→cK.ax<bx.ax)
  (hw:rM B w w') (hold:∀k,k<w.heap.size→w'.heap[k]?=w.heap[k]?) (hL:∀blk k,L=some (blk,k)→w.heap.size≤blk∧blk<w'.heap.size)
  (gz:cw (bD γ b L) (cc mem b bx) w' b bx):bz B (bD γ b L) (cc mem b bx) w' where
 aU:=h.zY (qL (L:=L) h aZ hw hold)
 base:=Nat.le_trans h.base hw.size
 boxes:=fun c cx hc=>by
  by_cases e:c=b
  ·subst e
   rw[bt] at hc
   obtain rfl:=Option.some.inj hc
   exact gz
  ·rw[aM _ e] at hc
   refine(h.boxes c cx hc).keep (qL h aZ hw hold) (by simp[bD,e]) fun blk k hl=>hold blk (h.fresh c blk k (by rw[hc];simp) hl).2
 inj:=fun c d blk k k' hc hd h1 h2=>by
  by_cases e:c=b
  ·by_cases e2:d=b
   ·rw[e,e2]
   ·exfalso
    simp only[bD,if_pos e] at h1
    simp only[bD,if_neg e2] at h2
    rw[aM _ e2] at hd
    have:=(h.fresh d blk k' hd h2).2
    have:=(hL _ _ h1).1
    omega
  ·by_cases e2:d=b
   ·exfalso
    simp only[bD,if_neg e] at h1
    simp only[bD,if_pos e2] at h2
    rw[aM _ e] at hc
    have:=(h.fresh c blk k hc h1).2
    have:=(hL _ _ h2).1
    omega
   ·simp only[bD,if_neg e] at h1
    simp only[bD,if_neg e2] at h2
    rw[aM _ e] at hc
    rw[aM _ e2] at hd
    exact h.inj c d blk k k' hc hd h1 h2
 fresh:=fun c blk k hc h1=>by
  by_cases e:c=b
  ·simp only[bD,if_pos e] at h1
   obtain⟨h2,h3⟩:=hL _ _ h1
   exact⟨.inl (by have:=h.base;omega),h3⟩
  ·simp only[bD,if_neg e] at h1
   rw[aM _ e] at hc
   have:=h.fresh c blk k hc h1
   exact⟨this.1,Nat.lt_of_lt_of_le this.2 hw.size⟩
 qu:=fun blk off hi=>Nat.lt_of_lt_of_le (h.qu blk off hi) hw.size
 sep:=fun c cx blk k off hc h1 hi=>by
  by_cases e:c=b
  ·exfalso
   simp only[bD,if_pos e] at h1
   have:=(hL _ _ h1).1
   have:=h.qu blk off hi
   omega
  ·simp only[bD,if_neg e] at h1
   rw[aM _ e] at hc
   exact h.sep c cx blk k off hc h1 hi
theorem cr(w:World)(o:Obj):∀k,k<w.heap.size→(w.alloc o).heap[k]?=w.heap[k]?:=fun k hk=>Below.heap_alloc w o k hk
theorem pP(cs:Array Value):l9 cs (0,0):=fun o _ h=>by omega
theorem tY(e:Ty)(cs:Array Value):SY e cs (0,0):=⟨pP cs,fun _ h=>by omega⟩
theorem bz.newVar(h:bz B γ mem w){b:Nat}{v:aQ}{tid:TypeId}{ax:Nat}(aZ:∀cK,mem b=some cK→cK.ax<ax){cs:Array Value}(t':TypeId)(gk:tid=0∨t'=tid)(hv:b8 γ mem w v .cells cs.toList) :
  let bx:bL:={ val:=v,tid,buf:=false,ro:=false,lk:=false,ax }
  bz B (bD γ b (some (w.heap.size,0))) (cc mem b bx) (w.alloc (.cells cs t'))∧Ext B γ mem w (bD γ b (some (w.heap.size,0))) (cc mem b bx) (w.alloc (.cells cs t')):=by
 intro bx
 have hw:rM B w (w.alloc (.cells cs t')):=(rM.refl _ _).alloc h.base _
 have hx:=qL (L:=some (w.heap.size,0)) h (bx:=bx) aZ hw (cr w _)
 refine⟨h.add aZ hw (cr w _) (fun blk k e=>by obtain⟨rfl,rfl⟩:=Prod.mk.inj (Option.some.inj e);exact⟨Nat.le_refl _,by simp⟩) ?_,hx⟩
 exact⟨w.heap.size,0,cs,t',(0,0),by simp[bD],heap_alloc_new w _,pP cs,gk,hv.ext hx⟩
theorem bz.Qy(h:bz B γ mem w){b:Nat}{e:Ty}{l:List e.den}{tid:TypeId}{ax cap blk:Nat}(aZ:∀cK,mem b=some cK→cK.ax<ax){cs:Array Value}{t':TypeId}{fr:Nat×Nat}(he:0<e.size)
  (hw:rM B w w') (hold:∀k,k<w.heap.size→w'.heap[k]?=w.heap[k]?) (hge:w.heap.size≤blk) (hnew:w'.heap[blk]?=some (.cells cs t' fr)) (JY:SY e cs fr) (gk:tid=0∨t'=tid)
  (h1:l.length≤cap) (h2:cap≤maxLen) (h3:cs.size=cap*e.size) (h4:∀(i:Nat) (x:e.den),l[i]?=some x→bE w' γ.I e x ((cs.toList.drop (i*e.size)).take e.size)) :
  let bx:bL:={ val:=.data (.slice e) l,tid,buf:=true,ro:=false,lk:=false,ax }
  bz B (bD γ b (some (blk,cap))) (cc mem b bx) w'∧Ext B γ mem w (bD γ b (some (blk,cap))) (cc mem b bx) w':=by
 intro bx
 have hlt:blk<w'.heap.size:=(Array.getElem?_eq_some_iff.1 hnew).1
 have hx:=qL (L:=some (blk,cap)) h (bx:=bx) aZ hw hold
 refine⟨h.add aZ hw hold (fun c k q=>by obtain⟨rfl,rfl⟩:=Prod.mk.inj (Option.some.inj q);exact⟨hge,hlt⟩) ?_,hx⟩
 exact⟨e,l,rfl,he,.inr ⟨blk,cap,cs,t',fr,by simp[bD],hnew,JY,gk,h1,h2,h3,h4⟩⟩
theorem bz.Iu(h:bz B γ mem w){b:Nat}{e:Ty}{l:List e.den}{tid:TypeId}{ax cap:Nat}(aZ:∀cK,mem b=some cK→cK.ax<ax){cs:Array Value}{t':TypeId}{fr:Nat×Nat}(he:0<e.size)
  (hw:rM B w w') (hold:∀k,k<w.heap.size→w'.heap[k]?=w.heap[k]?) (hnew:w'.heap[w.heap.size]?=some (.cells cs t' fr)) (JY:SY e cs fr) (gk:tid=0∨t'=tid)
  (h1:l.length≤cap) (h2:cap≤maxLen) (h3:cs.size=cap*e.size) (h4:∀(i:Nat) (x:e.den),l[i]?=some x→bE w γ.I e x ((cs.toList.drop (i*e.size)).take e.size)) :
  let bx:bL:={ val:=.data (.slice e) l,tid,buf:=true,ro:=false,lk:=false,ax }
  bz B (bD γ b (some (w.heap.size,cap))) (cc mem b bx) w'∧Ext B γ mem w (bD γ b (some (w.heap.size,cap))) (cc mem b bx) w' :=
 h.Qy aZ he hw hold (Nat.le_refl _) hnew JY gk h1 h2 h3 fun i x hi =>
  bE.mono (fun _ _ q=>q) (fun blk o q=>cQ (hold blk (h.qu blk o q))) (h4 i x hi)
theorem bz.Ef(h:bz B γ mem w){b:Nat}{e:Ty}{tid:TypeId}{ax:Nat}(aZ:∀cK,mem b=some cK→cK.ax<ax)(he:0<e.size) :
  let bx:bL:={ val:=.data (.slice e) ([]:List e.den),tid,buf:=true,ro:=false,lk:=false,ax }
  bz B (bD γ b none) (cc mem b bx) w∧Ext B γ mem w (bD γ b none) (cc mem b bx) w:=by
 intro bx
 have hx:=qL (L:=none) h (bx:=bx) aZ (rM.refl B w) (fun _ _=>rfl)
 refine⟨h.add aZ (rM.refl B w) (fun _ _=>rfl) (fun blk k e=>by cases e) ?_,hx⟩
 exact⟨e,[],rfl,he,.inl ⟨by simp[bD],rfl⟩⟩
theorem z7{bx:bL}{off:Nat}(h:Mh bx off)(hro:bx.ro=false):False:=by rw[Mh,hro] at h;exact absurd h.1 (by simp)
theorem bz.write(h:bz B γ mem w){b:Nat}{bx:bL}(hb:mem b=some bx)(hro:bx.ro=false){blk k:Nat}(hl:γ.loc b=some (blk,k)){cur cur':Array Value}{t:TypeId}{fr:Nat×Nat}
  (hg:w.heap[blk]?=some (.cells cur t fr)) (hs:cur'.size=cur.size) {v:aQ} (hrow:({ bx with val:=v }:bL).row=bx.row)
  (gz:∀w' mem',Ext B γ mem w γ mem' w'→w'.heap[blk]?=some (.cells cur' t fr)→cw γ mem' w' b { bx with val:=v }) :
  bz B γ (cc mem b { bx with val:=v }) (w.setRow blk cur')∧Ext B γ mem w γ (cc mem b { bx with val:=v }) (w.setRow blk cur'):=by
 have hf:=h.fresh b blk k (by rw[hb];simp) hl
 have Qz:=setRow_heap w blk cur cur' t fr hg
 have tc:∀i,i≠blk→(w.setRow blk cur').heap[i]?=w.heap[i]?:=fun i hi=>setRow_other w blk i cur' (fun e=>hi e)
 have hx:Ext B γ mem w γ (cc mem b { bx with val:=v }) (w.setRow blk cur') :=
  { below:=⟨rfl,rfl,rfl,by simp,fun i hi=>tc i (fun e=>hi (by rw[e];exact hf.1))⟩
    I:=fun _ _ x=>x
    nh:=fun _ _ x=>.inl x
    cells:=fun c o x=>by
     by_cases e:c=blk
     ·subst e;exact(z7 (h.sep b bx c k o hb hl x) hro).elim
     ·exact cQ (tc c e)
    boxes:=fun c cx hc=>by
     by_cases e:c=b
     ·subst e
      obtain rfl:cx=bx:=Option.some.inj (hc.symm.trans hb)
      exact⟨_,bt _ _,Nat.le_refl _,fun _=>⟨rfl,rfl,hrow⟩⟩
     ·exact⟨cx,by rw[aM _ e];exact hc,Nat.le_refl _,fun _=>⟨rfl,rfl,rfl⟩⟩ }
 refine⟨?_,hx⟩
 exact
  { aU:=h.zY hx
    base:=by have:=h.base;simpa using this
    boxes:=fun c cx hc=>by
     by_cases e:c=b
     ·subst e
      rw[bt] at hc
      obtain rfl:=Option.some.inj hc
      exact gz _ _ hx Qz
     ·rw[aM _ e] at hc
      refine(h.boxes c cx hc).keep hx rfl fun cU k' hl'=>tc cU fun e2=>e ?_
      subst e2
      exact h.inj c b cU k' k (by rw[hc];simp) (by rw[hb];simp) hl' hl
    inj:=fun c d cU k1 k2 hc hd h1 h2=>h.inj c d cU k1 k2 (by
     by_cases e:c=b
     ·subst e;rw[hb];simp
     ·rwa [aM _ e] at hc) (by
     by_cases e:d=b
     ·subst e;rw[hb];simp
     ·rwa [aM _ e] at hd) h1 h2
    fresh:=fun c cU k' hc h1=>by
     have:=h.fresh c cU k' (by
      by_cases e:c=b
      ·subst e;rw[hb];simp
      ·rwa [aM _ e] at hc) h1
     exact⟨this.1,by simpa using this.2⟩
    qu:=fun cU off hi=>by have:=h.qu cU off hi;simpa using this
    sep:=fun c cx cU k' off hc h1 hi=>by
     by_cases e:c=b
     ·subst e
      rw[hl] at h1
      obtain⟨rfl,rfl⟩:=Prod.mk.inj (Option.some.inj h1)
      exact(z7 (h.sep c bx blk k off hb hl hi) hro).elim
     ·rw[aM _ e] at hc
      exact h.sep c cx cU k' off hc h1 hi }
def Eg(γ:Gh)(b:Nat)(n:Nat):Gh:={ γ with I:=fun blk off=>γ.I blk off∨((∃k,γ.loc b=some (blk,k))∧off<n) }
theorem bz.freeze(h:bz B γ mem w){b:Nat}{bx:bL}(hb:mem b=some bx){e:Ty}{n:Nat}(hrow:bx.row=some (e,n)) :
  bz B (Eg γ b (n*e.size)) (cc mem b { bx with ro:=true }) w∧Ext B γ mem w (Eg γ b (n*e.size)) (cc mem b { bx with ro:=true }) w:=by
 have hx:Ext B γ mem w (Eg γ b (n*e.size)) (cc mem b { bx with ro:=true }) w :=
  { below:=rM.refl _ _
    I:=fun _ _ x=>.inl x
    nh:=fun blk o x=>by
     rcases x with x|⟨⟨k,x⟩,_⟩
     ·exact .inl x
     ·exact .inr (h.fresh b blk k (by rw[hb];simp) x).1
    cells:=fun _ _ _=>rfl
    boxes:=fun c cx hc=>by
     by_cases e:c=b
     ·subst e
      obtain rfl:cx=bx:=Option.some.inj (hc.symm.trans hb)
      exact⟨_,bt _ _,Nat.le_refl _,fun _=>⟨rfl,rfl,rfl⟩⟩
     ·exact⟨cx,by rw[aM _ e];exact hc,Nat.le_refl _,fun _=>⟨rfl,rfl,rfl⟩⟩ }
 refine⟨?_,hx⟩
 exact
  { aU:=h.zY hx
    base:=h.base
    boxes:=fun c cx hc=>by
     by_cases e:c=b
     ·subst e
      rw[bt] at hc
      obtain rfl:=Option.some.inj hc
      have:=(h.boxes c bx hb).keep hx rfl (fun _ _ _=>rfl)
      exact this
     ·rw[aM _ e] at hc
      exact(h.boxes c cx hc).keep hx rfl (fun _ _ _=>rfl)
    inj:=fun c d cU k1 k2 hc hd h1 h2=>h.inj c d cU k1 k2 (by
     by_cases e:c=b
     ·subst e;rw[hb];simp
     ·rwa [aM _ e] at hc) (by
     by_cases e:d=b
     ·subst e;rw[hb];simp
     ·rwa [aM _ e] at hd) h1 h2
    fresh:=fun c cU k' hc h1=>h.fresh c cU k' (by
     by_cases e:c=b
     ·subst e;rw[hb];simp
     ·rwa [aM _ e] at hc) h1
    qu:=fun cU off hi=>by
     rcases hi with hi|⟨⟨k,hk⟩,_⟩
     ·exact h.qu cU off hi
     ·exact(h.fresh b cU k (by rw[hb];simp) hk).2
    sep:=fun c cx cU k' off hc h1 hi=>by
     by_cases e':c=b
     ·subst e'
      rw[bt] at hc
      obtain rfl:=Option.some.inj hc
      rcases hi with hi|⟨⟨k,hk⟩,ho⟩
      ·obtain⟨a1,a2⟩:=h.sep c bx cU k' off hb h1 hi
       exact⟨rfl,a2⟩
      ·refine⟨rfl,fun _ u m hr=>?_⟩
       have hr':bx.row=some (u,m):=hr
       rw[hrow] at hr'
       obtain⟨rfl,rfl⟩:=Prod.mk.inj (Option.some.inj hr')
       exact ho
     ·rw[aM _ e'] at hc
      rcases hi with hi|⟨⟨k,hk⟩,ho⟩
      ·exact h.sep c cx cU k' off hc h1 hi
      ·exact absurd (h.inj c b cU k' k (by rw[hc];simp) (by rw[hb];simp) h1 hk) e' }
end
end Go.Ge
namespace Go.Ge
set_option linter.unusedVariables false
set_option linter.unusedSimpArgs false
open RowKit
def mb(P:Program)(B:nY)(N:Nat)(γ:Gh)(σ:St)(a:Act)(w:World)(d:Option Nat)(s:Sem Value)(σ':St):Prop :=
 ∃v w' γ',s.run P w=.ok v w'∧cG B N γ' σ' (a.put d v) w'∧Ext B γ σ.mem w γ' σ'.mem w'
section
variable {P:Program} {B:nY} {N:Nat} {γ:Gh} {σ σ':St} {a:Act} {w:World} {d:Option Nat}
theorem bG(h:cG B N γ σ a w)(hd:∀k,d=some k→k<N){s:Sem Value}{v:aQ}{x:Value}(hs:s.run P w=.ok x w)(hv:b8 γ σ.mem w v .val [x]) :
  mb P B N γ σ a w d s (σ.aR d v) :=
 ⟨x,w,γ,hs,h.rN hd hv,by cases d<;>exact Ext.refl _ _ _ _⟩
theorem dw{β:Type}{b:Nat}{val:aQ}{tid:TypeId}{buf:Bool}{k:Nat→St→Tree β}{y:β}(h:(σ.aL b val tid buf k).run=some y) :
  ∃ax,(∀cK,σ.mem b=some cK→cK.ax<ax)∧(k ax (σ.bX b { val,tid,buf,ro:=false,lk:=false,ax })).run=some y:=by
 unfold St.aL at h
 split at h
 ·rename_i bx hb
  cases hl:bx.lk with
  | true=>rw[hl] at h;cases h
  | false =>
    rw[hl] at h
    exact⟨bx.ax+1,(fun cK h0=>by rw[hb] at h0;obtain rfl:=Option.some.inj h0;omega),h⟩
 ·rename_i hb
  exact⟨0,(fun cK h0=>by rw[hb] at h0;cases h0),h⟩
theorem rO(σ:St)(b:Nat)(bx:bL):(σ.bX b bx).mem=cc σ.mem b bx:=rfl
theorem fN{mem:Nat→Option bL}{b ax:Nat}{bx:bL}(h:mem b=some bx)(hv:bx.ax=ax){K:bL→Prop}(hk:K bx):jX mem b ax K :=
 ⟨bx,h,by omega,fun _=>hk⟩
theorem tZ{cx:Ctx}(hc:eG P cx){nb:Nat}{bf:List Nat}{ty:TypeId}{x:Operand}(h:cG B N γ σ a w)(hd:∀k,d=some k→k<N)
  (hr:(gS cx nb bf d ty (cq σ x) σ).run=some σ'):mb P B N γ σ a w d (pure (a.eval x)) σ':=by
 have hv:=h.cq x
 unfold gS at hr
 split at hr
 ·rename_i hn
  rw[hn] at hv
  obtain⟨_,hr⟩:=aA hr
  obtain rfl:=Option.some.inj hr
  exact bG h hd rfl hv
 ·rename_i hn
  rw[hn] at hv
  have hx:a.eval x=.slice none 0 0:=by simpa [b8] using hv
  split at hr
  ·rename_i k e hT
   cases hb:cT bf k with
   | true =>
     rw[hb] at hr
     simp only[cond_true] at hr
     obtain⟨ax,aZ,hr2⟩:=dw hr
     obtain rfl:=Option.some.inj hr2
     obtain⟨eB,h1,h2,h3,h4⟩:=(hc.T _ _ hT).slice
     obtain⟨m1,m2⟩:=h.ok.Ef (tid:=0) aZ h4
     refine⟨_,w,_,rfl,h.step m2 m1 (hd k rfl) ?_,m2⟩
     rw[hx]
     exact⟨⟨_,rfl,rfl⟩,fN (bt _ _) rfl ⟨e,0,rfl,rfl,.inl ⟨by simp[bD],rfl⟩⟩⟩
   | false =>
     rw[hb] at hr
     obtain rfl:=Option.some.inj hr
     exact bG (d:=some k) h hd rfl (by rw[hx];exact⟨_,.inl ⟨⟨none,rfl⟩,rfl⟩,rfl⟩)
  ·obtain rfl:=Option.some.inj hr
   exact bG h hd rfl (by rw[hx];rfl)
 ·obtain rfl:=Option.some.inj hr
  exact bG h hd rfl hv
theorem uO{b:Bool}{v:Value}(h:b8 γ σ.mem w (.data .bool b) .val [v]):v=.bool b:=by
 obtain⟨cs,h1,h2⟩:=de.1 h
 rw[h2,show cs=_ from h1];rfl
theorem qd{k:IntKind}{n:Int}{v:Value}(h:b8 γ σ.mem w (.data (.int k) n) .val [v]):v=.int k n∧k.min≤n∧n≤k.max:=by
 obtain⟨cs,h1,h2⟩:=de.1 h
 rw[h2,h1.1];exact⟨rfl,h1.2⟩
theorem td{s:List UInt8}{v:Value}(h:b8 γ σ.mem w (.data .str s) .val [v]):v=.string ⟨s.toArray⟩∧s.length≤maxLen:=by
 obtain⟨cs,h1,h2⟩:=de.1 h
 rw[h2,h1.1];exact⟨rfl,h1.2⟩
theorem eZ(b:Bool):b8 γ σ.mem w (.data .bool b) .val [.bool b]:=⟨_,rfl,rfl⟩
theorem mkInt{k:IntKind}{n:Int}(h:k.min≤n∧n≤k.max):b8 γ σ.mem w (.data (.int k) n) .val [.int k n]:=⟨_,⟨rfl,h.1,h.2⟩,rfl⟩
theorem mkStr{s:List UInt8}(h:s.length≤maxLen):b8 γ σ.mem w (.data .str s) .val [.string ⟨s.toArray⟩]:=⟨_,⟨rfl,h⟩,rfl⟩
theorem Eh{c x y:Operand}(h:cG B N γ σ a w)(hd:∀k,d=some k→k<N)(hr:(lA d (cq σ c) (cq σ x) (cq σ y) σ).run=some σ') :
  mb P B N γ σ a w d (do pure (if ←asBool (a.eval c) then a.eval x else a.eval y)) σ':=by
 have hc:=h.cq c;have hx:=h.cq x;have hy:=h.cq y
 unfold lA at hr
 split at hr
 ·rename_i cb hcb
  rw[hcb] at hc
  have UD:a.eval c=.bool cb:=uO hc
  have hrun:(do pure (if ←asBool (a.eval c) then a.eval x else a.eval y):Sem Value).run P w=.ok (if(show Bool from cb)=true then a.eval x else a.eval y) w:=by
   rw[UD];cases cb<;>rfl
  split at hr
  ·rename_i t x1 u y1 hx1 hy1
   rw[hx1] at hx;rw[hy1] at hy
   split at hr
   ·rename_i y2 gU
    obtain rfl:=Option.some.inj hr
    obtain⟨e,e2⟩:=Ty.iY gU
    subst e;subst e2
    refine bG h hd hrun ?_
    cases cb
    ·exact hy
    ·exact hx
   ·cases hr
  ·have hr2:=eU hr
   cases cb
   ·obtain rfl:=Option.some.inj hr2;exact bG h hd hrun hy
   ·obtain rfl:=Option.some.inj hr2;exact bG h hd hrun hx
 ·cases hr
theorem ez(k:IntKind)(n:Int):k.min≤k.wrap n∧k.wrap n≤k.max:=wrap_within k n
theorem S2{k:IntKind}{x y:Int}(h:k.min≤x∧x≤k.max):k.min≤x.tmod y∧x.tmod y≤k.max:=by
 have hmin:k.min≤0:=by cases k<;>decide
 have hmax:0≤k.max:=by cases k<;>decide
 have hab:(x.tmod y).natAbs≤x.natAbs:=by
  rw[Int.natAbs_tmod];exact Nat.mod_le _ _
 rcases Int.le_total 0 x with h0|h0
 ·have:=Int.tmod_nonneg y h0
  omega
 ·have:x.tmod y≤0:=by
   have:=Int.tmod_nonneg y (show 0≤-x by omega)
   rw[Int.neg_tmod] at this;omega
  omega
theorem S3{k:IntKind}{x:Int}(n:Nat)(h:k.min≤x∧x≤k.max):k.min≤x.fdiv (2 ^ n)∧x.fdiv (2 ^ n)≤k.max:=by
 have hmin:k.min≤0:=by cases k<;>decide
 have hmax:0≤k.max:=by cases k<;>decide
 have hp:(0:Int)<2 ^ n:=Int.pow_pos (by decide)
 have e:x.fdiv (2 ^ n)=x / 2 ^ n:=Int.fdiv_eq_ediv_of_nonneg _ (by omega)
 rw[e]
 rcases Int.le_total 0 x with h0|h0
 ·have h1:=Int.ediv_nonneg h0 (Int.le_of_lt hp)
  have h2:=Int.ediv_le_self (2 ^ n:Int) h0
  omega
 ·have h2:x / 2 ^ n<1:=Int.ediv_lt_of_lt_mul hp (by omega)
  have h3:x≤x / 2 ^ n:=by
   rw[Int.le_ediv_iff_mul_le hp]
   have h1:(1:Int)≤2 ^ n:=hp
   have:=Int.mul_le_mul_of_nonpos_left h0 h1
   simpa using this
  omega
theorem Iv{op:BinOp}{l:Bool}(h:zP op=some l):(op=.shl∧l=true)∨(op=.shr∧l=false):=by
 cases op<;>simp[zP] at h<;>simp[h]
theorem oD{op:BinOp}{l:Bool}(h:isEq op=some l):(op=.eql∧l=true)∨(op=.neq∧l=false):=by
 cases op<;>simp[isEq] at h<;>simp[h]
def fA(op:BinOp)(xt:TypeId)(x y:Operand)(u v:Value):Sem Value:=do eqGuard op xt x y u v;binOp op xt u v
theorem Iw{op:BinOp}{k:IntKind}{n m:Int}{v:aQ}{xt:TypeId}{x y:Operand}(hn:k.min≤n∧n≤k.max)(hs:zP op=none)(hr:(Mb op k n m).run=some v) :
  ∃r,(fA op xt x y (.int k n) (.int k m)).run P w=.ok r w∧b8 γ σ.mem w v .val [r]:=by
 unfold fA
 cases op<;>simp only[eqGuard_at_int,Sem.run_bind,Sem.run_pure,Result.andThen_ok]<;>simp only[Mb] at hr
 case add=>obtain rfl:=Option.some.inj hr;exact⟨.int k (bn k n m),by simp only[binOp_add,Op.intArith,Sem.run_pure];rfl,mkInt (ez _ _)⟩
 case sub=>obtain rfl:=Option.some.inj hr;exact⟨.int k (cM k n m),by simp only[binOp_sub,Op.intArith,Sem.run_pure];rfl,mkInt (ez _ _)⟩
 case mul=>obtain rfl:=Option.some.inj hr;exact⟨.int k (Da k n m),by simp only[binOp_mul,Op.intArith,Sem.run_pure];rfl,mkInt (ez _ _)⟩
 case quo =>
  have hr2:=eU hr
  cases hz:bp m 0
  ·rw[hz] at hr2;obtain rfl:=Option.some.inj hr2
   have hm:m≠0:=by simpa [bp] using hz
   exact⟨.int k (VZ k n m),by simp only[binOp_quo,Op.intDiv,if_neg hm,Sem.run_pure];rfl,mkInt (ez _ _)⟩
  ·rw[hz] at hr2;cases hr2
 case rem =>
  have hr2:=eU hr
  cases hz:bp m 0
  ·rw[hz] at hr2;obtain rfl:=Option.some.inj hr2
   have hm:m≠0:=by simpa [bp] using hz
   exact⟨.int k (Ma n m),by simp only[binOp_rem,Op.intDiv,if_neg hm,Sem.run_pure];rfl,mkInt (S2 hn)⟩
  ·rw[hz] at hr2;cases hr2
 case and=>obtain rfl:=Option.some.inj hr;exact⟨.int k (vX k n m),by simp only[binOp_and,intBits_and,Sem.run_pure];rfl,mkInt (ez _ _)⟩
 case or=>obtain rfl:=Option.some.inj hr;exact⟨.int k (JQ k n m),by simp only[binOp_or,intBits_or,Sem.run_pure];rfl,mkInt (ez _ _)⟩
 case xor=>obtain rfl:=Option.some.inj hr;exact⟨.int k (zN k n m),by simp only[binOp_xor,intBits_xor,Sem.run_pure];rfl,mkInt (ez _ _)⟩
 case andNot=>obtain rfl:=Option.some.inj hr;exact⟨.int k (T8 k n m),by simp only[binOp_andNot,intBits_andNot,Sem.run_pure];rfl,mkInt (ez _ _)⟩
 case shl=>cases hs
 case shr=>cases hs
 case eql=>obtain rfl:=Option.some.inj hr;exact⟨.bool (bp n m),by simp[binOp,Op.intCmp,bp];rfl,eZ _⟩
 case neq=>obtain rfl:=Option.some.inj hr;exact⟨.bool (nt (bp n m)),by simp[binOp,Op.intCmp,bp,nt];rfl,eZ _⟩
 case lss=>obtain rfl:=Option.some.inj hr;exact⟨.bool (cm n m),by simp[binOp,Op.intCmp,cm],eZ _⟩
 case leq=>obtain rfl:=Option.some.inj hr;exact⟨.bool (gj n m),by simp[binOp,Op.intCmp,gj],eZ _⟩
 case gtr=>obtain rfl:=Option.some.inj hr;exact⟨.bool (cm m n),by simp[binOp,Op.intCmp,cm],eZ _⟩
 case geq=>obtain rfl:=Option.some.inj hr;exact⟨.bool (gj m n),by simp[binOp,Op.intCmp,gj],eZ _⟩
theorem gA(s:List UInt8):(⟨s.toArray⟩:ByteArray).toList=s:=by rw[ByteArray.toList_eq]
theorem Mj(s t:List UInt8):(s==t)=bZ s t:=by rw[Bool.eq_iff_iff];simp[bZ]
theorem Ix{op:BinOp}{s t:List UInt8}{v:aQ}{xt:TypeId}{x y:Operand}(hr:(Mc op s t).run=some v) :
  ∃r,(fA op xt x y (.string ⟨s.toArray⟩) (.string ⟨t.toArray⟩)).run P w=.ok r w∧b8 γ σ.mem w v .val [r]:=by
 unfold fA
 cases op<;>simp only[eqGuard_at_string,Sem.run_bind,Sem.run_pure,Result.andThen_ok]<;>simp only[Mc] at hr<;>try (cases hr;done)
 case add =>
  obtain⟨hf,hr2⟩:=b9 hr
  obtain rfl:=Option.some.inj hr2
  have hl:s.length+t.length≤4294967296:=by have h2:plus (len s) (len t)≤4294967296:=of_decide_eq_true hf;simp only[plus,len] at h2;omega
  refine⟨.string ⟨(s++t).toArray⟩,?_,mkStr (by simp only[app,List.length_append,maxLen];omega)⟩
  have hsz:∀l:List UInt8,(⟨l.toArray⟩:ByteArray).size=l.length:=fun l=>rfl
  have:¬(((s.length+t.length:Nat):Int) > IntKind.i64.max):=by rw[IntKind.max_i64];omega
  simp only[binOp,Op.stringOp,hsz,this,if_false,Sem.run_pure]
  congr 2
 case eql=>obtain rfl:=Option.some.inj hr;exact⟨.bool (bZ s t),by simp only[binOp,Op.stringOp,gA,Mj,Sem.run_pure],eZ _⟩
 case neq=>obtain rfl:=Option.some.inj hr;exact⟨.bool (nt (bZ s t)),by simp only[binOp,Op.stringOp,gA,Mj,Sem.run_pure];rfl,eZ _⟩
 case lss=>obtain rfl:=Option.some.inj hr;exact⟨.bool (vu s t),by simp only[binOp,Op.stringOp,gA,Mj,Sem.run_pure];rfl,eZ _⟩
 case leq=>obtain rfl:=Option.some.inj hr;exact⟨.bool (Uw (vu s t) (bZ s t)),by simp only[binOp,Op.stringOp,gA,Mj,Sem.run_pure];rfl,eZ _⟩
 case gtr=>obtain rfl:=Option.some.inj hr;exact⟨.bool (nt (Uw (vu s t) (bZ s t))),by simp only[binOp,Op.stringOp,gA,Mj,Sem.run_pure];rfl,eZ _⟩
 case geq=>obtain rfl:=Option.some.inj hr;exact⟨.bool (nt (vu s t)),by simp only[binOp,Op.stringOp,gA,Mj,Sem.run_pure];rfl,eZ _⟩
theorem J1{op:BinOp}{left:Bool}{k k':IntKind}{n m:Int}{xt:TypeId}{x y:Operand}(hn:k.min≤n∧n≤k.max)(hs:zP op=some left)(h0:cm m 0=false) :
  ∃r,(fA op xt x y (.int k n) (.int k' m)).run P w=.ok r w∧b8 γ σ.mem w (.data (.int k) (bif left then Bo k n m else rE k n m)) .val [r]:=by
 have h1:¬m<0:=by simpa [cm] using h0
 unfold fA
 rcases Iv hs with ⟨rfl,rfl⟩|⟨rfl,rfl⟩
 ·exact⟨.int k (Bo k n m),by simp only[eqGuard_shl,binOp_shl,Op.shift,if_neg h1,Sem.run_bind,Sem.run_pure,Result.andThen_ok];rfl,mkInt (ez _ _)⟩
 ·exact⟨.int k (rE k n m),by simp only[eqGuard_shr,binOp_shr,Op.shift,if_neg h1,Sem.run_bind,Sem.run_pure,Result.andThen_ok];rfl,mkInt (S3 _ hn)⟩
theorem xK{t:Ty}{tid:TypeId}(ht:Den P t tid){cs:Array Value}{off:Nat}(h:off+t.size≤cs.size)(h1:t.isAgg=false→t.size=1) :
  (part tid cs off).run P w=.ok (bQ t ((cs.toList.drop off).take t.size)) w:=by
 unfold part
 rw[Sem.run_bind,ht.agg w,Result.andThen_ok]
 cases hag:t.isAgg with
 | true =>
   simp only[if_true,Sem.run_bind,ht.sizeOf w,Result.andThen_ok,Sem.run_pure,bQ,hag,cond_true]
   congr 2
   apply Array.ext'
   simp
 | false =>
   have hs:=h1 hag
   simp only[if_neg (show ¬(false=true) by simp),bQ,hag,cond_false,hs]
   have hlt:off<cs.size:=by omega
   have e:(cs.toList.drop off).take 1=[cs[off]]:=by
    apply List.ext_getElem?
    intro i
    rw[List.getElem?_take]
    cases i with
    | zero=>simp[hlt]
    | succ i=>simp
   rw[e]
   simp[hlt]
theorem pQ:∀{t:Ty},t.isAgg=false→t.size=1:=by
 intro t h
 induction t with
 | alt u a r iQ ihr=>exact ihr h
 | arr|pair|unit=>cases h
 | _=>rfl
theorem J2(t:Ty):1≤t.zO:=by cases t<;>simp[Ty.zO]
theorem yp{γ:Gh}{w:World}:∀(t:Ty),(∀(d:Nat) (tid:TypeId) (x y:t.den) (cx cy:List Value) (c:Bool),Den P t tid→bE w γ.I t x cx→bE w γ.I t y cy→Ty.eqv t x y=some c→t.zO<d →
   (Op.equalIn d tid (bQ t cx) (bQ t cy)).run P w=.ok c w) ∧
  (∀(d off:Nat) (fs:List Field) (x y:t.den) (cx cy:List Value) (xs ys:Array Value) (c:Bool),mS P t off fs→bE w γ.I t x cx→bE w γ.I t y cy→Ty.eqv t x y=some c→t.zO<d →
   xs.toList.drop off=cx→ys.toList.drop off=cy→off≤xs.size→off≤ys.size→(Op.eqFields d xs ys fs).run P w=.ok c w):=by
 intro t
 induction t with
 | int k =>
   refine⟨fun d tid x y cx cy c hd hx hy he hs=>?_,fun d off fs x y cx cy xs ys c hd=>by simp[mS,eK] at hd⟩
   obtain⟨d,rfl⟩:∃e,d=e+1:=⟨d-1,by omega⟩
   rw[hx.1,hy.1]
   obtain rfl:=Option.some.inj he
   show(Op.equalIn (d+1) tid (.int k x) (.int k y)).run P w=_
   rw[run_equalIn_int w d tid k k x y hd.int]
   congr 1
 | bool =>
   refine⟨fun d tid x y cx cy c hd hx hy he hs=>?_,fun d off fs x y cx cy xs ys c hd=>by simp[mS,eK] at hd⟩
   obtain⟨d,rfl⟩:∃e,d=e+1:=⟨d-1,by omega⟩
   rw[show cx=_ from hx,show cy=_ from hy]
   obtain rfl:=Option.some.inj he
   exact run_equalIn_bool' w d tid x y hd.bool
 | str =>
   refine⟨fun d tid x y cx cy c hd hx hy he hs=>?_,fun d off fs x y cx cy xs ys c hd=>by simp[mS,eK] at hd⟩
   obtain⟨d,rfl⟩:∃e,d=e+1:=⟨d-1,by omega⟩
   rw[hx.1,hy.1]
   obtain rfl:=Option.some.inj he
   have h1:=run_equalIn_string (P:=P) w d tid ⟨List.toArray (α:=UInt8) x⟩ ⟨List.toArray (α:=UInt8) y⟩ hd.str
   rw[gA (show List UInt8 from x),gA (show List UInt8 from y),Mj] at h1
   exact h1
 | slice e ih=>exact⟨(fun d tid x y cx cy c hd hx hy he=>by cases he),(fun d off fs x y cx cy xs ys c hd=>by simp[mS,eK] at hd)⟩
 | alt u a r iQ ihr=>exact⟨(fun d tid x y cx cy c hd hx hy he=>by cases he),(fun d off fs x y cx cy xs ys c hd=>by simp[mS,eK] at hd)⟩
 | vQ=>exact⟨(fun d tid x y cx cy c hd hx hy he=>by cases he),(fun d off fs x y cx cy xs ys c hd=>by simp[mS,eK] at hd)⟩
 | arr n e ih =>
   refine⟨fun d tid x y cx cy c hd hx hy he hs=>?_,(fun d off fs x y cx cy xs ys c hd=>by simp[mS,eK] at hd)⟩
   cases e with
   | int k =>
     obtain⟨d,rfl⟩:∃e,d=e+1:=⟨d-1,by omega⟩
     obtain⟨d,rfl⟩:∃e,d=e+1:=⟨d-1,by have:(Ty.arr n (.int k)).zO=1+1:=rfl;omega⟩
     obtain rfl:=Option.some.inj he
     obtain⟨eB,k1,k2,k3⟩:=hd.arr
     obtain⟨i,z,i1,i2,_,_⟩:=k2.info
     have hcell:=k2.cells
     show(Op.equalIn (d+1+1) tid (.agg cx.toArray) (.agg cy.toArray)).run P w=_
     rw[run_equalIn_array w (d+1) cx.toArray cy.toArray k1 i1,hcell]
     obtain⟨hxl,XA,VE⟩:=hx
     obtain⟨YF,VF,VG⟩:=hy
     have hz:(Ty.int k).size=1:=rfl
     rw[hz] at XA VE VF VG⊢
     rw[Nat.mul_one] at XA VF
     change List Int at x y
     have item:∀is:List Nat,(∀i∈is,i<n)→(Op.eqItems (d+1) eB 1 cx.toArray cy.toArray is).run P w=.ok (is.all fun i=>decide (x[i]?=y[i]?)) w:=by
      intro is
      induction is with
      | nil=>intro _;rfl
      | cons i is Zt =>
        intro hi
        have hin:=hi i (List.mem_cons_self ..)
        obtain⟨a,YG⟩:∃a,x[i]?=some a:=⟨_,List.getElem?_eq_getElem (by rw[show x.length=n from hxl];exact hin)⟩
        obtain⟨b,YH⟩:∃a,y[i]?=some a:=⟨_,List.getElem?_eq_getElem (by rw[show y.length=n from YF];exact hin)⟩
        have px:=xK (w:=w) k2 (cs:=cx.toArray) (off:=i*1) (by rw[hz];simp[XA];omega) (fun _=>hz)
        have py:=xK (w:=w) k2 (cs:=cy.toArray) (off:=i*1) (by rw[hz];simp[VF];omega) (fun _=>hz)
        have ex:=(VE i _ YG).1
        have ey:=(VG i _ YH).1
        rw[hz] at px py
        rw[show cx.toArray.toList=cx from rfl,ex] at px
        rw[show cy.toArray.toList=cy from rfl,ey] at py
        simp only[Op.eqItems,Sem.run_bind,px,py,Result.andThen_ok]
        have heq:=run_equalIn_int w d eB k k a b k2.int
        simp only[bQ,Ty.isAgg,cond_false,List.headD_cons,heq,if_true,Result.andThen_ok,YG,YH,List.all_cons]
        cases hb:(a==b) with
        | true =>
          have hxy:a=b:=by simpa using hb
          simp only[Bool.not_true,Bool.false_eq_true,if_false,hxy,decide_true,Bool.true_and]
          exact Zt fun j hj=>hi j (List.mem_cons_of_mem _ hj)
        | false =>
          have hxy:¬a=b:=by simpa using hb
          simp[hxy]
     rw[item _ fun i hi=>List.mem_range.1 hi]
     congr 1
     unfold YE
     rw[Bool.eq_iff_iff,List.all_eq_true]
     simp only[List.mem_range,decide_eq_true_eq]
     constructor
     ·intro h
      apply List.ext_getElem?
      intro i
      by_cases hin:i<n
      ·exact h i hin
      ·rw[List.getElem?_eq_none (by rw[show x.length=n from hxl];omega),List.getElem?_eq_none (by rw[show y.length=n from YF];omega)]
     ·intro h i _
      exact congrArg (fun l=>l[i]?) h
   | _=>cases he
 | unit =>
   refine⟨(fun d tid x y cx cy c hd=>by simp[Den,eK] at hd),fun d off fs x y cx cy xs ys c hd hx hy he hs h1 h2 h3 h4=>?_⟩
   cases fs with
   | nil=>obtain rfl:=Option.some.inj he;rfl
   | cons f r=>simp[mS,eK] at hd
 | pair a b iQ kX =>
   have key:(∀(d off:Nat) (fs:List Field) (x y:(Ty.pair a b).den) (cx cy:List Value) (xs ys:Array Value) (c:Bool),mS P (.pair a b) off fs→bE w γ.I (.pair a b) x cx→bE w γ.I (.pair a b) y cy→Ty.eqv (.pair a b) x y=some c→(Ty.pair a b).zO<d+1 →
    xs.toList.drop off=cx→ys.toList.drop off=cy→off≤xs.size→off≤ys.size→(Op.eqFields d xs ys fs).run P w=.ok c w):=by
    intro d off fs x y cx cy xs ys c hd hx hy he hs h1 h2 h3 h4
    obtain⟨f,r,rfl,k1,k2,k3,k4,k5⟩:=hd.cons
    obtain⟨x1,x2,VE,hx1,hx2⟩:=hx
    obtain⟨y1,y2,VG,hy1,gU⟩:=hy
    simp only[Ty.eqv] at he
    cases Xa:Ty.eqv a x.1 y.1 with
    | none=>rw[Xa] at he;cases he
    | some p =>
      cases XB:Ty.eqv b x.2 y.2 with
      | none=>rw[Xa,XB] at he;cases he
      | some q =>
        rw[Xa,XB] at he
        obtain rfl:=Option.some.inj he
        have Xb:=hx1.length
        have YI:=hy1.length
        have lx:xs.size-off=x1.length+x2.length:=by
         have:=congrArg List.length (h1.trans VE);simpa using this
        have ly:ys.size-off=y1.length+y2.length:=by
         have:=congrArg List.length (h2.trans VG);simpa using this
        have px:=xK (w:=w) k3 (cs:=xs) (off:=f.offset) (by omega) pQ
        have py:=xK (w:=w) k3 (cs:=ys) (off:=f.offset) (by omega) pQ
        have ex:(xs.toList.drop f.offset).take a.size=x1:=by rw[k1,h1,VE,←Xb,List.take_left]
        have ey:(ys.toList.drop f.offset).take a.size=y1:=by rw[k1,h2,VG,←YI,List.take_left]
        rw[ex] at px
        rw[ey] at py
        have hsz:(Ty.pair a b).zO=a.zO+b.zO+1:=rfl
        have hra:=J2 a
        have hrb:=J2 b
        have heq:=iQ.1 d f.type x.1 y.1 x1 y1 p k3 hx1 hy1 Xa (by omega)
        simp only[Op.eqFields,if_pos k2,Sem.run_bind,px,py,heq,Result.andThen_ok]
        cases p with
        | false=>simp[an]
        | true =>
          simp only[Bool.not_true,Bool.false_eq_true,if_false]
          rw[kX.2 d (off+a.size) r x.2 y.2 x2 y2 xs ys q k5 hx2 gU XB (by omega) (by rw[←List.drop_drop,h1,VE,←Xb,List.drop_left]) (by rw[←List.drop_drop,h2,VG,←YI,List.drop_left]) (by omega) (by omega)]
          simp[an]
   refine⟨fun d tid x y cx cy c hd hx hy he hs=>?_,fun d off fs x y cx cy xs ys c hd hx hy he hs=>key d off fs x y cx cy xs ys c hd hx hy he (by omega)⟩
   obtain⟨d,rfl⟩:∃e,d=e+1:=⟨d-1,by omega⟩
   obtain⟨fs,k1,k2,k3,k4⟩:=hd.pair
   have hf:P.fieldsOf tid=fs:=by simp[Program.fieldsOf,k1]
   show(Op.equalIn (d+1) tid (.agg _) (.agg _)).run P w=_
   rw[run_equalIn_struct w d tid _ _ (by rw[hf];exact k1) k4,hf]
   exact key d 0 fs.toList x y cx cy _ _ c k2 hx hy he (by omega) (by simp) (by simp) (by simp) (by simp)
end
end Go.Ge
namespace Go.Ge
set_option linter.unusedVariables false
set_option linter.unusedSimpArgs false
open RowKit
section
variable {P:Program} {B:nY} {N:Nat} {γ:Gh} {σ σ':St} {a:Act} {w:World} {d:Option Nat} {cx:Ctx}
theorem Ei(b c:Bool){xt:TypeId}{x y:Operand}(ht:P.underlying xt=some .bool) :
  (fA .eql xt x y (.bool b) (.bool c)).run P w=.ok (.bool (Ux b c)) w∧(fA .neq xt x y (.bool b) (.bool c)).run P w=.ok (.bool (nt (Ux b c))) w:=by
 have e:=run_equalIn_bool' (P:=P) w 9999 xt b c ht
 constructor<;>simp only[fA,eqGuard_at_bool,binOp,Op.equal,Op.maxDepth,Sem.run_bind,Sem.run_pure,Result.andThen_ok,e]<;>rfl
theorem J3{xt e:TypeId}(ht:P.underlying xt=some (.pointer e))(a b:Option Addr)(h:a=none∨b=none)(n:Nat) :
  (Op.equalIn (n+1) xt (.pointer a) (.pointer b)).run P w=.ok (a.isNone&&b.isNone) w:=by
 cases a with
 | none=>cases b<;>simp only[Op.equalIn,Sem.run_bind,run_underlying ht,Result.andThen_ok]<;>rfl
 | some a=>cases b with
   | none=>simp only[Op.equalIn,Sem.run_bind,run_underlying ht,Result.andThen_ok];rfl
   | some b=>simp at h
theorem tf{xt e:TypeId}{x y:Operand}(ht:P.underlying xt=some (.pointer e))(a b:Option Addr)(h:a=none∨b=none) :
  (fA .eql xt x y (.pointer a) (.pointer b)).run P w=.ok (.bool (a.isNone&&b.isNone)) w∧(fA .neq xt x y (.pointer a) (.pointer b)).run P w=.ok (.bool (!(a.isNone&&b.isNone))) w:=by
 have e:=J3 (P:=P) (w:=w) ht a b h 9999
 constructor<;>simp only[fA,eqGuard_at_pointer,binOp,Op.equal,Op.maxDepth,Sem.run_bind,Sem.run_pure,Result.andThen_ok,e]
theorem OS(hc:eG P cx){op:BinOp}{xt:TypeId}{x y:Operand}{u v:Value}{p q r:aQ}(hu:b8 γ σ.mem w p .val [u])(hv:b8 γ σ.mem w q .val [v])
  (hr:(bin (find cx.T xt) (cT cx.tP xt) op p q).run=some r):∃z,(fA op xt x y u v).run P w=.ok z w∧b8 γ σ.mem w r .val [z]:=by
 unfold bin at hr
 split at hr
 ·
  obtain⟨rfl,h1⟩:=qd hu
  obtain⟨rfl,h2⟩:=qd hv
  split at hr
  ·rename_i left hs
   have hr2:=eU hr
   rename_i k n k' m _
   cases hz:cm m 0
   ·rw[hz] at hr2;obtain rfl:=Option.some.inj hr2;exact J1 h1 hs hz
   ·rw[hz] at hr2;cases hr2
  ·rename_i hs
   obtain⟨hb,hr2⟩:=aA hr
   rename_i k n k' m _
   have hk:=tO hb
   subst hk
   exact Iw h1 hs hr2
 ·
  obtain⟨rfl,h1⟩:=td hu
  obtain⟨rfl,h2⟩:=td hv
  exact Ix hr
 ·
  rename_i b c
  obtain rfl:=uO hu
  obtain rfl:=uO hv
  obtain⟨hb,hr2⟩:=aA hr
  have ht:=hc.T _ _ (gr hb)
  have e:=Ei (P:=P) (w:=w) b c (x:=x) (y:=y) ht.bool
  split at hr2
  ·rename_i he
   obtain rfl:=Option.some.inj hr2
   rcases oD he with ⟨rfl,_⟩|⟨_,h⟩
   ·exact⟨.bool (Ux b c),e.1,eZ _⟩
   ·cases h
  ·rename_i he
   obtain rfl:=Option.some.inj hr2
   rcases oD he with ⟨_,h⟩|⟨rfl,_⟩
   ·cases h
   ·exact⟨.bool (nt (Ux b c)),e.2,eZ _⟩
  ·cases hr2
 ·
  rename_i ta tb x1 t2 y1
  obtain⟨hb,hr2⟩:=aA hr
  simp only[Bool.and_eq_true] at hb
  have ht:=hc.T _ _ (gr hb.1)
  split at hr2
  ·rename_i y2 e gU he
   obtain⟨e1,e2⟩:=Ty.iY gU
   subst e1;subst e2
   split at hr2
   ·rename_i c hce
    obtain rfl:=Option.some.inj hr2
    obtain⟨N4,k1,rfl⟩:=de.1 hu
    obtain⟨J4,k2,rfl⟩:=de.1 hv
    have hq:=(yp (P:=P) (γ:=γ) (w:=w) (.pair ta tb)).1 10000 xt x1 _ N4 J4 c ht k1 k2 hce (by have:=Nat.le_of_ble_eq_true hb.2;omega)
    obtain⟨fs,j1,j2,j3,j4⟩:=ht.pair
    have hg:∀op,(eqGuard op xt x y (.agg N4.toArray) (.agg J4.toArray)).run P w=.ok () w:=fun op=>run_eqGuard_agg w op xt x y _ _ j3
    rcases oD he with ⟨rfl,rfl⟩|⟨rfl,rfl⟩
    ·refine⟨.bool c,?_,eZ _⟩
     show(fA .eql xt x y (.agg _) (.agg _)).run P w=_
     simp only[fA,Sem.run_bind,hg,Result.andThen_ok]
     have QA:(Op.equalIn 10000 xt (.agg N4.toArray) (.agg J4.toArray)).run P w=.ok c w:=hq
     rw[run_eql_struct,QA];rfl
    ·refine⟨.bool (nt c),?_,eZ _⟩
     show(fA .neq xt x y (.agg _) (.agg _)).run P w=_
     simp only[fA,Sem.run_bind,hg,Result.andThen_ok]
     have QA:(Op.equalIn 10000 xt (.agg N4.toArray) (.agg J4.toArray)).run P w=.ok c w:=hq
     rw[run_neq_struct,QA];rfl
   ·cases hr2
  ·cases hr2
 ·
  rename_i nn ee x1 t2 y1
  obtain⟨hb,hr2⟩:=aA hr
  simp only[Bool.and_eq_true] at hb
  have ht:=hc.T _ _ (gr hb.1)
  split at hr2
  ·rename_i y2 e gU he
   obtain⟨e1,e2⟩:=Ty.iY gU
   subst e1;subst e2
   split at hr2
   ·rename_i c hce
    obtain rfl:=Option.some.inj hr2
    obtain⟨N4,k1,rfl⟩:=de.1 hu
    obtain⟨J4,k2,rfl⟩:=de.1 hv
    have hq:=(yp (P:=P) (γ:=γ) (w:=w) (.arr nn ee)).1 10000 xt x1 _ N4 J4 c ht k1 k2 hce (by have:=Nat.le_of_ble_eq_true hb.2;omega)
    have j3:=ht.V5
    have hg:∀op,(eqGuard op xt x y (.agg N4.toArray) (.agg J4.toArray)).run P w=.ok () w:=fun op=>run_eqGuard_agg w op xt x y _ _ j3
    rcases oD he with ⟨rfl,rfl⟩|⟨rfl,rfl⟩
    ·refine⟨.bool c,?_,eZ _⟩
     show(fA .eql xt x y (.agg _) (.agg _)).run P w=_
     simp only[fA,Sem.run_bind,hg,Result.andThen_ok]
     have QA:(Op.equalIn 10000 xt (.agg N4.toArray) (.agg J4.toArray)).run P w=.ok c w:=hq
     rw[run_eql_struct,QA];rfl
    ·refine⟨.bool (nt c),?_,eZ _⟩
     show(fA .neq xt x y (.agg _) (.agg _)).run P w=_
     simp only[fA,Sem.run_bind,hg,Result.andThen_ok]
     have QA:(Op.equalIn 10000 xt (.agg N4.toArray) (.agg J4.toArray)).run P w=.ok c w:=hq
     rw[run_neq_struct,QA];rfl
   ·cases hr2
  ·cases hr2
 ·
  obtain rfl:u=_:=by simpa [b8] using hu
  obtain rfl:v=_:=by simpa [b8] using hv
  split at hr
  ·rename_i e hp he
   obtain rfl:=Option.some.inj hr
   obtain⟨el,V8⟩:=hc.tP _ hp
   have q:=tf (P:=P) (w:=w) (x:=x) (y:=y) V8 none none (.inl rfl)
   rcases oD he with ⟨rfl,rfl⟩|⟨rfl,rfl⟩
   ·exact⟨_,q.1,eZ _⟩
   ·exact⟨_,q.2,eZ _⟩
  ·cases hr
 ·cases hr
theorem jD{b ax:Nat}(h:live σ b ax=true):∃bx,σ.mem b=some bx∧bx.ax=ax:=by
 unfold live at h
 split at h
 ·rename_i bx hb;exact⟨bx,hb,Nat.eq_of_beq_eq_true h⟩
 ·cases h
theorem aW{mem:Nat→Option bL}{b ax:Nat}{bx:bL}(hb:mem b=some bx)(hv:bx.ax=ax){K:bL→Prop}(h:jX mem b ax K):K bx:=by
 obtain⟨fJ,h1,h2,h3⟩:=h
 rw[hb] at h1
 obtain rfl:=Option.some.inj h1
 exact h3 hv
theorem Mk(hc:eG P cx){op:BinOp}{xt:TypeId}{x y:Operand}{u v:Value}{p q r:aQ}(hu:b8 γ σ.mem w p .val [u])(hv:b8 γ σ.mem w q .val [v])
  (hr:(Qs σ (find cx.T xt) (cT cx.tP xt) op p q).run=some r):∃z,(fA op xt x y u v).run P w=.ok z w∧b8 γ σ.mem w r .val [z]:=by
 unfold Qs at hr
 split at hr
 ·rename_i b ax p
  obtain⟨hb,hr2⟩:=aA hr
  simp only[Bool.and_eq_true] at hb
  obtain⟨bx,pR,aZ⟩:=jD hb.1
  obtain⟨blk,cap,_,hval⟩:=aW pR aZ hu.2
  obtain rfl:u=_:=by simpa using hval
  obtain rfl:v=_:=by simpa [b8] using hv
  obtain⟨el,V8⟩:=hc.tP _ hb.2
  have q:=tf (P:=P) (w:=w) (x:=x) (y:=y) V8 (some ⟨blk,cz p,none⟩) none (.inr rfl)
  split at hr2
  ·rename_i e he
   obtain rfl:=Option.some.inj hr2
   rcases oD he with ⟨rfl,rfl⟩|⟨rfl,rfl⟩
   ·exact⟨_,q.1,eZ _⟩
   ·exact⟨_,q.2,eZ _⟩
  ·cases hr2
 ·rename_i b ax p
  obtain⟨hb,hr2⟩:=aA hr
  simp only[Bool.and_eq_true] at hb
  obtain⟨bx,pR,aZ⟩:=jD hb.1
  obtain⟨blk,cap,_,hval⟩:=aW pR aZ hv.2
  obtain rfl:v=_:=by simpa using hval
  obtain rfl:u=_:=by simpa [b8] using hu
  obtain⟨el,V8⟩:=hc.tP _ hb.2
  have q:=tf (P:=P) (w:=w) (x:=x) (y:=y) V8 none (some ⟨blk,cz p,none⟩) (.inl rfl)
  split at hr2
  ·rename_i e he
   obtain rfl:=Option.some.inj hr2
   rcases oD he with ⟨rfl,rfl⟩|⟨rfl,rfl⟩
   ·exact⟨_,q.1,eZ _⟩
   ·exact⟨_,q.2,eZ _⟩
  ·cases hr2
 ·exact OS hc hu hv hr
theorem QB{op:UnOp}{u:Value}{p r:aQ}(hu:b8 γ σ.mem w p .val [u])(hr:(un op p).run=some r):∃z,(Op.unary op u).run P w=.ok z w∧b8 γ σ.mem w r .val [z]:=by
 unfold un at hr
 split at hr
 ·obtain rfl:=uO hu
  obtain rfl:=Option.some.inj hr
  exact⟨_,rfl,eZ _⟩
 ·obtain⟨rfl,h1⟩:=qd hu
  obtain rfl:=Option.some.inj hr
  exact⟨_,rfl,mkInt (ez _ _)⟩
 ·obtain⟨rfl,h1⟩:=qd hu
  obtain rfl:=Option.some.inj hr
  rename_i k n
  refine⟨_,?_,mkInt (ez _ _)⟩
  cases hk:k.signed<;>simp[Op.unary,Op.intBits,zN,hk]
 ·cases hr
theorem QC(hm:bz B γ σ.mem w){b:Nat}{bx:bL}(hb:σ.mem b=some bx){blk cap:Nat}(hl:γ.loc b=some (blk,cap)){p:List Ci}{v:aQ}(hn:(OO bx.buf p bx.val).run=some v) :
  ∃cur tid fr,w.heap[blk]?=some (.cells cur tid fr)∧l9 cur fr∧cz p+dY v≤cur.size∧b8 γ σ.mem w v .cells ((cur.toList.drop (cz p)).take (dY v)):=by
 have gz:=hm.boxes b bx hb
 unfold cw at gz
 unfold OO at hn
 cases bF:bx.buf with
 | false =>
   rw[bF] at gz hn
   obtain⟨cU,cap',cur,tid,fr,h1,h2,h3,gk,h4⟩:=gz
   rw[hl] at h1
   obtain⟨rfl,rfl⟩:=Prod.mk.inj (Option.some.inj h1)
   obtain⟨k1,k2⟩:=uN h4 hn
   exact⟨cur,tid,fr,h2,h3,by simpa using k1,k2⟩
 | true =>
   rw[bF] at gz hn
   obtain⟨e,l,h1,h2,h3⟩:=gz
   rw[h1] at hn
   rcases h3 with ⟨h3,_⟩|⟨cU,cap',cur,tid,fr,h3,h4,h5,gk,h6,h7,h8,h9⟩
   ·rw[hl] at h3;cases h3
   ·rw[hl] at h3
    obtain⟨rfl,rfl⟩:=Prod.mk.inj (Option.some.inj h3)
    cases p with
    | nil=>cases hn
    | cons s p =>
      cases s with
      | qI k off=>cases hn
      | idx i size =>
        obtain⟨hsb,hn2⟩:=aA hn
        have hsz:=Nat.eq_of_beq_eq_true hsb
        obtain⟨x,hx,S1⟩:=bR hn2
        obtain⟨h0,hx2⟩:=pO hx
        have hr:=h9 _ x hx2
        have hrl:=hr.length
        have hi:i.toNat<l.length:=(List.getElem?_eq_some_iff.1 hx2).1
        have hm2:(i.toNat+1)*e.size≤cap*e.size:=Nat.mul_le_mul_right _ (by omega)
        rw[Nat.succ_mul] at hm2
        obtain⟨k1,k2⟩:=uN (v:=.data e x) (show b8 γ σ.mem w (.data e x) .cells _ from hr) S1
        rw[hrl] at k1
        refine⟨cur,tid,fr,h4,h5.th,?_,?_⟩
        ·simp only[cz,hsz];omega
        ·rw[List.drop_take,List.take_take,List.drop_drop,Nat.min_eq_left (by omega)] at k2
         simp only[cz,hsz];exact k2
theorem ua{t:Ty}{tid:TypeId}(ht:Den P t tid){blk off:Nat}{x:t.den}{cs:List Value}(wq:bE w γ.I t x cs)(V9:(loadCells ⟨blk,off,none⟩ cs.length).run P w=.ok cs.toArray w)
  (hcell:∀(j:Nat) v,cs[j]?=some v→w.cell? ⟨blk,off+j,none⟩=some v):(loadVar tid ⟨blk,off,none⟩).run P w=.ok (bQ t cs) w:=by
 unfold loadVar
 rw[Sem.run_bind,ht.agg w,Result.andThen_ok]
 have hl:=wq.length
 cases hag:t.isAgg with
 | true =>
   simp only[if_true,Sem.run_bind,ht.sizeOf w,Result.andThen_ok,←hl,V9,Sem.run_pure,bQ,hag,cond_true]
 | false =>
   have hs:=pQ hag
   rw[hs] at hl
   obtain⟨c,rfl⟩:=List.length_eq_one_iff.1 hl
   have:=hcell 0 c rfl
   simp only[Nat.add_zero] at this
   simp[bQ,hag,this]
theorem J5(hc:eG P cx){ty:TypeId}{x:Operand}(h:cG B N γ σ a w)(hr:(jk cx d ty (cq σ x) σ).run=some σ') :
  ∃u val ad,σ'=σ.aR d u∧a.eval x=.pointer (some ad)∧(loadVar ty ad).run P w=.ok val w∧b8 γ σ.mem w u .val [val]:=by
 have hv:=h.cq x
 unfold jk at hr
 split at hr
 ·rename_i u y hx
  rw[hx] at hv
  obtain⟨hb,hr2⟩:=aA hr
  obtain rfl:=Option.some.inj hr2
  have ht:=hc.T _ _ (gr hb)
  obtain⟨blk,off,cs,h1,h2,h3⟩:=hv
  obtain h1:a.eval x=_:=by simpa using h1
  have hl:=ua (P:=P) ht h2 (BB h3) (fun j v hj=>(h3 j v hj).1)
  exact⟨_,_,_,rfl,h1,hl,cs,h2,rfl⟩
 ·rename_i b ax p hx
  rw[hx] at hv
  split at hr
  ·rename_i bx hb
   obtain⟨aZ,hr2⟩:=aA hr
   have aZ:=Nat.eq_of_beq_eq_true aZ
   obtain⟨v,hn,iR⟩:=bind_some hr2
   obtain⟨SJ,qM⟩:=aA iR
   obtain rfl:=Option.some.inj qM
   obtain⟨blk,cap,hl,hval⟩:=aW hb aZ hv.2
   obtain hval:a.eval x=_:=by simpa using hval
   obtain⟨cur,tid,fr,g1,g2,g3,g4⟩:=QC h.ok hb hl hn
   have Zu:=yc (P:=P) g1 g3
   have VH:=g4.length
   have hcells:∀(j:Nat) v',((cur.toList.drop (cz p)).take (dY v))[j]?=some v'→w.cell? ⟨blk,cz p+j,none⟩=some v':=fun j v' hj=>by
    rw[cell_of_heap g1]
    rw[List.getElem?_take] at hj
    split at hj
    ·rw[List.getElem?_drop] at hj;simpa using hj
    ·cases hj
   have single:∀(hone:(isAgg ty).run P w=.ok false w) (h1:dY v=1) (Co:∀c,b8 γ σ.mem w v .cells [c]→b8 γ σ.mem w v .val [c]),
     ∃u val ad,σ.aR d v=σ.aR d u∧a.eval x=.pointer (some ad)∧(loadVar ty ad).run P w=.ok val w∧b8 γ σ.mem w u .val [val]:=by
    intro hone h1 Co
    rw[h1] at VH g4 hcells
    obtain⟨c,Qe⟩:=List.length_eq_one_iff.1 VH
    rw[Qe] at g4 hcells
    have:=hcells 0 c rfl
    simp only[Nat.add_zero] at this
    refine⟨_,c,_,rfl,hval,?_,Co c g4⟩
    simp[loadVar,hone,this]
   cases v with
   | data u y =>
     have ht:=hc.T _ _ (gr SJ)
     have Gg:=ua (P:=P) ht g4 (by rw[VH];exact Zu) hcells
     exact⟨_,_,_,rfl,hval,Gg,_,g4,rfl⟩
   | whole b' OT =>
     simp only[Br] at SJ
     split at SJ
     ·rename_i e hT
      exact single (by have:=(hc.T _ _ hT).agg w;exact this) rfl (fun c k=>k)
     ·cases SJ
   | ptr b' OT p'=>exact single ((hc.mU _ SJ).1 w) rfl (fun c k=>k)
   | oA=>exact single ((hc.mU _ SJ).1 w) rfl (fun c k=>k)
   | fn f caps=>exact single ((hc.mU _ SJ).1 w) rfl (fun c k=>k)
   | _=>cases SJ
  ·cases hr
 ·cases hr
theorem Ej(hc:eG P cx){ty:TypeId}{x:Operand}(h:cG B N γ σ a w)(hd:∀k,d=some k→k<N)(hr:(jk cx d ty (cq σ x) σ).run=some σ') :
  mb P B N γ σ a w d (Instr.loadAt ty (a.eval x)) σ':=by
 obtain⟨u,val,ad,rfl,h1,h2,h3⟩:=J5 hc h hr
 refine bG h hd ?_ h3
 rw[h1]
 simp only[Instr.loadAt,Instr.sureAddr,Sem.run_bind,Sem.run_pure,Result.andThen_ok,h2]
end
end Go.Ge
