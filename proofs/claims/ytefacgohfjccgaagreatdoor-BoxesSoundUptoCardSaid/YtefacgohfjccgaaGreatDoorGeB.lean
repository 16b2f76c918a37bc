/- A ghost interpreter of the model's code, and that it tells the truth: part 2. It says of a function of plain data what a call of it comes to. -/
import Derived.Test.YtefacgohfjccgaaGreatDoorGeA
import Derived.Laws.StructEq
import Derived.ChangeKeysEq
set_option linter.unusedVariables false
set_option linter.unusedSimpArgs false
set_option linter.unusedSectionVars false
namespace Go.Ge
def fB:Ty→List Value
 | .int k=>[.int k 0]
 | .bool=>[.bool false]
 | .str=>[.string ⟨#[]⟩]
 | .slice _=>[.slice none 0 0]
 | .arr n e=>(List.replicate n (fB e)).flatten
 | .pair a b=>fB a++fB b
 | .unit=>[]
 | .alt _ _ r=>fB r
 | .CG=>[.nilIface]
theorem en(t:Ty):(fB t).length=t.size:=by
 induction t with
 | arr n e ih=>simp[fB,Ty.size,ih]
 | pair a b kM nV=>simp[fB,Ty.size,kM,nV]
 | alt u a r kM ihr=>exact ihr
 | _=>rfl
theorem fu{α:Type}(l:List α):∀(n i:Nat),i<n→((List.replicate n l).flatten.drop (i*l.length)).take l.length=l
 | 0,i,h=>absurd h (by omega)
 | n+1,0,_=>by simp[List.replicate_succ]
 | n+1,i+1,h=>by
   rw[List.replicate_succ,acP,CF,Zh,←zw,EG];exact fu l n i (by omega)
theorem oZ(w:World)(I:Nat→Nat→Prop):∀t:Ty,bN w I t t.zero (fB t):=by
 intro t;induction t with
 | int k=>exact⟨rfl,by cases k<;>decide,by cases k<;>decide⟩
 | bool=>rfl
 | str=>exact⟨rfl,rT _⟩
 | slice e ih=>exact .inl ⟨⟨none,rfl⟩,rfl⟩
 | arr n e ih =>
   refine⟨TS,by rw[en];rfl,fun i x hx=>?_⟩;have hx':(List.replicate n e.zero)[i]?=some x:=hx;rw[acy] at hx';split at hx'
   ·rename_i hi;obtain rfl:e.zero=x:=by simpa using hx'
    have:=fu (fB e) n i hi;rw[en] at this;show bN w I e e.zero (((List.replicate n (fB e)).flatten.drop (i*e.size)).take e.size)
    rw[this];exact ih
   ·cases hx'
 | pair a b kM nV=>exact⟨_,_,rfl,kM,nV⟩
 | unit=>rfl
 | alt u a r kM ihr=>exact ihr
 | CG=>rfl
def RZ:Value→Value→Bool
 | .int k n,.int k' m=>Nat.beq (Ca k) (Ca k')&&decide (n=m)
 | .bool a,.bool b=>a==b
 | .string a,.string b=>decide (a.data.toList=b.data.toList)
 | .slice none 0 0,.slice none 0 0=>true
 | .pointer none,.pointer none=>true
 | .nilIface,.nilIface=>true
 | _,_=>false
theorem WU{a b:Value}(h:RZ a b=true):a=b:=by
 unfold RZ at h;split at h
 ·simp only[dW,nY] at h;rw[Ao h.1,h.2]
 ·simpa using h
 ·rename_i a b;obtain⟨⟨a⟩⟩:=a;obtain⟨⟨b⟩⟩:=b;have h':a=b:=by simpa using h
  rw[h']
 ·rfl
 ·rfl
 ·rfl
 ·cases h
def GW:List Value→List Value→Bool
 | [],[]=>true
 | a::r,b::s=>RZ a b&&GW r s
 | _,_=>false
theorem J3:∀{a b:List Value},GW a b=true→a=b
 | [],[],_=>rfl
 | a::r,b::s,h=>by simp only[GW,dW] at h;rw[WU h.1,J3 h.2]
 | [],_::_,h=>by cases h
 | _::_,[],h=>by cases h
def EX(P:Program)(tid:TypeId)(size:Nat)(zc:List Value):Bool :=
 match P.info? tid with
 | some i=>Nat.beq i.size size&&(match i.zero with|some z=>GW z.cells.toList zc|none=>false)
 | none=>false
theorem kr{P:Program}{tid:TypeId}{size:Nat}{zc:List Value}(h:EX P tid size zc=true) :
  ∃i z,P.info? tid=some i∧i.size=size∧i.zero=some z∧z.cells.toList=zc:=by
 unfold EX at h;split at h
 ·rename_i i hi;simp only[dW] at h;split at h
  ·rename_i z hz;exact⟨i,z,hi,gz h.1,hz,J3 h.2⟩
  ·cases h.2
 ·cases h
def I6(P:Program)(tid:TypeId):Bool :=
 match P.info? tid with
 | some i=>Nat.ble i.bytes 32768
 | none=>false
def Ty.adh:Ty→Bool
 | .alt _ _ r=>r.adh
 | .CG=>true
 | _=>false
def fI(P:Program):Ty→Bool→TypeId→Nat→List Field→Bool
 | .int k,false,tid,_,_=>(match P.underlying tid with|some (.int k')=>Nat.beq (Ca k) (Ca k')|_=>false)&&EX P tid 1 [.int k 0]
 | .bool,false,tid,_,_=>(match P.underlying tid with|some .bool=>true|_=>false)&&EX P tid 1 [.bool false]
 | .str,false,tid,_,_=>(match P.underlying tid with|some .string=>true|_=>false)&&EX P tid 1 [.string ⟨#[]⟩]
 | .slice e,false,tid,_,_=>(match P.underlying tid with|some (.slice gd)=>fI P e false gd 0 []&&I6 P gd&&Nat.blt 0 e.size|_=>false)&&EX P tid 1 [.slice none 0 0]
 | .arr n e,false,tid,_,_=>(match P.underlying tid with|some (.array m gd)=>Nat.beq n m&&fI P e false gd 0 []&&Nat.blt 0 e.size|_=>false)&&EX P tid (n*e.size) (fB (.arr n e))&&!P.eqGuardType P.depth tid
 | .pair a b,false,tid,_,_=>(match P.underlying tid with
  | some (.struct fs)=>(match fs.toList with
    | f::r=>Nat.beq f.offset 0&&decide (f.name ≠ "_")&&fI P a false f.type 0 []&&Nat.blt 0 a.size&&fI P b true 0 a.size r
    | []=>false)
  | _=>false)&&EX P tid (a.size+b.size) (fB (.pair a b))&&!P.eqGuardType P.depth tid&&!P.stoodInHeld tid
 | .unit,false,tid,_,_=>false
 | .alt u _ r,false,tid,_,_=>fI P r false tid 0 []&&P.concrete u&&r.adh
 | .CG,false,tid,_,_=>(match P.underlying tid with|some (.interface _)=>true|_=>false)&&EX P tid 1 [.nilIface]
 | .pair a b,true,_,off,f::r=>Nat.beq f.offset off&&decide (f.name ≠ "_")&&fI P a false f.type 0 []&&Nat.blt 0 a.size&&fI P b true 0 (off+a.size) r
 | .unit,true,_,_,[]=>true
 | _,_,_,_,_=>false
def Den(P:Program)(t:Ty)(tid:TypeId):Prop:=fI P t false tid 0 []=true
def rS(P:Program)(t:Ty)(off:Nat)(fs:List Field):Prop:=fI P t true 0 off fs=true
section
variable {P:Program} {tid:TypeId}
theorem Den.int{k:IntKind}(h:Den P (.int k) tid):P.underlying tid=some (.int k):=by
 simp only[Den,fI,dW] at h;have h1:=h.1;split at h1
 ·rename_i k' hk;rw[hk,Ao h1]
 ·cases h1
theorem Den.bool(h:Den P .bool tid):P.underlying tid=some .bool:=by
 simp only[Den,fI,dW] at h;have h1:=h.1;split at h1
 ·rename_i hk;rw[hk]
 ·cases h1
theorem Den.str(h:Den P .str tid):P.underlying tid=some .string:=by
 simp only[Den,fI,dW] at h;have h1:=h.1;split at h1
 ·rename_i hk;rw[hk]
 ·cases h1
theorem Den.slice{e:Ty}(h:Den P (.slice e) tid):∃gd,P.underlying tid=some (.slice gd)∧Den P e gd∧I6 P gd=true∧0<e.size:=by
 simp only[Den,fI,dW] at h;have h1:=h.1;split at h1
 ·rename_i gd hk;simp only[dW] at h1;exact⟨gd,hk,h1.1.1,h1.1.2,by simpa using h1.2⟩
 ·cases h1
theorem Den.arr{n:Nat}{e:Ty}(h:Den P (.arr n e) tid):∃gd,P.underlying tid=some (.array n gd)∧Den P e gd∧0<e.size:=by
 simp only[Den,fI,dW] at h;have h1:=h.1.1;split at h1
 ·rename_i m gd hk;simp only[dW] at h1;rw[gz h1.1.1];exact⟨gd,hk,h1.1.2,by simpa using h1.2⟩
 ·cases h1
theorem Den.ajC{n:Nat}{e:Ty}(h:Den P (.arr n e) tid):P.eqGuardType P.depth tid=false:=by
 simp only[Den,fI,dW,nq] at h;exact h.2
theorem Den.pair{a b:Ty}(h:Den P (.pair a b) tid):∃fs,P.underlying tid=some (.struct fs)∧rS P (.pair a b) 0 fs.toList∧P.eqGuardType P.depth tid=false∧P.stoodInHeld tid=false:=by
 simp only[Den,fI,dW] at h;obtain⟨⟨⟨h1,h2⟩,h3⟩,h4⟩:=h;split at h1
 ·rename_i fs hk;refine⟨fs,hk,?_,by simpa using h3,by simpa using h4⟩;split at h1
  ·rename_i f r hr;simp only[rS,hr,fI,ym];exact h1
  ·cases h1
 ·cases h1
theorem Den.info{t:Ty}(h:Den P t tid):∃i z,P.info? tid=some i∧i.size=t.size∧i.zero=some z∧z.cells.toList=fB t:=by
 induction t with
 | int k=>simp only[Den,fI,dW] at h;exact kr h.2
 | bool=>simp only[Den,fI,dW] at h;exact kr h.2
 | str=>simp only[Den,fI,dW] at h;exact kr h.2
 | slice e=>simp only[Den,fI,dW] at h;exact kr h.2
 | arr n e=>simp only[Den,fI,dW] at h;exact kr h.1.2
 | pair a b=>simp only[Den,fI,dW] at h;exact kr h.1.1.2
 | unit=>simp[Den,fI] at h
 | alt u a r kM ihr=>simp only[Den,fI,dW] at h;exact ihr h.1.1
 | CG=>simp only[Den,fI,dW] at h;exact kr h.2
theorem Den.CG(h:Den P .CG tid):∃ms,P.underlying tid=some (.interface ms):=by
 simp only[Den,fI,dW] at h;have h1:=h.1;split at h1
 ·exact⟨_,by assumption⟩
 ·cases h1
theorem Den.rest{u:Nat}{a r:Ty}(h:Den P (.alt u a r) tid):Den P r tid∧P.concrete u=true:=by
 simp only[Den,fI,dW] at h;exact h.1
theorem Ty.ME:∀{t:Ty},t.adh=true→t.size=1∧t.isAgg=false:=by
 intro t;induction t with
 | alt u a r kM ihr=>intro h;exact ihr h
 | CG=>intro h;exact⟨rfl,rfl⟩
 | _=>intro h;cases h
theorem Den.adi{u:Nat}{a r:Ty}(_:Den P r tid)(h:Den P (.alt u a r) tid):r.size=1:=by
 simp only[Den,fI,dW] at h;exact(Ty.ME h.2).1
theorem Den.agg{t:Ty}(h:Den P t tid)(w:World):(isAgg tid).run P w=.ok t.isAgg w:=by
 induction t with
 | alt u a r kM ihr=>exact ihr h.rest.1
 | CG=>obtain⟨_,h1⟩:=h.CG;unfold Go.isAgg;simp[run_underlying h1,Ty.isAgg]
 | int k=>unfold Go.isAgg;simp[run_underlying h.int,Ty.isAgg]
 | bool=>unfold Go.isAgg;simp[run_underlying h.bool,Ty.isAgg]
 | str=>unfold Go.isAgg;simp[run_underlying h.str,Ty.isAgg]
 | slice e ih=>unfold Go.isAgg;obtain⟨_,h1,_⟩:=h.slice;simp[run_underlying h1,Ty.isAgg]
 | arr n e ih=>unfold Go.isAgg;obtain⟨_,h1,_⟩:=h.arr;simp[run_underlying h1,Ty.isAgg]
 | pair a b kM nV=>unfold Go.isAgg;obtain⟨_,h1,_⟩:=h.pair;simp[run_underlying h1,Ty.isAgg]
 | unit=>simp[Den,fI] at h
theorem Den.sizeOf{t:Ty}(h:Den P t tid)(w:World):(Go.sizeOf tid).run P w=.ok t.size w:=by
 obtain⟨i,z,h1,h2,_⟩:=h.info;simp[Go.sizeOf,typeInfo,h1,h2]
theorem Den.zero{t:Ty}(h:Den P t tid)(w:World):∃z,(zeroValue tid).run P w=.ok z w∧z.cells.toList=fB t:=by
 obtain⟨i,z,h1,h2,h3,h4⟩:=h.info;exact⟨z,by simp[zeroValue,typeInfo,h1,h3],h4⟩
theorem Den.cells{t:Ty}(h:Den P t tid):P.cellsOf tid=t.size:=by
 obtain⟨i,z,h1,h2,_⟩:=h.info;simp[Program.cellsOf,h1,h2]
theorem rS.cons{a b:Ty}{off:Nat}{fs:List Field}(h:rS P (.pair a b) off fs) :
  ∃f r,fs=f::r∧f.offset=off∧f.name ≠ "_"∧Den P a f.type∧0<a.size∧rS P b (off+a.size) r:=by
 cases fs with
 | nil=>simp[rS,fI] at h
 | cons f r =>
   simp only[rS,fI,dW] at h;obtain⟨⟨⟨⟨h1,h2⟩,h3⟩,h4⟩,h5⟩:=h;exact⟨f,r,rfl,gz h1,by simpa using h2,h3,by simpa using h4,h5⟩
theorem rS.at{t:Ty}:∀{off:Nat} {fs:List Field} {k:Nat} {u:Ty} {o:Nat},rS P t off fs→xg t k=some u→kg t k=some o →
  ∃f,fs[k]?=some f∧f.offset=off+o∧Den P u f.type∧0<u.size:=by
 induction t with
 | pair a b kM nV =>
   intro off fs k u o h hu ho;obtain⟨f,r,rfl,h1,h2,h3,h4,h5⟩:=h.cons;cases k with
   | zero =>
     simp only[xg,kg,vJ] at hu ho;subst hu ho;exact⟨f,rfl,by omega,h3,h4⟩
   | succ k =>
     simp only[xg,kg] at hu ho;cases hb:kg b k with
     | none=>rw[hb] at ho;cases ho
     | some o' =>
       rw[hb] at ho;simp only[Mo,vJ] at ho;obtain⟨f',k1,k2,k3,k4⟩:=nV h5 hu hb;exact⟨f',by simpa using k1,by omega,k3,k4⟩
 | _=>intro off fs k u o h hu ho;cases k<;>simp[xg] at hu
end
def p4.cells:p4→List Value
 | .dat t=>fB t
 | .buf _ _=>[.slice none 0 0]
 | _=>[.pointer none]
def MF:List p4→List Value
 | []=>[]
 | f::r=>f.cells++MF r
def ahv:List p4→Nat
 | []=>0
 | f::r=>f.size+ahv r
def QJ(P:Program):Nat→List p4→List Field→Bool
 | _,[],[]=>true
 | off,f::r,g::s=>Nat.beq g.offset off&&Nat.blt 0 f.size&&(match P.info? g.type with|some i=>Nat.beq i.size f.size|none=>false)&&QJ P (off+f.size) r s
 | _,_,_=>false
def O5(P:Program)(tid:TypeId)(fs:List p4):Bool :=
 (match P.underlying tid with|some (.struct gs)=>QJ P 0 fs gs.toList|_=>false)&&EX P tid (ahv fs) (MF fs)
theorem aas{P:Program}{tid:TypeId}{fs:List p4}(h:O5 P tid fs=true)(w:World):∃z,(zeroValue tid).run P w=.ok z w∧z.cells.toList=MF fs:=by
 simp only[O5,dW] at h;obtain⟨i,z,h1,h2,h3,h4⟩:=kr h.2;exact⟨z,by simp[zeroValue,typeInfo,h1,h3],h4⟩
theorem adj{P:Program}:∀{fs:List p4} {gs:List Field} {off k o:Nat},QJ P off fs gs=true→Bc fs k=some o→∃f i,gs[k]?=some f∧f.offset=off+o∧P.info? f.type=some i∧0<i.size:=by
 intro fs;induction fs with
 | nil=>intro gs off k o h ho;cases ho
 | cons f r ih =>
   intro gs off k o h ho;cases gs with
   | nil=>cases h
   | cons g s =>
     simp only[QJ,dW] at h;obtain⟨⟨⟨h1,h2⟩,h3⟩,h4⟩:=h;cases k with
     | zero =>
       obtain rfl:=aN ho;split at h3
       ·rename_i i hi;have h3':=gz h3;have h2':0<f.size:=by simpa using h2
        exact⟨g,i,rfl,by rw[gz h1];rfl,hi,by omega⟩
       ·cases h3
     | succ k =>
       simp only[Bc] at ho;split at ho
       ·rename_i o' ho';obtain rfl:=aN ho;obtain⟨f',i,k1,k2,k3,k4⟩:=ih h4 ho';exact⟨f',i,k1,by omega,k3,k4⟩
       ·cases ho
theorem afX{P:Program}{tid:TypeId}{fs:List p4}{k o:Nat}(h:O5 P tid fs=true)(ho:Bc fs k=some o):∃(gs:Array Field) (f:Field) (i:TypeInfo),P.underlying tid=some (.struct gs)∧gs.toList[k]?=some f∧f.offset=o∧P.info? f.type=some i∧0<i.size:=by
 simp only[O5,dW] at h;obtain⟨h1,_⟩:=h;split at h1
 ·rename_i gs hg;obtain⟨f,i,k1,k2,k3,k4⟩:=adj h1 ho;exact⟨gs,f,i,hg,k1,by omega,k3,k4⟩
 ·cases h1
theorem GX{P:Program}:∀{fs:List p4} {gs:List Field} {off:Nat},QJ P off fs gs=true→∃pl:List (Nat×Nat),gs.mapM (fun f=>(P.info? f.type).map fun i=>(f.offset,i.size))=some pl ∧
  ∀k o f,Bc fs k=some o→fs[k]?=some f→pl[k]?=some (off+o,f.size):=by
 intro fs;induction fs with
 | nil =>
   intro gs off h;cases gs with
   | nil=>exact⟨[],rfl,fun k o f _ hf=>by cases hf⟩
   | cons g s=>cases h
 | cons f r ih =>
   intro gs off h;cases gs with
   | nil=>cases h
   | cons g s =>
     simp only[QJ,dW] at h;obtain⟨⟨⟨h1,h2⟩,h3⟩,h4⟩:=h;obtain⟨pl,p1,p2⟩:=ih h4;split at h3
     ·rename_i i hi;refine⟨(g.offset,i.size)::pl,by simp[hi,p1],fun k o q ho hq=>?_⟩;cases k with
      | zero =>
        obtain rfl:=aN ho;obtain rfl:=aN hq;rw[acz,gz h1,gz h3];rfl
      | succ k =>
        simp only[Bc] at ho;split at ho
        ·rename_i o' ho';obtain rfl:=aN ho;have:=p2 k o' q ho' (by simpa using hq);rw[acA,this,A9]
        ·cases ho
     ·cases h3
structure gA (P:Program) (cx:Ctx):Prop where
 T:∀tid t,find cx.T tid=some t→Den P t tid
 u9:∀tid,dD cx.u9 tid=true→(∀w,(isAgg tid).run P w=.ok false w)∧(∀w,(Go.sizeOf tid).run P w=.ok 1 w)∧∃z,(∀w,(zeroValue tid).run P w=.ok z w)∧z.oneCell'=true
 EK:∀tid,dD cx.EK tid=true→∃e,P.underlying tid=some (.pointer e)
 fns:∀f fn,find cx.fns f=some fn→P.funcs[f]?=some fn
 wu:∀tid fs,find cx.wu tid=some fs→O5 P tid fs=true
 els:∀tid e,find cx.els tid=some e→P.underlying tid=some (.slice e)
theorem jG{o:Option Ty}{t:Ty}(h:IW o t=true):o=some t:=by
 unfold IW at h;split at h
 ·rw[Ty.eq_of_beq h]
 ·cases h
theorem addr_add(b o n:Nat):Addr.add ⟨b,o,none⟩ n=⟨b,o+n,none⟩:=by
 unfold Addr.add;split<;>simp_all
def splice(l:List Value)(off:Nat)(c:List Value):List Value:=l.take off++c++l.drop (off+c.length)
theorem bS{l c:List Value}{off:Nat}(h:off+c.length≤l.length):(splice l off c).length=l.length:=by
 simp[splice];omega
theorem nw.same{cur cur':Array Value}{fr:Nat×Nat}(h:nw cur fr)(hs:cur'.size=cur.size):nw cur' fr:=fun o ho=>h o (by omega)
section
variable {P:Program}
theorem ThB.same{e:Ty}{cur cur':Array Value}{fr:Nat×Nat}(h:ThB e cur fr)(hs:cur'.size=cur.size):ThB e cur' fr:=⟨h.th.same hs,fun he=>by rw[hs];exact h.um he⟩
theorem cZ(g o:Nat)(t:TypeId)(fr:Nat×Nat):∀(vs:List Value) (i:Nat) (cur:Array Value) (w:World),w.heap[g]?=some (.cells cur t fr)→nw cur fr →
  o+i+vs.length≤cur.size→(∀v∈vs,v.oneCell'=true)→(storeCells ⟨g,o,none⟩ vs i).run P w=.ok () (w.setRow g (splice cur.toList (o+i) vs).toArray)
 | [],i,cur,w,hg,_,_,_=>by
   simp only[storeCells,splice,Am,ig,An,CE,Array.toArray_toList];rw[setRow_self w g cur t fr hg];rfl
 | v::rest,i,cur,w,hg,MG,hl,h1=>by
   have hi:o+i<cur.size:=by simp at hl;omega
   have hcell:w.cell? ⟨g,o+i,none⟩=some cur[o+i]:=by simp[World.cell?,hg,hi]
   have alw:w.frozen? ⟨g,o+i,none⟩=false:=by
    have:=MG (o+i) hi;simp only[World.frozen?,hg];obtain⟨a,b⟩:=fr;simp only[Bool.and_eq_false_iff,OZ];simp only at this;omega
   have hst:(store ((⟨g,o,none⟩:Addr).add i) v).run P w=.ok () (w.setRow g (cur.setIfInBounds (o+i) v)):=by
    rw[addr_add,run_store P w _ v _ (h1 v (by simp)),hcell];simp[alw,setCell_eq_setRow w g (o+i) cur t fr v hg]
   have ih:=cZ g o t fr rest (i+1) (cur.setIfInBounds (o+i) v) (w.setRow g (cur.setIfInBounds (o+i) v)) (setRow_heap w g cur _ t _ hg) (MG.same (by simp)) (by simp at hl⊢;omega) (fun x hx=>h1 x (by simp[hx]));simp only[storeCells,Sem.run_bind,hst,Result.andThen_ok,ih,setRow_setRow]
   congr 3
   have e:=list_seg_step cur.toList (o+i) v rest (by simp at hl⊢;omega);simpa [splice,ahl,A9] using e
theorem cell_of_heap{w:World}{g:Nat}{cur:Array Value}{t:TypeId}{fr:Nat×Nat}(hg:w.heap[g]?=some (.cells cur t fr))(j:Nat):w.cell? ⟨g,j,none⟩=cur[j]?:=by
 simp[World.cell?,hg]
theorem EL{w:World}{g off n:Nat}{cur:Array Value}{t:TypeId}{fr:Nat×Nat}(hg:w.heap[g]?=some (.cells cur t fr))(h:off+n≤cur.size) :
  (loadCells ⟨g,off,none⟩ n).run P w=.ok ((cur.toList.drop off).take n).toArray w:=by
 have hl:((cur.toList.drop off).take n).length=n:=by simp;omega
 have:=run_loadCells_list (P:=P) w ⟨g,off,none⟩ ((cur.toList.drop off).take n) (fun j v hv=>by
  rw[addr_add,cell_of_heap hg];rw[gN] at hv;split at hv
  ·rw[nW] at hv;simpa using hv
  ·cases hv)
 rwa [hl] at this
theorem I7{w:World}{I:Nat→Nat→Prop}{g off:Nat}{cs:List Value}(h:GU w I g off cs):(loadCells ⟨g,off,none⟩ cs.length).run P w=.ok cs.toArray w :=
 run_loadCells_list (P:=P) w ⟨g,off,none⟩ cs (fun j v hv=>by rw[addr_add];exact(h j v hv).1)
end
end Go.Ge
namespace Go.Ge
theorem ja{a b:Nat}(h:a≠b):Nat.beq a b=false:=by
 cases hb:Nat.beq a b
 ·rfl
 ·exact absurd (gz hb) h
theorem adk(a:Act)(d t:Nat)(v:Value)(hd:d<a.tmps.size):(a.put (some d) v).tmps.getD t undef=if t=d then v else a.tmps.getD t undef:=by
 simp only[Act.put,acp,acs];by_cases h:d=t
 ·subst h;simp[hd]
 ·rw[br h,br (fun e=>h e.symm)]
theorem Um(a:Act)(d:Option Nat)(v:Value):(a.put d v).tmps.size=a.tmps.size:=by cases d<;>simp[Act.put]
theorem put_defers(a:Act)(d:Option Nat)(v:Value):(a.put d v).defers=a.defers:=by cases d<;>rfl
section
variable {B:tJ} {N:Nat} {γ γ':Gh} {σ:St} {a:Act} {w w':World} {mem':Nat→Option Box}
theorem dB.step(h:dB B N γ σ a w)(hx:Ext B γ σ.mem w γ' mem' w')(hm:bK B γ' mem' w'){d:Nat}(hd:d<N){v:aS}{val:Value}(hv:cI γ' mem' w' v .val [val]) :
  dB B N γ' ({ slots:=σ.slots,mem:=mem':St }.put d v) (a.put (some d) val) w' where
 slots:=fun t=>by
  rw[adk a d t val (by rw[h.size];exact hd)];simp only[St.put];by_cases e:t=d
  ·subst e;simpa using hv
  ·rw[br e,ja e];exact(h.slots t).ext hx
 size:=by rw[Um];exact h.size
 defers:=by rw[put_defers];exact h.defers
 ok:=hm
theorem dB.go(h:dB B N γ σ a w)(hx:Ext B γ σ.mem w γ' mem' w')(hm:bK B γ' mem' w'):dB B N γ' { slots:=σ.slots,mem:=mem' } a w' where
 slots:=fun t=>(h.slots t).ext hx
 size:=h.size
 defers:=h.defers
 ok:=hm
theorem dB.aW(h:dB B N γ σ a w)(hx:Ext B γ σ.mem w γ' mem' w')(hm:bK B γ' mem' w'){d:Option Nat}(hd:∀k,d=some k→k<N){v:aS}{val:Value}(hv:cI γ' mem' w' v .val [val]) :
  dB B N γ' ({ slots:=σ.slots,mem:=mem':St }.aW d v) (a.put d val) w':=by
 cases d with
 | none=>exact h.go hx hm
 | some d=>exact h.step hx hm (hd d rfl) hv
theorem dB.xy(h:dB B N γ σ a w){d:Option Nat}(hd:∀k,d=some k→k<N){v:aS}{val:Value}(hv:cI γ σ.mem w v .val [val]) :
 dB B N γ (σ.aW d v) (a.put d val) w:=h.aW (Ext.refl _ _ _ _) h.ok hd hv
end
theorem eu{γ:Gh}{mem:Nat→Option Box}{w:World}{t:Ty}{x:t.den}{v:Value}:cI γ mem w (.data t x) .val [v]↔∃cs,bN w γ.I t x cs∧v=cM t cs:=by
 simp only[cI,List.cons.injEq,and_true]
theorem aat(γ:Gh)(mem:Nat→Option Box)(w:World)(v:Value):cI γ mem w (Mv v) .val [v]:=by
 unfold Mv;split
 ·rename_i k n;cases hc:(decide (k.min≤n)&&decide (n≤k.max))
  ·exact⟨_,rfl⟩
  ·simp only[dW,nY] at hc;exact⟨[.int k n],⟨rfl,hc.1,hc.2⟩,rfl⟩
 ·rename_i b;exact⟨[.bool b],rfl,rfl⟩
 ·rename_i s;cases hc:Nat.ble s.data.toList.length 4294967296
  ·exact⟨_,rfl⟩
  ·refine⟨[.string s],⟨?_,?_⟩,rfl⟩
   ·obtain⟨⟨l⟩⟩:=s;rfl
   ·have:=KV hc;simp only[maxLen];omega
 ·rfl
 ·rfl
 ·rfl
 ·exact⟨_,rfl⟩
theorem dB.cL{B:tJ}{N:Nat}{γ:Gh}{σ:St}{a:Act}{w:World}(h:dB B N γ σ a w)(x:Operand):cI γ σ.mem w (cL σ x) .val [a.eval x]:=by
 cases x with
 | tmp t=>exact h.slots t
 | const v=>exact aat _ _ _ v
 | global g=>exact⟨_,rfl⟩
 | func f=>exact⟨#[],rfl,rfl,fun i b aC hc=>by simp at hc⟩
theorem cI.pe{γ:Gh}{mem:Nat→Option Box}{w:World}{v:aS}{x:Value}(h:cI γ mem w v .val [x])(hv:∀u,v≠.FQ u)(h0:v=.undef→x.oneCell'=true):cI γ mem w v .cells x.cells.toList:=by
 cases v with
 | undef=>exact⟨x,by cases x<;>first|rfl|(have:=h0 rfl;simp[Value.oneCell'] at this),h0 rfl⟩
 | data t y=>obtain⟨cs,h1,h2⟩:=eu.1 h;subst h2;show bN _ _ _ _ _;rw[uw h1];exact h1
 | qd=>obtain rfl:x=_:=by simpa [cI] using h
       rfl
 | tO=>obtain rfl:x=_:=by simpa [cI] using h
       rfl
 | u7=>obtain rfl:x=_:=by simpa [cI] using h
       rfl
 | yC b aC=>obtain⟨⟨v,h1,h2⟩,h3⟩:=h;simp at h1;subst h1;refine⟨⟨x,?_,h2⟩,?_⟩
            ·cases x<;>first|rfl|(simp[Value.oneCell'] at h2)
            ·obtain⟨bx,k1,k2,k3⟩:=h3;exact⟨bx,k1,k2,fun e=>by
              obtain⟨blk,cap,j1,j2⟩:=k3 e;refine⟨blk,cap,j1,?_⟩;rcases j2 with j2|j2
              ·simp at j2;subst j2;exact .inl rfl
              ·simp at j2;subst j2;exact .inr rfl⟩
 | cell t y=>obtain⟨blk,off,cs,h1,h2,h3⟩:=h;simp at h1;subst h1;exact⟨blk,off,cs,rfl,h2,h3⟩
 | ptr b aC p=>obtain⟨⟨v,h1,h2⟩,h3⟩:=h;simp at h1;subst h1;refine⟨⟨x,?_,h2⟩,?_⟩
               ·cases x<;>first|rfl|(simp[Value.oneCell'] at h2)
               ·obtain⟨bx,k1,k2,k3⟩:=h3;exact⟨bx,k1,k2,fun e=>by obtain⟨blk,cap,j1,j2⟩:=k3 e;simp at j2;subst j2;exact⟨blk,cap,j1,rfl⟩⟩
 | whole b aC=>obtain⟨⟨v,h1,h2⟩,h3⟩:=h;simp at h1;subst h1;refine⟨⟨x,?_,h2⟩,?_⟩
               ·cases x<;>first|rfl|(simp[Value.oneCell'] at h2)
               ·obtain⟨bx,k1,k2,k3⟩:=h3;exact⟨bx,k1,k2,fun e=>by
                 obtain⟨u,n,j1,j2,j3⟩:=k3 e;refine⟨u,n,j1,j2,?_⟩;rcases j3 with ⟨j3,j4⟩|⟨blk,cap,j3,j4⟩
                 ·simp at j4;subst j4;exact .inl ⟨j3,rfl⟩
                 ·simp at j4;subst j4;exact .inr ⟨blk,cap,j3,rfl⟩⟩
 | part b aC lo n=>obtain⟨⟨v,h1,h2⟩,h3⟩:=h;simp at h1;subst h1;refine⟨⟨x,?_,h2⟩,?_⟩
                   ·cases x<;>first|rfl|(simp[Value.oneCell'] at h2)
                   ·obtain⟨bx,k1,k2,k3⟩:=h3;exact⟨bx,k1,k2,fun e=>by
                     obtain⟨u,k,j1,j2,j3,j4,base,cap,j5,j6⟩:=k3 e;simp at j5;subst j5;exact⟨u,k,j1,j2,j3,j4,base,cap,rfl,j6⟩⟩
 | win b aC q e k lo n=>obtain⟨⟨v,h1,h2⟩,h3⟩:=h;simp at h1;subst h1;refine⟨⟨x,?_,h2⟩,?_⟩
                        ·cases x<;>first|rfl|(simp[Value.oneCell'] at h2)
                        ·obtain⟨bx,k1,k2,k3⟩:=h3;exact⟨bx,k1,k2,fun e=>by
                          obtain⟨j0,u,c,j1,j2,j3,j4,base,cap,j5,j6⟩:=k3 e;simp at j5;subst j5;exact⟨j0,u,c,j1,j2,j3,j4,base,cap,rfl,j6⟩⟩
 | fn f caps=>obtain⟨arr,h1,h2⟩:=h;simp at h1;subst h1;exact⟨arr,rfl,h2⟩
 | mix p q=>obtain⟨c1,c2,h1,h2,h3⟩:=h;simp at h1;subst h1;exact⟨c1,c2,by simp[Value.cells],h2,h3⟩
 | FQ u=>exact absurd rfl (hv u)
 | nl=>exact h.elim
theorem cI.length{γ:Gh}{mem:Nat→Option Box}{w:World}:∀{v:aS} {cs:List Value},cI γ mem w v .cells cs→cs.length=dn v:=by
 intro v;induction v with
 | data t x=>intro cs h;exact bN.length h
 | mix a b kM nV=>intro cs h;obtain⟨c1,c2,rfl,h1,h2⟩:=h;rw[iO,kM h1,nV h2];rfl
 | undef=>intro cs h;obtain⟨v,rfl,_⟩:=h;rfl
 | qd=>intro cs h;rw[show cs=_ from h];rfl
 | tO=>intro cs h;rw[show cs=_ from h];rfl
 | u7=>intro cs h;rw[show cs=_ from h];rfl
 | yC b aC=>intro cs h;obtain⟨⟨_,rfl,_⟩,_⟩:=h;rfl
 | cell t x=>intro cs h;obtain⟨_,_,_,rfl,_⟩:=h;rfl
 | ptr b aC p=>intro cs h;obtain⟨⟨_,rfl,_⟩,_⟩:=h;rfl
 | whole b aC=>intro cs h;obtain⟨⟨_,rfl,_⟩,_⟩:=h;rfl
 | part b aC lo n=>intro cs h;obtain⟨⟨_,rfl,_⟩,_⟩:=h;rfl
 | win b aC q e k lo n=>intro cs h;obtain⟨⟨_,rfl,_⟩,_⟩:=h;rfl
 | fn f caps=>intro cs h;obtain⟨_,rfl,_⟩:=h;rfl
 | FQ u ih=>intro cs h;exact h.elim
 | nl=>intro cs h;exact h.elim
theorem cI.one{γ:Gh}{mem:Nat→Option Box}{w:World}:∀{v:aS} {cs:List Value},cI γ mem w v .cells cs→∀c∈cs,c.oneCell'=true:=by
 intro v;induction v with
 | data t x=>intro cs h;exact bN.one h
 | mix a b kM nV =>
   intro cs h c hc;obtain⟨c1,c2,rfl,h1,h2⟩:=h;rcases List.mem_append.1 hc with hc|hc
   ·exact kM h1 c hc
   ·exact nV h2 c hc
 | undef=>intro cs h c hc;obtain⟨v,rfl,h1⟩:=h;simp at hc;subst hc;exact h1
 | qd=>intro cs h c hc;rw[show cs=_ from h] at hc;simp at hc;subst hc;rfl
 | tO=>intro cs h c hc;rw[show cs=_ from h] at hc;simp at hc;subst hc;rfl
 | u7=>intro cs h c hc;rw[show cs=_ from h] at hc;simp at hc;subst hc;rfl
 | yC b aC=>intro cs h c hc;obtain⟨⟨_,rfl,h1⟩,_⟩:=h;simp at hc;subst hc;exact h1
 | cell t x=>intro cs h c hc;obtain⟨_,_,_,rfl,_⟩:=h;simp at hc;subst hc;rfl
 | ptr b aC p=>intro cs h c hc;obtain⟨⟨_,rfl,h1⟩,_⟩:=h;simp at hc;subst hc;exact h1
 | whole b aC=>intro cs h c hc;obtain⟨⟨_,rfl,h1⟩,_⟩:=h;simp at hc;subst hc;exact h1
 | part b aC lo n=>intro cs h c hc;obtain⟨⟨_,rfl,h1⟩,_⟩:=h;simp at hc;subst hc;exact h1
 | win b aC q e k lo n=>intro cs h c hc;obtain⟨⟨_,rfl,h1⟩,_⟩:=h;simp at hc;subst hc;exact h1
 | fn f caps=>intro cs h c hc;obtain⟨_,rfl,_⟩:=h;simp at hc;subst hc;rfl
 | FQ u ih=>intro cs h;exact h.elim
 | nl=>intro cs h;exact h.elim
theorem va{α:Type}{l:List α}{i:Int}{x:α}(h:idx l i=some x):0≤i∧l[i.toNat]?=some x:=by
 unfold idx at h;split at h
 ·rename_i h0;exact⟨h0,h⟩
 ·cases h
theorem FU{w:World}{I:Nat→Nat→Prop}:∀{t:Ty} {x:t.den} {cs:List Value} {k o:Nat} {u:aS},bN w I t x cs→qX t x k=some (o,u) →
  ∃(t':Ty) (y:t'.den),u=.data t' y∧xg t k=some t'∧kg t k=some o∧o+t'.size≤cs.length∧bN w I t' y ((cs.drop o).take t'.size):=by
 intro t;induction t with
 | pair a b kM nV =>
   intro x cs k o u h hk;obtain⟨c1,c2,rfl,h1,h2⟩:=h;cases k with
   | zero =>
     simp only[qX,vJ,GK] at hk;obtain⟨rfl,rfl⟩:=hk;refine⟨a,x.1,rfl,rfl,rfl,by rw[iO,h1.length];omega,?_⟩;rw[FO,←h1.length,JW];exact h1
   | succ k =>
     simp only[qX] at hk;cases hf:qX b x.2 k with
     | none=>rw[hf] at hk;cases hk
     | some r =>
       rw[hf] at hk;simp only[vJ,GK] at hk;obtain⟨rfl,rfl⟩:=hk;obtain⟨t',y,k1,k2,k3,k4,k5⟩:=nV h2 (show qX b x.2 k=some (r.1,r.2) from hf);refine⟨t',y,k1,k2,by simp[kg,k3],by rw[iO,h1.length];omega,?_⟩;rw[←h1.length,←zw,EG];exact k5
 | _=>intro x cs k o u h hk;cases k<;>simp[qX] at hk
theorem I8{γ:Gh}{mem:Nat→Option Box}{w:World}:∀{v:aS} {cs:List Value} {k o:Nat} {u:aS},cI γ mem w v .cells cs→n7 v k=some (o,u) →
  o+dn u≤cs.length∧cI γ mem w u .cells ((cs.drop o).take (dn u)):=by
 intro v;induction v with
 | data t x =>
   intro cs k o u h hk;obtain⟨t',y,rfl,_,_,h1,h2⟩:=FU (w:=w) h hk;exact⟨h1,h2⟩
 | mix a b kM nV =>
   intro cs k o u h hk;obtain⟨c1,c2,rfl,h1,h2⟩:=h;cases k with
   | zero =>
     simp only[n7,vJ,GK] at hk;obtain⟨rfl,rfl⟩:=hk;refine⟨by rw[iO,h1.length];omega,?_⟩;rw[FO,←h1.length,JW];exact h1
   | succ k =>
     simp only[n7] at hk;cases hf:n7 b k with
     | none=>rw[hf] at hk;cases hk
     | some r =>
       rw[hf] at hk;simp only[vJ,GK] at hk;obtain⟨rfl,rfl⟩:=hk;obtain⟨k4,k5⟩:=nV h2 (show n7 b k=some (r.1,r.2) from hf);refine⟨by rw[iO,h1.length];omega,?_⟩;rw[←h1.length,←zw,EG];exact k5
 | _=>intro cs k o u h hk;cases k<;>simp[n7] at hk
theorem L3{γ:Gh}{mem:Nat→Option Box}{w:World}{t:Ty}{v:aS}{z:t.den}{es:List Value}(h:toS t v=some z)(hv:cI γ mem w v .cells es):bN w γ.I t z es:=by
 cases v with
 | data u y =>
   obtain⟨e,e2⟩:=Ty.lT (show Ty.to u t y=some z from h);subst e;subst e2;exact hv
 | _=>cases h
theorem bind_some{α β:Type}{t:Tree α}{f:α→Tree β}{y:β}(h:(t.bind f).run=some y):∃x,t.run=some x∧(f x).run=some y:=by
 rw[Tree.run_bind] at h;exact Option.bind_eq_some_iff.1 h
theorem cl{T α:Type}{o:Option T}{k:T→Tree α}{y:α}(h:(Tree.look o k).run=some y):∃x,o=some x∧(k x).run=some y:=by
 cases o with
 | none=>cases h
 | some x=>exact⟨x,rfl,h⟩
theorem cF{α:Type}{c:Bool}{t:Tree α}{y:α}(h:(Tree.need c t).run=some y):c=true∧t.run=some y:=by
 cases c with
 | false=>cases h
 | true=>exact⟨rfl,h⟩
theorem aD{α:Type}{c:Bool}{t:Tree α}{y:α}(h:(bif c then t else .fail).run=some y):c=true∧t.run=some y:=by
 cases c with
 | false=>cases h
 | true=>exact⟨rfl,h⟩
theorem gP{α:Type}{c:Bool}{t e:Tree α}{y:α}(h:(Tree.node c t e).run=some y):(bif c then t else e).run=some y:=by
 cases c<;>exact h
section
variable {γ:Gh} {mem:Nat→Option Box} {w:World}
theorem Un:∀{t:Ty} {x:t.den} {cs:List Value} {k o:Nat} {u:aS} {y:t.den} {f:aS→Tree aS} {es:List Value},
  bN w γ.I t x cs→qX t x k=some (o,u)→(∀v,(f u).run=some v→cI γ mem w v .cells es)→(LQ t x k f).run=some y→es.length=dn u →
  bN w γ.I t y (splice cs o es):=by
 intro t;induction t with
 | pair a b kM nV =>
   intro x cs k o u y f es h hk hf hs hl;obtain⟨c1,c2,rfl,h1,h2⟩:=h;cases k with
   | zero =>
     simp only[qX,vJ,GK] at hk;obtain⟨rfl,rfl⟩:=hk;obtain⟨v,hf',hs⟩:=bind_some hs;have he:=hf v hf';cases hv:toS a v with
     | none=>rw[hv] at hs;cases hs
     | some z =>
       rw[hv] at hs;obtain rfl:=aN hs;simp only[dn] at hl;refine⟨es,c2,?_,L3 hv he,h2⟩;simp only[splice,QE,zu,ym];rw[show es.length=c1.length by rw[hl,h1.length],EG]
   | succ k =>
     simp only[qX] at hk;cases hfd:qX b x.2 k with
     | none=>rw[hfd] at hk;cases hk
     | some r =>
       rw[hfd] at hk;simp only[vJ,GK] at hk;obtain⟨rfl,rfl⟩:=hk;obtain⟨z,hq,hs⟩:=bind_some hs;obtain rfl:=aN hs;have:=nV h2 (show qX b x.2 k=some (r.1,r.2) from hfd) hf hq hl;refine⟨c1,splice c2 r.1 es,?_,h1,this⟩;simp only[splice,←h1.length,Y0,pZ]
       congr 1;congr 1;congr 1
       rw[A9,←zw,EG]
 | _=>intro x cs k o u y f es h hk;cases k<;>simp[qX] at hk
theorem MH:∀{v0:aS} {cs:List Value} {k o:Nat} {u c:aS} {f:aS→Tree aS} {es:List Value},
  cI γ mem w v0 .cells cs→n7 v0 k=some (o,u)→(∀v,(f u).run=some v→cI γ mem w v .cells es)→(IV v0 k f).run=some c→es.length=dn u →
  cI γ mem w c .cells (splice cs o es):=by
 intro v0;induction v0 with
 | data t x =>
   intro cs k o u c f es h hk hf hs hl;obtain⟨y,hy,hs⟩:=bind_some hs;obtain rfl:=aN hs;exact Un h hk hf hy hl
 | mix a b kM nV =>
   intro cs k o u c f es h hk hf hs hl;obtain⟨c1,c2,rfl,h1,h2⟩:=h;cases k with
   | zero =>
     simp only[n7,vJ,GK] at hk;obtain⟨rfl,rfl⟩:=hk;obtain⟨v,hf',hs⟩:=bind_some hs;have he:=hf v hf';obtain rfl:=aN hs;refine⟨es,c2,?_,he,h2⟩;simp only[splice,QE,zu,ym];rw[show es.length=c1.length by rw[hl,h1.length],EG]
   | succ k =>
     simp only[n7] at hk;cases hfd:n7 b k with
     | none=>rw[hfd] at hk;cases hk
     | some r =>
       rw[hfd] at hk;simp only[vJ,GK] at hk;obtain⟨rfl,rfl⟩:=hk;obtain⟨z,hq,hs⟩:=bind_some hs;obtain rfl:=aN hs;have:=nV h2 (show n7 b k=some (r.1,r.2) from hfd) hf hq hl;refine⟨c1,splice c2 r.1 es,?_,h1,this⟩;simp only[splice,←h1.length,Y0,pZ]
       congr 1;congr 1;congr 1
       rw[A9,←zw,EG]
 | _=>intro cs k o u c f es h hk;cases k<;>simp[n7] at hk
theorem yD:∀{p:List FP} {v u:aS} {cs:List Value},cI γ mem w v .cells cs→(nav p v).run=some u→cP p+dn u≤cs.length∧cI γ mem w u .cells ((cs.drop (cP p)).take (dn u)):=by
 intro p;induction p with
 | nil =>
   intro v u cs h hn;obtain rfl:=aN hn;have hl:=h.length;refine⟨by simp[cP];omega,?_⟩;rw[show cP []=0 from rfl,FO,←hl,GJ];exact h
 | cons s p ih =>
   intro v u cs h hn;cases s with
   | gG k off =>
     simp only[nav] at hn;cases hf:n7 v k with
     | none=>rw[hf] at hn;cases hn
     | some r =>
       rw[hf] at hn;obtain⟨hb,hn2⟩:=aD hn;have hoff:=gz hb;obtain⟨h1,h2⟩:=I8 h (show n7 v k=some (r.1,r.2) from hf);obtain⟨h3,h4⟩:=ih h2 hn2;have hl:=h2.length;simp only[cP,←hoff];rw[hl] at h3;refine⟨by omega,?_⟩;rw[Zc,Mr,zw,vK (by omega)] at h4;exact h4
   | idx i size =>
     simp only[nav] at hn;split at hn
     ·rename_i n e l;obtain⟨hb,hn2⟩:=aD hn;have hsz:=gz hb;obtain⟨x,hx,hn3⟩:=cl hn2;obtain⟨h0,hx2⟩:=va hx;obtain⟨k1,k2,k3⟩:=h;have hr:=k3 _ x hx2;obtain⟨h3,h4⟩:=ih (v:=.data e x) (show cI γ mem w (.data e x) .cells _ from hr) hn3;have hl:=hr.length;have hi:i.toNat<n:=by have:=(List.getElem?_eq_some_iff.1 hx2).1;omega
      have hm:(i.toNat+1)*e.size≤n*e.size:=gM _ hi;rw[CF] at hm;rw[hl] at h3;simp only[cP,hsz];refine⟨by omega,?_⟩;rw[Zc,Mr,zw,vK (by omega)] at h4;exact h4
     ·cases hn
theorem ux(cs:List Value)(a b:Nat)(n:Nat)(es:List Value)(h:b+es.length≤n)(hn:a+n≤cs.length) :
  splice cs a (splice ((cs.drop a).take n) b es)=splice cs (a+b) es:=by
 have hl:((cs.drop a).take n).length=n:=by simp;omega
 have hls:(splice ((cs.drop a).take n) b es).length=n:=by rw[bS (by omega),hl]
 have e1:splice cs a (splice ((cs.drop a).take n) b es)=cs.take a++splice ((cs.drop a).take n) b es++cs.drop (a+n):=by
  rw[splice,hls]
 rw[e1];simp only[splice,pZ];rw[Mr,vK (by omega),←pZ,←List.take_add]
 congr 1;congr 1
 have:cs.drop (a+n)=(cs.drop a).drop n:=by rw[zw]
 rw[this,←aah (by rw[hl];exact h),CE,zw,A9]
theorem MI{I:Nat→Nat→Prop}{e:Ty}{n:Nat}{l:List e.den}{cs es:List Value}{i:Nat}{y:e.den}(hl:l.length=n)(hc:n*e.size≤cs.length)
  (h:∀(j:Nat) (x:e.den),l[j]?=some x→bN w I e x ((cs.drop (j*e.size)).take e.size)) (hi:i<n) (hy:bN w I e y es) :
  ∀(j:Nat) (x:e.den),(l.set i y)[j]?=some x→bN w I e x (((splice cs (i*e.size) es).drop (j*e.size)).take e.size):=by
 intro j x hx;have hel:=hy.length;have hm:(i+1)*e.size≤n*e.size:=gM _ hi;rw[CF] at hm;have htl:(cs.take (i*e.size)).length=i*e.size:=by rw[cW];omega
 rw[Y6] at hx;split at hx
 ·rename_i hij;subst hij;split at hx
  ·obtain rfl:=aN hx;have:((splice cs (i*e.size) es).drop (i*e.size)).take e.size=es:=by
    rw[splice,pZ]
    conv=>lhs;arg 2;arg 1;rw[←htl]
    rw[htl,Y9 htl,←hel,JW]
   rw[this];exact hy
  ·cases hx
 ·rename_i hij;have hj:j<n:=by have:=(List.getElem?_eq_some_iff.1 hx).1;omega
  have hmj:(j+1)*e.size≤n*e.size:=gM _ hj;rw[CF] at hmj;have key:((splice cs (i*e.size) es).drop (j*e.size)).take e.size=(cs.drop (j*e.size)).take e.size:=by
   apply O2;intro q;rw[gN,gN];split
   ·rename_i hq;rw[nW,nW,splice];rcases xe j i with h1|h1
    ·have:(j+1)*e.size≤i*e.size:=gM _ h1;rw[CF] at this;rw[pZ,TM (by omega),gN,bu (by omega)]
    ·have:(i+1)*e.size≤j*e.size:=gM _ (by omega);rw[CF] at this;rw[acq (by rw[iO];omega),nW,iO,htl]
     congr 1;omega
   ·rfl
  rw[key];exact h j x hx
theorem Bi:∀{p:List FP} {v u0 u c:aS} {cs es:List Value},cI γ mem w v .cells cs→(nav p v).run=some u0→(zy p v u).run=some c→cI γ mem w u .cells es→es.length=dn u0 →
  cI γ mem w c .cells (splice cs (cP p) es):=by
 intro p;induction p with
 | nil =>
   intro v u0 u c cs es h hn hs he hl;obtain rfl:=aN hn;obtain rfl:=aN hs;have:=h.length;simp only[cP,splice,QE,zu,ym];rw[Mj (by omega),Am];exact he
 | cons s p ih =>
   intro v u0 u c cs es h hn hs he hl;cases s with
   | gG k off =>
     simp only[nav] at hn;cases hf:n7 v k with
     | none=>rw[hf] at hn;cases hn
     | some r =>
       rw[hf] at hn;obtain⟨hb,hn2⟩:=aD hn;have hoff:=gz hb;obtain⟨h1,h2⟩:=I8 h (show n7 v k=some (r.1,r.2) from hf);obtain⟨h3,h4⟩:=yD h2 hn2;have LY:=h2.length;rw[LY] at h3;have:=MH (f:=fun w=>zy p w u) h (show n7 v k=some (r.1,r.2) from hf) (fun z hq=>ih (u:=u) h2 hn2 hq he hl) hs (by rw[bS (by rw[LY,hl];exact h3),LY]);rw[ux cs r.1 (cP p) (dn r.2) es (by omega) h1,hoff] at this;exact this
   | idx i size =>
     simp only[nav] at hn;split at hn
     ·rename_i n e l;obtain⟨hb,hn2⟩:=aD hn;have hsz:=gz hb;obtain⟨x,hx,hn3⟩:=cl hn2;simp only[zy] at hs;obtain⟨x',hx',hs2⟩:=cl hs;obtain rfl:x=x':=aN (hx.symm.trans hx');obtain⟨z,hq,hs3⟩:=bind_some hs2;cases hz:toS e z with
      | none=>rw[hz] at hs3;cases hs3
      | some y =>
        rw[hz] at hs3;obtain rfl:=aN hs3;obtain⟨h0,hx2⟩:=va hx;obtain⟨k1,k2,k3⟩:=h;have hr:=k3 _ x hx2;have hi:i.toNat<n:=by have:=(List.getElem?_eq_some_iff.1 hx2).1;omega
        have hm:(i.toNat+1)*e.size≤n*e.size:=gM _ hi;rw[CF] at hm;have hrr:cI γ mem w (.data e x) .cells ((cs.drop (i.toNat*e.size)).take e.size):=hr;obtain⟨h3,h4⟩:=yD hrr hn3;have hrl:=hr.length;rw[hrl] at h3;have hzz:=L3 hz (ih hrr hn3 hq he hl);have hsl:(splice ((cs.drop (i.toNat*e.size)).take e.size) (cP p) es).length=e.size:=by rw[bS (by rw[hrl,hl];exact h3),hrl]
        have e1:=ux cs (i.toNat*e.size) (cP p) e.size es (by omega) (by omega);simp only[cP,hsz];rw[←e1];refine⟨?_,?_,?_⟩
        ·exact(@List.length_set _ (l:List e.den) _ _).trans k1
        ·rw[bS (by omega)];exact k2
        ·exact MI k1 (by omega) k3 hi hzz
     ·cases hn
end
end Go.Ge
namespace Go.Ge
open RowKit
section
variable {B:tJ} {γ γ':Gh} {mem mem':Nat→Option Box} {w w':World}
theorem cR.keep{c:Nat}{bx:Box}(h:cR γ mem w c bx)(hx:Ext B γ mem w γ' mem' w')(hl:γ'.loc c=γ.loc c)
  (hb:∀blk k,γ.loc c=some (blk,k)→w'.heap[blk]?=w.heap[blk]?):cR γ' mem' w' c bx:=by
 unfold cR at h⊢;cases bO:bx.buf with
 | true =>
   rw[bO] at h;obtain⟨e,l,h1,h2,h3⟩:=h;refine⟨e,l,h1,h2,?_⟩;rcases h3 with ⟨h3,h4⟩|⟨blk,cap,cur,tid,fr,h3,h4,h5,jb,h6,h7,h8,h9⟩
   ·exact .inl ⟨hl.trans h3,h4⟩
   ·exact .inr ⟨blk,cap,cur,tid,fr,hl.trans h3,(hb _ _ h3).trans h4,h5,jb,h6,h7,h8,fun i x hi=>bN.mono hx.I hx.cells (h9 i x hi)⟩
 | false =>
   rw[bO] at h;obtain⟨blk,cap,cur,tid,fr,h3,h4,h5,hk,h6⟩:=h;exact⟨blk,cap,cur,tid,fr,hl.trans h3,(hb _ _ h3).trans h4,h5,hk,h6.ext hx⟩
theorem dF{a:Addr}(h:w'.heap[a.block]?=w.heap[a.block]?):w'.cell? a=w.cell? a:=by simp[World.cell?,h]
def bT(γ:Gh)(b:Nat)(L:Option (Nat×Nat)):Gh:={ γ with loc:=fun i=>if i=b then L else γ.loc i }
def cQ(mem:Nat→Option Box)(b:Nat)(bx:Box):Nat→Option Box:=fun i=>bif Nat.beq i b then some bx else mem i
theorem bL(b:Nat)(bx:Box):cQ mem b bx b=some bx:=by simp[cQ]
theorem aR{b c:Nat}(bx:Box)(h:c≠b):cQ mem b bx c=mem c:=by simp[cQ,ja h]
theorem wB(h:bK B γ mem w){b:Nat}{bx:Box}{L:Option (Nat×Nat)}(bF:∀dM,mem b=some dM→dM.aC<bx.aC)
  (hw:xw B w w') (hold:∀k,k<w.heap.size→w'.heap[k]?=w.heap[k]?):Ext B γ mem w (bT γ b L) (cQ mem b bx) w' where
 below:=hw
 I:=fun _ _ x=>x
 sg:=fun _ _ x=>.inl x
 cells:=fun blk o x=>dF (hold blk (h.we blk o x))
 boxes:=fun c cx hc=>by
  by_cases e:c=b
  ·subst e;refine⟨bx,bL _ _,ac3 (bF _ hc),fun e=>absurd e ?_⟩;have:=bF _ hc;omega
  ·exact⟨cx,by rw[aR _ e];exact hc,cU _,fun _=>⟨by simp[bT,e],rfl,rfl⟩⟩
theorem bK.add(h:bK B γ mem w){b:Nat}{bx:Box}{L:Option (Nat×Nat)}(bF:∀dM,mem b=some dM→dM.aC<bx.aC)
  (hw:xw B w w') (hold:∀k,k<w.heap.size→w'.heap[k]?=w.heap[k]?) (hL:∀blk k,L=some (blk,k)→w.heap.size≤blk∧blk<w'.heap.size)
  (jt:cR (bT γ b L) (cQ mem b bx) w' b bx):bK B (bT γ b L) (cQ mem b bx) w' where
 bp:=h.GV (wB (L:=L) h bF hw hold)
 base:=gY h.base hw.size
 boxes:=fun c cx hc=>by
  by_cases e:c=b
  ·subst e;rw[bL] at hc;obtain rfl:=aN hc;exact jt
  ·rw[aR _ e] at hc;refine(h.boxes c cx hc).keep (wB h bF hw hold) (by simp[bT,e]) fun blk k hl=>hold blk (h.fresh c blk k (by rw[hc];simp) hl).2
 inj:=fun c d blk k k' hc hd h1 h2=>by
  by_cases e:c=b
  ·by_cases e2:d=b
   ·rw[e,e2]
   ·exfalso;simp only[bT,bu e] at h1;simp only[bT,br e2] at h2;rw[aR _ e2] at hd;have:=(h.fresh d blk k' hd h2).2;have:=(hL _ _ h1).1;omega
  ·by_cases e2:d=b
   ·exfalso;simp only[bT,br e] at h1;simp only[bT,bu e2] at h2;rw[aR _ e] at hc;have:=(h.fresh c blk k hc h1).2;have:=(hL _ _ h2).1;omega
   ·simp only[bT,br e] at h1;simp only[bT,br e2] at h2;rw[aR _ e] at hc;rw[aR _ e2] at hd;exact h.inj c d blk k k' hc hd h1 h2
 fresh:=fun c blk k hc h1=>by
  by_cases e:c=b
  ·simp only[bT,bu e] at h1;obtain⟨h2,h3⟩:=hL _ _ h1;exact⟨.inl (by have:=h.base;omega),h3⟩
  ·simp only[bT,br e] at h1;rw[aR _ e] at hc;have:=h.fresh c blk k hc h1;exact⟨this.1,GI this.2 hw.size⟩
 we:=fun blk off hi=>GI (h.we blk off hi) hw.size
 sep:=fun c cx blk k off hc h1 hi=>by
  by_cases e:c=b
  ·exfalso;simp only[bT,bu e] at h1;have:=(hL _ _ h1).1;have:=h.we blk off hi;omega
  ·simp only[bT,br e] at h1;rw[aR _ e] at hc;exact h.sep c cx blk k off hc h1 hi
theorem cS(w:World)(o:Obj):∀k,k<w.heap.size→(w.alloc o).heap[k]?=w.heap[k]?:=fun k hk=>Below.heap_alloc w o k hk
theorem ve(cs:Array Value):nw cs (0,0):=fun o _ h=>by omega
theorem Ax(e:Ty)(cs:Array Value):ThB e cs (0,0):=⟨ve cs,fun _ h=>by omega⟩
theorem bK.newVar(h:bK B γ mem w){b:Nat}{v:aS}{tid:TypeId}{aC:Nat}(bF:∀dM,mem b=some dM→dM.aC<aC){cs:Array Value}(t':TypeId)(jb:tid=0∨t'=tid)(hv:cI γ mem w v .cells cs.toList) :
  let bx:Box:={ val:=v,tid,buf:=false,ro:=false,lk:=false,aC }
  bK B (bT γ b (some (w.heap.size,0))) (cQ mem b bx) (w.alloc (.cells cs t'))∧Ext B γ mem w (bT γ b (some (w.heap.size,0))) (cQ mem b bx) (w.alloc (.cells cs t')):=by
 intro bx;have hw:xw B w (w.alloc (.cells cs t')):=(xw.refl _ _).alloc h.base _;have hx:=wB (L:=some (w.heap.size,0)) h (bx:=bx) bF hw (cS w _);refine⟨h.add bF hw (cS w _) (fun blk k e=>by obtain⟨rfl,rfl⟩:=e9 (aN e);exact⟨cU _,by simp⟩) ?_,hx⟩;exact⟨w.heap.size,0,cs,t',(0,0),by simp[bT],heap_alloc_new w _,ve cs,jb,hv.ext hx⟩
theorem bK.adl(h:bK B γ mem w){b:Nat}{e:Ty}{l:List e.den}{tid:TypeId}{aC cap blk:Nat}(bF:∀dM,mem b=some dM→dM.aC<aC){cs:Array Value}{t':TypeId}{fr:Nat×Nat}(he:0<e.size)
  (hw:xw B w w') (hold:∀k,k<w.heap.size→w'.heap[k]?=w.heap[k]?) (hge:w.heap.size≤blk) (hnew:w'.heap[blk]?=some (.cells cs t' fr)) (MG:ThB e cs fr) (jb:tid=0∨t'=tid)
  (h1:l.length≤cap) (h2:cap≤maxLen) (h3:cs.size=cap*e.size) (h4:∀(i:Nat) (x:e.den),l[i]?=some x→bN w' γ.I e x ((cs.toList.drop (i*e.size)).take e.size)) :
  let bx:Box:={ val:=.data (.slice e) l,tid,buf:=true,ro:=false,lk:=false,aC }
  bK B (bT γ b (some (blk,cap))) (cQ mem b bx) w'∧Ext B γ mem w (bT γ b (some (blk,cap))) (cQ mem b bx) w':=by
 intro bx;have hlt:blk<w'.heap.size:=(Array.getElem?_eq_some_iff.1 hnew).1;have hx:=wB (L:=some (blk,cap)) h (bx:=bx) bF hw hold;refine⟨h.add bF hw hold (fun c k q=>by obtain⟨rfl,rfl⟩:=e9 (aN q);exact⟨hge,hlt⟩) ?_,hx⟩;exact⟨e,l,rfl,he,.inr ⟨blk,cap,cs,t',fr,by simp[bT],hnew,MG,jb,h1,h2,h3,h4⟩⟩
theorem bK.R1(h:bK B γ mem w){b:Nat}{e:Ty}{l:List e.den}{tid:TypeId}{aC cap:Nat}(bF:∀dM,mem b=some dM→dM.aC<aC){cs:Array Value}{t':TypeId}{fr:Nat×Nat}(he:0<e.size)
  (hw:xw B w w') (hold:∀k,k<w.heap.size→w'.heap[k]?=w.heap[k]?) (hnew:w'.heap[w.heap.size]?=some (.cells cs t' fr)) (MG:ThB e cs fr) (jb:tid=0∨t'=tid)
  (h1:l.length≤cap) (h2:cap≤maxLen) (h3:cs.size=cap*e.size) (h4:∀(i:Nat) (x:e.den),l[i]?=some x→bN w γ.I e x ((cs.toList.drop (i*e.size)).take e.size)) :
  let bx:Box:={ val:=.data (.slice e) l,tid,buf:=true,ro:=false,lk:=false,aC }
  bK B (bT γ b (some (w.heap.size,cap))) (cQ mem b bx) w'∧Ext B γ mem w (bT γ b (some (w.heap.size,cap))) (cQ mem b bx) w' :=
 h.adl bF he hw hold (cU _) hnew MG jb h1 h2 h3 fun i x hi =>
  bN.mono (fun _ _ q=>q) (fun blk o q=>dF (hold blk (h.we blk o q))) (h4 i x hi)
theorem bK.MJ(h:bK B γ mem w){b:Nat}{e:Ty}{tid:TypeId}{aC:Nat}(bF:∀dM,mem b=some dM→dM.aC<aC)(he:0<e.size) :
  let bx:Box:={ val:=.data (.slice e) ([]:List e.den),tid,buf:=true,ro:=false,lk:=false,aC }
  bK B (bT γ b none) (cQ mem b bx) w∧Ext B γ mem w (bT γ b none) (cQ mem b bx) w:=by
 intro bx;have hx:=wB (L:=none) h (bx:=bx) bF (xw.refl B w) (fun _ _=>rfl);refine⟨h.add bF (xw.refl B w) (fun _ _=>rfl) (fun blk k e=>by cases e) ?_,hx⟩;exact⟨e,[],rfl,he,.inl ⟨by simp[bT],rfl⟩⟩
theorem GY{bx:Box}{off:Nat}(h:WT bx off)(hro:bx.ro=false):False:=by rw[WT,hro] at h;exact absurd h.1 (by simp)
theorem bK.write(h:bK B γ mem w){b:Nat}{bx:Box}(hb:mem b=some bx)(hro:bx.ro=false){blk k:Nat}(hl:γ.loc b=some (blk,k)){cur cur':Array Value}{t:TypeId}{fr:Nat×Nat}
  (hg:w.heap[blk]?=some (.cells cur t fr)) (hs:cur'.size=cur.size) {v:aS} (hrow:({ bx with val:=v }:Box).row=bx.row)
  (jt:∀w' mem',Ext B γ mem w γ mem' w'→w'.heap[blk]?=some (.cells cur' t fr)→cR γ mem' w' b { bx with val:=v }) :
  bK B γ (cQ mem b { bx with val:=v }) (w.setRow blk cur')∧Ext B γ mem w γ (cQ mem b { bx with val:=v }) (w.setRow blk cur'):=by
 have hf:=h.fresh b blk k (by rw[hb];simp) hl;have hblk:=setRow_heap w blk cur cur' t fr hg;have zC:∀i,i≠blk→(w.setRow blk cur').heap[i]?=w.heap[i]?:=fun i hi=>setRow_other w blk i cur' (fun e=>hi e);have hx:Ext B γ mem w γ (cQ mem b { bx with val:=v }) (w.setRow blk cur') :=
  { below:=⟨rfl,rfl,rfl,by simp,fun i hi=>zC i (fun e=>hi (by rw[e];exact hf.1))⟩
    I:=fun _ _ x=>x
    sg:=fun _ _ x=>.inl x
    cells:=fun c o x=>by
     by_cases e:c=blk
     ·subst e;exact(GY (h.sep b bx c k o hb hl x) hro).elim
     ·exact dF (zC c e)
    boxes:=fun c cx hc=>by
     by_cases e:c=b
     ·subst e;obtain rfl:cx=bx:=aN (hc.symm.trans hb);exact⟨_,bL _ _,cU _,fun _=>⟨rfl,rfl,hrow⟩⟩
     ·exact⟨cx,by rw[aR _ e];exact hc,cU _,fun _=>⟨rfl,rfl,rfl⟩⟩ }
 refine⟨?_,hx⟩;exact
  { bp:=h.GV hx
    base:=by have:=h.base;simpa using this
    boxes:=fun c cx hc=>by
     by_cases e:c=b
     ·subst e;rw[bL] at hc;obtain rfl:=aN hc;exact jt _ _ hx hblk
     ·rw[aR _ e] at hc;refine(h.boxes c cx hc).keep hx rfl fun dX k' hl'=>zC dX fun e2=>e ?_;subst e2;exact h.inj c b dX k' k (by rw[hc];simp) (by rw[hb];simp) hl' hl
    inj:=fun c d dX k1 k2 hc hd h1 h2=>h.inj c d dX k1 k2 (by
     by_cases e:c=b
     ·subst e;rw[hb];simp
     ·rwa [aR _ e] at hc) (by
     by_cases e:d=b
     ·subst e;rw[hb];simp
     ·rwa [aR _ e] at hd) h1 h2
    fresh:=fun c dX k' hc h1=>by
     have:=h.fresh c dX k' (by
      by_cases e:c=b
      ·subst e;rw[hb];simp
      ·rwa [aR _ e] at hc) h1
     exact⟨this.1,by simpa using this.2⟩
    we:=fun dX off hi=>by have:=h.we dX off hi;simpa using this
    sep:=fun c cx dX k' off hc h1 hi=>by
     by_cases e:c=b
     ·subst e;rw[hl] at h1;obtain⟨rfl,rfl⟩:=e9 (aN h1);exact(GY (h.sep c bx blk k off hb hl hi) hro).elim
     ·rw[aR _ e] at hc;exact h.sep c cx dX k' off hc h1 hi }
def MK(γ:Gh)(b:Nat)(n:Nat):Gh:={ γ with I:=fun blk off=>γ.I blk off∨((∃k,γ.loc b=some (blk,k))∧off<n) }
theorem bK.freeze(h:bK B γ mem w){b:Nat}{bx:Box}(hb:mem b=some bx){e:Ty}{n:Nat}(hrow:bx.row=some (e,n)) :
  bK B (MK γ b (n*e.size)) (cQ mem b { bx with ro:=true }) w∧Ext B γ mem w (MK γ b (n*e.size)) (cQ mem b { bx with ro:=true }) w:=by
 have hx:Ext B γ mem w (MK γ b (n*e.size)) (cQ mem b { bx with ro:=true }) w :=
  { below:=xw.refl _ _
    I:=fun _ _ x=>.inl x
    sg:=fun blk o x=>by
     rcases x with x|⟨⟨k,x⟩,_⟩
     ·exact .inl x
     ·exact .inr (h.fresh b blk k (by rw[hb];simp) x).1
    cells:=fun _ _ _=>rfl
    boxes:=fun c cx hc=>by
     by_cases e:c=b
     ·subst e;obtain rfl:cx=bx:=aN (hc.symm.trans hb);exact⟨_,bL _ _,cU _,fun _=>⟨rfl,rfl,rfl⟩⟩
     ·exact⟨cx,by rw[aR _ e];exact hc,cU _,fun _=>⟨rfl,rfl,rfl⟩⟩ }
 refine⟨?_,hx⟩;exact
  { bp:=h.GV hx
    base:=h.base
    boxes:=fun c cx hc=>by
     by_cases e:c=b
     ·subst e;rw[bL] at hc;obtain rfl:=aN hc;have:=(h.boxes c bx hb).keep hx rfl (fun _ _ _=>rfl);exact this
     ·rw[aR _ e] at hc;exact(h.boxes c cx hc).keep hx rfl (fun _ _ _=>rfl)
    inj:=fun c d dX k1 k2 hc hd h1 h2=>h.inj c d dX k1 k2 (by
     by_cases e:c=b
     ·subst e;rw[hb];simp
     ·rwa [aR _ e] at hc) (by
     by_cases e:d=b
     ·subst e;rw[hb];simp
     ·rwa [aR _ e] at hd) h1 h2
    fresh:=fun c dX k' hc h1=>h.fresh c dX k' (by
     by_cases e:c=b
     ·subst e;rw[hb];simp
     ·rwa [aR _ e] at hc) h1
    we:=fun dX off hi=>by
     rcases hi with hi|⟨⟨k,hk⟩,_⟩
     ·exact h.we dX off hi
     ·exact(h.fresh b dX k (by rw[hb];simp) hk).2
    sep:=fun c cx dX k' off hc h1 hi=>by
     by_cases e':c=b
     ·subst e';rw[bL] at hc;obtain rfl:=aN hc;rcases hi with hi|⟨⟨k,hk⟩,ho⟩
      ·obtain⟨a1,a2⟩:=h.sep c bx dX k' off hb h1 hi;exact⟨rfl,a2⟩
      ·refine⟨rfl,fun _ u m hr=>?_⟩;have hr':bx.row=some (u,m):=hr;rw[hrow] at hr';obtain⟨rfl,rfl⟩:=e9 (aN hr');exact ho
     ·rw[aR _ e'] at hc;rcases hi with hi|⟨⟨k,hk⟩,ho⟩
      ·exact h.sep c cx dX k' off hc h1 hi
      ·exact absurd (h.inj c b dX k' k (by rw[hc];simp) (by rw[hb];simp) h1 hk) e' }
end
end Go.Ge
namespace Go.Ge
open RowKit
def p6(P:Program)(B:tJ)(N:Nat)(γ:Gh)(σ:St)(a:Act)(w:World)(d:Option Nat)(s:Sem Value)(σ':St):Prop :=
 ∃v w' γ',s.run P w=.ok v w'∧dB B N γ' σ' (a.put d v) w'∧Ext B γ σ.mem w γ' σ'.mem w'
section
variable {P:Program} {B:tJ} {N:Nat} {γ:Gh} {σ σ':St} {a:Act} {w:World} {d:Option Nat}
theorem bU(h:dB B N γ σ a w)(hd:∀k,d=some k→k<N){s:Sem Value}{v:aS}{x:Value}(hs:s.run P w=.ok x w)(hv:cI γ σ.mem w v .val [x]) :
  p6 P B N γ σ a w d s (σ.aW d v) :=
 ⟨x,w,γ,hs,h.xy hd hv,by cases d<;>exact Ext.refl _ _ _ _⟩
theorem eE{β:Type}{b:Nat}{val:aS}{tid:TypeId}{buf:Bool}{k:Nat→St→Tree β}{y:β}(h:(σ.aQ b val tid buf k).run=some y) :
  ∃aC,(∀dM,σ.mem b=some dM→dM.aC<aC)∧(k aC (σ.cm b { val,tid,buf,ro:=false,lk:=false,aC })).run=some y:=by
 unfold St.aQ at h;split at h
 ·rename_i bx hb;cases hl:bx.lk with
  | true=>rw[hl] at h;cases h
  | false =>
    rw[hl] at h;exact⟨bx.aC+1,(fun dM h0=>by rw[hb] at h0;obtain rfl:=aN h0;omega),h⟩
 ·rename_i hb;exact⟨0,(fun dM h0=>by rw[hb] at h0;cases h0),h⟩
theorem xz(σ:St)(b:Nat)(bx:Box):(σ.cm b bx).mem=cQ σ.mem b bx:=rfl
theorem iP{mem:Nat→Option Box}{b aC:Nat}{bx:Box}(h:mem b=some bx)(hv:bx.aC=aC){K:Box→Prop}(hk:K bx):n9 mem b aC K :=
 ⟨bx,h,by omega,fun _=>hk⟩
theorem Ay{cx:Ctx}(hc:gA P cx){nb:Nat}{bf:List Nat}{ty:TypeId}{x:Operand}(h:dB B N γ σ a w)(hd:∀k,d=some k→k<N)
  (hr:(kj cx nb bf d ty (cL σ x) σ).run=some σ'):p6 P B N γ σ a w d (pure (a.eval x)) σ':=by
 have hv:=h.cL x;unfold kj at hr;split at hr
 ·rename_i hn;rw[hn] at hv;obtain⟨_,hr⟩:=aD hr;obtain rfl:=aN hr;exact bU h hd rfl hv
 ·rename_i hn;rw[hn] at hv;have hx:a.eval x=.slice none 0 0:=by simpa [cI] using hv
  split at hr
  ·rename_i k e hT;cases hb:dD bf k with
   | true =>
     rw[hb] at hr;simp only[gp] at hr;obtain⟨aC,bF,hr2⟩:=eE hr;obtain rfl:=aN hr2;obtain⟨gd,h1,h2,h3,h4⟩:=(hc.T _ _ hT).slice;obtain⟨m1,m2⟩:=h.ok.MJ (tid:=0) bF h4;refine⟨_,w,_,rfl,h.step m2 m1 (hd k rfl) ?_,m2⟩;rw[hx];exact⟨⟨_,rfl,rfl⟩,iP (bL _ _) rfl ⟨e,0,rfl,rfl,.inl ⟨by simp[bT],rfl⟩⟩⟩
   | false =>
     rw[hb] at hr;obtain rfl:=aN hr;exact bU (d:=some k) h hd rfl (by rw[hx];exact⟨_,.inl ⟨⟨none,rfl⟩,rfl⟩,rfl⟩)
  ·obtain rfl:=aN hr;exact bU h hd rfl (by rw[hx];rfl)
 ·obtain rfl:=aN hr;exact bU h hd rfl hv
theorem Bj{b:Bool}{v:Value}(h:cI γ σ.mem w (.data .bool b) .val [v]):v=.bool b:=by
 obtain⟨cs,h1,h2⟩:=eu.1 h;rw[h2,show cs=_ from h1];rfl
theorem vM{k:IntKind}{n:Int}{v:Value}(h:cI γ σ.mem w (.data (.int k) n) .val [v]):v=.int k n∧k.min≤n∧n≤k.max:=by
 obtain⟨cs,h1,h2⟩:=eu.1 h;rw[h2,h1.1];exact⟨rfl,h1.2⟩
theorem zD{s:List UInt8}{v:Value}(h:cI γ σ.mem w (.data .str s) .val [v]):v=.string ⟨s.toArray⟩∧s.length≤maxLen:=by
 obtain⟨cs,h1,h2⟩:=eu.1 h;rw[h2,h1.1];exact⟨rfl,h1.2⟩
theorem hY(b:Bool):cI γ σ.mem w (.data .bool b) .val [.bool b]:=⟨_,rfl,rfl⟩
theorem mkInt{k:IntKind}{n:Int}(h:k.min≤n∧n≤k.max):cI γ σ.mem w (.data (.int k) n) .val [.int k n]:=⟨_,⟨rfl,h.1,h.2⟩,rfl⟩
theorem mkStr{s:List UInt8}(h:s.length≤maxLen):cI γ σ.mem w (.data .str s) .val [.string ⟨s.toArray⟩]:=⟨_,⟨rfl,h⟩,rfl⟩
theorem ML{c x y:Operand}(h:dB B N γ σ a w)(hd:∀k,d=some k→k<N)(hr:(qe d (cL σ c) (cL σ x) (cL σ y) σ).run=some σ') :
  p6 P B N γ σ a w d (do pure (if ←asBool (a.eval c) then a.eval x else a.eval y)) σ':=by
 have hc:=h.cL c;have hx:=h.cL x;have hy:=h.cL y;unfold qe at hr;split at hr
 ·rename_i cb hcb;rw[hcb] at hc;have hcv:a.eval c=.bool cb:=Bj hc;have hrun:(do pure (if ←asBool (a.eval c) then a.eval x else a.eval y):Sem Value).run P w=.ok (if(show Bool from cb)=true then a.eval x else a.eval y) w:=by
   rw[hcv];cases cb<;>rfl
  split at hr
  ·rename_i t x1 u y1 hx1 hy1;rw[hx1] at hx;rw[hy1] at hy;split at hr
   ·rename_i y2 hy2;obtain rfl:=aN hr;obtain⟨e,e2⟩:=Ty.lT hy2;subst e;subst e2;refine bU h hd hrun ?_;cases cb
    ·exact hy
    ·exact hx
   ·cases hr
  ·have hr2:=gP hr;cases cb
   ·obtain rfl:=aN hr2;exact bU h hd hrun hy
   ·obtain rfl:=aN hr2;exact bU h hd hrun hx
 ·cases hr
theorem ga(k:IntKind)(n:Int):k.min≤k.wrap n∧k.wrap n≤k.max:=wrap_within k n
theorem afZ{k:IntKind}{x y:Int}(h:k.min≤x∧x≤k.max):k.min≤x.tmod y∧x.tmod y≤k.max:=by
 have hmin:k.min≤0:=by cases k<;>decide
 have hmax:0≤k.max:=by cases k<;>decide
 have hab:(x.tmod y).natAbs≤x.natAbs:=by
  rw[Int.natAbs_tmod];exact Nat.mod_le _ _
 rcases Int.le_total 0 x with h0|h0
 ·have:=Int.tmod_nonneg y h0;omega
 ·have:x.tmod y≤0:=by
   have:=Int.tmod_nonneg y (show 0≤-x by omega);rw[Int.neg_tmod] at this;omega
  omega
theorem af0{k:IntKind}{x:Int}(n:Nat)(h:k.min≤x∧x≤k.max):k.min≤x.fdiv (2 ^ n)∧x.fdiv (2 ^ n)≤k.max:=by
 have hmin:k.min≤0:=by cases k<;>decide
 have hmax:0≤k.max:=by cases k<;>decide
 have hp:(0:Int)<2 ^ n:=Int.pow_pos (by decide);have e:x.fdiv (2 ^ n)=x / 2 ^ n:=Int.fdiv_eq_ediv_of_nonneg _ (by omega);rw[e];rcases Int.le_total 0 x with h0|h0
 ·have h1:=Int.ediv_nonneg h0 (Int.le_of_lt hp);have h2:=Int.ediv_le_self (2 ^ n:Int) h0;omega
 ·have h2:x / 2 ^ n<1:=Int.ediv_lt_of_lt_mul hp (by omega);have h3:x≤x / 2 ^ n:=by
   rw[Int.le_ediv_iff_mul_le hp];have h1:(1:Int)≤2 ^ n:=hp;have:=Int.mul_le_mul_of_nonpos_left h0 h1;simpa using this
  omega
theorem R4{op:BinOp}{l:Bool}(h:GM op=some l):(op=.shl∧l=true)∨(op=.shr∧l=false):=by
 cases op<;>simp[GM] at h<;>simp[h]
theorem tT{op:BinOp}{l:Bool}(h:isEq op=some l):(op=.eql∧l=true)∨(op=.neq∧l=false):=by
 cases op<;>simp[isEq] at h<;>simp[h]
def iA(op:BinOp)(xt:TypeId)(x y:Operand)(u v:Value):Sem Value:=do eqGuard op xt x y u v;binOp op xt u v
theorem R5{op:BinOp}{k:IntKind}{n m:Int}{v:aS}{xt:TypeId}{x y:Operand}(hn:k.min≤n∧n≤k.max)(hs:GM op=none)(hr:(WM op k n m).run=some v) :
  ∃r,(iA op xt x y (.int k n) (.int k m)).run P w=.ok r w∧cI γ σ.mem w v .val [r]:=by
 unfold iA;cases op<;>simp only[eqGuard_at_int,Sem.run_bind,Sem.run_pure,Result.andThen_ok]<;>simp only[WM] at hr
 case add=>obtain rfl:=aN hr;exact⟨.int k (aL k n m),by simp only[binOp_add,Op.intArith,Sem.run_pure];rfl,mkInt (ga _ _)⟩
 case sub=>obtain rfl:=aN hr;exact⟨.int k (ef k n m),by simp only[binOp_sub,Op.intArith,Sem.run_pure];rfl,mkInt (ga _ _)⟩
 case mul=>obtain rfl:=aN hr;exact⟨.int k (nr k n m),by simp only[binOp_mul,Op.intArith,Sem.run_pure];rfl,mkInt (ga _ _)⟩
 case quo =>
  have hr2:=gP hr;cases hz:bI m 0
  ·rw[hz] at hr2;obtain rfl:=aN hr2;have hm:m≠0:=by simpa [bI] using hz
   exact⟨.int k (KZ k n m),by simp only[binOp_quo,Op.intDiv,br hm,Sem.run_pure];rfl,mkInt (ga _ _)⟩
  ·rw[hz] at hr2;cases hr2
 case rem =>
  have hr2:=gP hr;cases hz:bI m 0
  ·rw[hz] at hr2;obtain rfl:=aN hr2;have hm:m≠0:=by simpa [bI] using hz
   exact⟨.int k (jz n m),by simp only[binOp_rem,Op.intDiv,br hm,Sem.run_pure];rfl,mkInt (afZ hn)⟩
  ·rw[hz] at hr2;cases hr2
 case and=>obtain rfl:=aN hr;exact⟨.int k (jA k n m),by simp only[binOp_and,intBits_and,Sem.run_pure];rfl,mkInt (ga _ _)⟩
 case or=>obtain rfl:=aN hr;exact⟨.int k (zx k n m),by simp only[binOp_or,intBits_or,Sem.run_pure];rfl,mkInt (ga _ _)⟩
 case xor=>obtain rfl:=aN hr;exact⟨.int k (fc k n m),by simp only[binOp_xor,intBits_xor,Sem.run_pure];rfl,mkInt (ga _ _)⟩
 case andNot=>obtain rfl:=aN hr;exact⟨.int k (aht k n m),by simp only[binOp_andNot,intBits_andNot,Sem.run_pure];rfl,mkInt (ga _ _)⟩
 case shl=>cases hs
 case shr=>cases hs
 case eql=>obtain rfl:=aN hr;exact⟨.bool (bI n m),by simp[binOp,Op.intCmp,bI];rfl,hY _⟩
 case neq=>obtain rfl:=aN hr;exact⟨.bool (nt (bI n m)),by simp[binOp,Op.intCmp,bI,nt];rfl,hY _⟩
 case lss=>obtain rfl:=aN hr;exact⟨.bool (bB n m),by simp[binOp,Op.intCmp,bB],hY _⟩
 case leq=>obtain rfl:=aN hr;exact⟨.bool (cX n m),by simp[binOp,Op.intCmp,cX],hY _⟩
 case gtr=>obtain rfl:=aN hr;exact⟨.bool (bB m n),by simp[binOp,Op.intCmp,bB],hY _⟩
 case geq=>obtain rfl:=aN hr;exact⟨.bool (cX m n),by simp[binOp,Op.intCmp,cX],hY _⟩
theorem jO(s:List UInt8):(⟨s.toArray⟩:ByteArray).toList=s:=by rw[ByteArray.toList_eq]
theorem WV(s t:List UInt8):(s==t)=cc s t:=by rw[RU];simp[cc]
theorem R6{op:BinOp}{s t:List UInt8}{v:aS}{xt:TypeId}{x y:Operand}(hr:(WN op s t).run=some v) :
  ∃r,(iA op xt x y (.string ⟨s.toArray⟩) (.string ⟨t.toArray⟩)).run P w=.ok r w∧cI γ σ.mem w v .val [r]:=by
 unfold iA;cases op<;>simp only[eqGuard_at_string,Sem.run_bind,Sem.run_pure,Result.andThen_ok]<;>simp only[WN] at hr<;>try (cases hr;done)
 case add =>
  obtain⟨hf,hr2⟩:=cF hr;obtain rfl:=aN hr2;have hl:s.length+t.length≤4294967296:=by have h2:plus (len s) (len t)≤4294967296:=ic hf;simp only[plus,len] at h2;omega
  refine⟨.string ⟨(s++t).toArray⟩,?_,mkStr (by simp only[app,iO,maxLen];omega)⟩;have hsz:∀l:List UInt8,(⟨l.toArray⟩:ByteArray).size=l.length:=fun l=>rfl;have:¬(((s.length+t.length:Nat):Int) > IntKind.i64.max):=by rw[IntKind.max_i64];omega
  simp only[binOp,Op.stringOp,hsz,this,EI,Sem.run_pure]
  congr 2
 case eql=>obtain rfl:=aN hr;exact⟨.bool (cc s t),by simp only[binOp,Op.stringOp,jO,WV,Sem.run_pure],hY _⟩
 case neq=>obtain rfl:=aN hr;exact⟨.bool (nt (cc s t)),by simp only[binOp,Op.stringOp,jO,WV,Sem.run_pure];rfl,hY _⟩
 case lss=>obtain rfl:=aN hr;exact⟨.bool (jy s t),by simp only[binOp,Op.stringOp,jO,WV,Sem.run_pure];rfl,hY _⟩
 case leq=>obtain rfl:=aN hr;exact⟨.bool (oor (jy s t) (cc s t)),by simp only[binOp,Op.stringOp,jO,WV,Sem.run_pure];rfl,hY _⟩
 case gtr=>obtain rfl:=aN hr;exact⟨.bool (nt (oor (jy s t) (cc s t))),by simp only[binOp,Op.stringOp,jO,WV,Sem.run_pure];rfl,hY _⟩
 case geq=>obtain rfl:=aN hr;exact⟨.bool (nt (jy s t)),by simp only[binOp,Op.stringOp,jO,WV,Sem.run_pure];rfl,hY _⟩
theorem Uo{op:BinOp}{left:Bool}{k k':IntKind}{n m:Int}{xt:TypeId}{x y:Operand}(hn:k.min≤n∧n≤k.max)(hs:GM op=some left)(h0:bB m 0=false) :
  ∃r,(iA op xt x y (.int k n) (.int k' m)).run P w=.ok r w∧cI γ σ.mem w (.data (.int k) (bif left then nu k n m else rU k n m)) .val [r]:=by
 have h1:¬m<0:=by simpa [bB] using h0
 unfold iA;rcases R4 hs with ⟨rfl,rfl⟩|⟨rfl,rfl⟩
 ·exact⟨.int k (nu k n m),by simp only[eqGuard_shl,binOp_shl,Op.shift,br h1,Sem.run_bind,Sem.run_pure,Result.andThen_ok];rfl,mkInt (ga _ _)⟩
 ·exact⟨.int k (rU k n m),by simp only[eqGuard_shr,binOp_shr,Op.shift,br h1,Sem.run_bind,Sem.run_pure,Result.andThen_ok];rfl,mkInt (af0 _ hn)⟩
theorem Ea{t:Ty}{tid:TypeId}(ht:Den P t tid){cs:Array Value}{off:Nat}(h:off+t.size≤cs.size)(h1:t.isAgg=false→t.size=1) :
  (part tid cs off).run P w=.ok (cM t ((cs.toList.drop off).take t.size)) w:=by
 unfold part;rw[Sem.run_bind,ht.agg w,Result.andThen_ok];cases hag:t.isAgg with
 | true =>
   simp only[nZ,Sem.run_bind,ht.sizeOf w,Result.andThen_ok,Sem.run_pure,cM,hag,gp]
   congr 2
   apply Ue;simp
 | false =>
   have hs:=h1 hag;simp only[br (show ¬(false=true) by simp),cM,hag,jM,hs];have hlt:off<cs.size:=by omega
   have e:(cs.toList.drop off).take 1=[cs[off]]:=by
    apply O2;intro i;rw[gN];cases i with
    | zero=>simp[hlt]
    | succ i=>simp
   rw[e];simp[hlt]
theorem vf:∀{t:Ty},t.isAgg=false→t.size=1:=by
 intro t h;induction t with
 | alt u a r kM ihr=>exact ihr h
 | arr|pair|unit=>cases h
 | _=>rfl
theorem Up(t:Ty):1≤t.GL:=by cases t<;>simp[Ty.GL]
theorem EY{γ:Gh}{w:World}:∀(t:Ty),(∀(d:Nat) (tid:TypeId) (x y:t.den) (cx cy:List Value) (c:Bool),Den P t tid→bN w γ.I t x cx→bN w γ.I t y cy→Ty.eqv t x y=some c→t.GL<d →
   (Op.equalIn d tid (cM t cx) (cM t cy)).run P w=.ok c w) ∧
  (∀(d off:Nat) (fs:List Field) (x y:t.den) (cx cy:List Value) (xs ys:Array Value) (c:Bool),rS P t off fs→bN w γ.I t x cx→bN w γ.I t y cy→Ty.eqv t x y=some c→t.GL<d →
   xs.toList.drop off=cx→ys.toList.drop off=cy→off≤xs.size→off≤ys.size→(Op.eqFields d xs ys fs).run P w=.ok c w):=by
 intro t;induction t with
 | int k =>
   refine⟨fun d tid x y cx cy c hd hx hy he hs=>?_,fun d off fs x y cx cy xs ys c hd=>by simp[rS,fI] at hd⟩;obtain⟨d,rfl⟩:∃e,d=e+1:=⟨d-1,by omega⟩;rw[hx.1,hy.1];obtain rfl:=aN he;show(Op.equalIn (d+1) tid (.int k x) (.int k y)).run P w=_
   rw[run_equalIn_int w d tid k k x y hd.int]
   congr 1
 | bool =>
   refine⟨fun d tid x y cx cy c hd hx hy he hs=>?_,fun d off fs x y cx cy xs ys c hd=>by simp[rS,fI] at hd⟩;obtain⟨d,rfl⟩:∃e,d=e+1:=⟨d-1,by omega⟩;rw[show cx=_ from hx,show cy=_ from hy];obtain rfl:=aN he;exact run_equalIn_bool' w d tid x y hd.bool
 | str =>
   refine⟨fun d tid x y cx cy c hd hx hy he hs=>?_,fun d off fs x y cx cy xs ys c hd=>by simp[rS,fI] at hd⟩;obtain⟨d,rfl⟩:∃e,d=e+1:=⟨d-1,by omega⟩;rw[hx.1,hy.1];obtain rfl:=aN he;have h1:=run_equalIn_string (P:=P) w d tid ⟨List.toArray (α:=UInt8) x⟩ ⟨List.toArray (α:=UInt8) y⟩ hd.str;rw[jO (show List UInt8 from x),jO (show List UInt8 from y),WV] at h1;exact h1
 | slice e ih=>exact⟨(fun d tid x y cx cy c hd hx hy he=>by cases he),(fun d off fs x y cx cy xs ys c hd=>by simp[rS,fI] at hd)⟩
 | alt u a r kM ihr=>exact⟨(fun d tid x y cx cy c hd hx hy he=>by cases he),(fun d off fs x y cx cy xs ys c hd=>by simp[rS,fI] at hd)⟩
 | CG=>exact⟨(fun d tid x y cx cy c hd hx hy he=>by cases he),(fun d off fs x y cx cy xs ys c hd=>by simp[rS,fI] at hd)⟩
 | arr n e ih =>
   refine⟨fun d tid x y cx cy c hd hx hy he hs=>?_,(fun d off fs x y cx cy xs ys c hd=>by simp[rS,fI] at hd)⟩;cases e with
   | int k =>
     obtain⟨d,rfl⟩:∃e,d=e+1:=⟨d-1,by omega⟩;obtain⟨d,rfl⟩:∃e,d=e+1:=⟨d-1,by have:(Ty.arr n (.int k)).GL=1+1:=rfl;omega⟩;obtain rfl:=aN he;obtain⟨gd,k1,k2,k3⟩:=hd.arr;obtain⟨i,z,i1,i2,_,_⟩:=k2.info;have hcell:=k2.cells;show(Op.equalIn (d+1+1) tid (.agg cx.toArray) (.agg cy.toArray)).run P w=_
     rw[run_equalIn_array w (d+1) cx.toArray cy.toArray k1 i1,hcell];obtain⟨hxl,hxc,hxe⟩:=hx;obtain⟨hyl,hyc,hye⟩:=hy;have hz:(Ty.int k).size=1:=rfl;rw[hz] at hxc hxe hyc hye⊢;rw[EV] at hxc hyc;change List Int at x y;have item:∀is:List Nat,(∀i∈is,i<n)→(Op.eqItems (d+1) gd 1 cx.toArray cy.toArray is).run P w=.ok (is.all fun i=>decide (x[i]?=y[i]?)) w:=by
      intro is;induction is with
      | nil=>intro _;rfl
      | cons i is ihs =>
        intro hi;have hin:=hi i (nX ..);obtain⟨a,QK⟩:∃a,x[i]?=some a:=⟨_,kL (by rw[show x.length=n from hxl];exact hin)⟩;obtain⟨b,hyi⟩:∃a,y[i]?=some a:=⟨_,kL (by rw[show y.length=n from hyl];exact hin)⟩;have px:=Ea (w:=w) k2 (cs:=cx.toArray) (off:=i*1) (by rw[hz];simp[hxc];omega) (fun _=>hz);have py:=Ea (w:=w) k2 (cs:=cy.toArray) (off:=i*1) (by rw[hz];simp[hyc];omega) (fun _=>hz);have ex:=(hxe i _ QK).1;have ey:=(hye i _ hyi).1;rw[hz] at px py;rw[show cx.toArray.toList=cx from rfl,ex] at px;rw[show cy.toArray.toList=cy from rfl,ey] at py;simp only[Op.eqItems,Sem.run_bind,px,py,Result.andThen_ok];have heq:=run_equalIn_int w d gd k k a b k2.int;simp only[cM,Ty.isAgg,jM,List.headD_cons,heq,nZ,Result.andThen_ok,QK,hyi,QF];cases hb:(a==b) with
        | true =>
          have hxy:a=b:=by simpa using hb
          simp only[ac0,WJ,EI,hxy,JZ,ac1];exact ihs fun j hj=>hi j (qU _ hj)
        | false =>
          have hxy:¬a=b:=by simpa using hb
          simp[hxy]
     rw[item _ fun i hi=>List.mem_range.1 hi]
     congr 1
     unfold eqL;rw[RU,Cx];simp only[List.mem_range,nY];constructor
     ·intro h;apply O2;intro i;by_cases hin:i<n
      ·exact h i hin
      ·rw[TN (by rw[show x.length=n from hxl];omega),TN (by rw[show y.length=n from hyl];omega)]
     ·intro h i _;exact congrArg (fun l=>l[i]?) h
   | _=>cases he
 | unit =>
   refine⟨(fun d tid x y cx cy c hd=>by simp[Den,fI] at hd),fun d off fs x y cx cy xs ys c hd hx hy he hs h1 h2 h3 h4=>?_⟩;cases fs with
   | nil=>obtain rfl:=aN he;rfl
   | cons f r=>simp[rS,fI] at hd
 | pair a b kM nV =>
   have key:(∀(d off:Nat) (fs:List Field) (x y:(Ty.pair a b).den) (cx cy:List Value) (xs ys:Array Value) (c:Bool),rS P (.pair a b) off fs→bN w γ.I (.pair a b) x cx→bN w γ.I (.pair a b) y cy→Ty.eqv (.pair a b) x y=some c→(Ty.pair a b).GL<d+1 →
    xs.toList.drop off=cx→ys.toList.drop off=cy→off≤xs.size→off≤ys.size→(Op.eqFields d xs ys fs).run P w=.ok c w):=by
    intro d off fs x y cx cy xs ys c hd hx hy he hs h1 h2 h3 h4;obtain⟨f,r,rfl,k1,k2,k3,k4,k5⟩:=hd.cons;obtain⟨x1,x2,hxe,hx1,hx2⟩:=hx;obtain⟨y1,y2,hye,hy1,hy2⟩:=hy;simp only[Ty.eqv] at he;cases hea:Ty.eqv a x.1 y.1 with
    | none=>rw[hea] at he;cases he
    | some p =>
      cases heb:Ty.eqv b x.2 y.2 with
      | none=>rw[hea,heb] at he;cases he
      | some q =>
        rw[hea,heb] at he;obtain rfl:=aN he;have hlx:=hx1.length;have hly:=hy1.length;have lx:xs.size-off=x1.length+x2.length:=by
         have:=congrArg List.length (h1.trans hxe);simpa using this
        have ly:ys.size-off=y1.length+y2.length:=by
         have:=congrArg List.length (h2.trans hye);simpa using this
        have px:=Ea (w:=w) k3 (cs:=xs) (off:=f.offset) (by omega) vf;have py:=Ea (w:=w) k3 (cs:=ys) (off:=f.offset) (by omega) vf;have ex:(xs.toList.drop f.offset).take a.size=x1:=by rw[k1,h1,hxe,←hlx,JW]
        have ey:(ys.toList.drop f.offset).take a.size=y1:=by rw[k1,h2,hye,←hly,JW]
        rw[ex] at px;rw[ey] at py;have hsz:(Ty.pair a b).GL=a.GL+b.GL+1:=rfl;have hra:=Up a;have hrb:=Up b;have heq:=kM.1 d f.type x.1 y.1 x1 y1 p k3 hx1 hy1 hea (by omega);simp only[Op.eqFields,bu k2,Sem.run_bind,px,py,heq,Result.andThen_ok];cases p with
        | false=>simp[an]
        | true =>
          simp only[ac0,WJ,EI];rw[nV.2 d (off+a.size) r x.2 y.2 x2 y2 xs ys q k5 hx2 hy2 heb (by omega) (by rw[←zw,h1,hxe,←hlx,EG]) (by rw[←zw,h2,hye,←hly,EG]) (by omega) (by omega)];simp[an]
   refine⟨fun d tid x y cx cy c hd hx hy he hs=>?_,fun d off fs x y cx cy xs ys c hd hx hy he hs=>key d off fs x y cx cy xs ys c hd hx hy he (by omega)⟩;obtain⟨d,rfl⟩:∃e,d=e+1:=⟨d-1,by omega⟩;obtain⟨fs,k1,k2,k3,k4⟩:=hd.pair;have hf:P.fieldsOf tid=fs:=by simp[Program.fieldsOf,k1]
   show(Op.equalIn (d+1) tid (.agg _) (.agg _)).run P w=_
   rw[run_equalIn_struct w d tid _ _ (by rw[hf];exact k1) k4,hf];exact key d 0 fs.toList x y cx cy _ _ c k2 hx hy he (by omega) (by simp) (by simp) (by simp) (by simp)
end
end Go.Ge
namespace Go.Ge
open RowKit
section
variable {P:Program} {B:tJ} {N:Nat} {γ:Gh} {σ σ':St} {a:Act} {w:World} {d:Option Nat} {cx:Ctx}
theorem MM(b c:Bool){xt:TypeId}{x y:Operand}(ht:P.underlying xt=some .bool) :
  (iA .eql xt x y (.bool b) (.bool c)).run P w=.ok (.bool (eqB b c)) w∧(iA .neq xt x y (.bool b) (.bool c)).run P w=.ok (.bool (nt (eqB b c))) w:=by
 have e:=run_equalIn_bool' (P:=P) w 9999 xt b c ht;constructor<;>simp only[iA,eqGuard_at_bool,binOp,Op.equal,Op.maxDepth,Sem.run_bind,Sem.run_pure,Result.andThen_ok,e]<;>rfl
theorem Uq{xt e:TypeId}(ht:P.underlying xt=some (.pointer e))(a b:Option Addr)(h:a=none∨b=none)(n:Nat) :
  (Op.equalIn (n+1) xt (.pointer a) (.pointer b)).run P w=.ok (a.isNone&&b.isNone) w:=by
 cases a with
 | none=>cases b<;>simp only[Op.equalIn,Sem.run_bind,run_underlying ht,Result.andThen_ok]<;>rfl
 | some a=>cases b with
   | none=>simp only[Op.equalIn,Sem.run_bind,run_underlying ht,Result.andThen_ok];rfl
   | some b=>simp at h
theorem zE{xt e:TypeId}{x y:Operand}(ht:P.underlying xt=some (.pointer e))(a b:Option Addr)(h:a=none∨b=none) :
  (iA .eql xt x y (.pointer a) (.pointer b)).run P w=.ok (.bool (a.isNone&&b.isNone)) w∧(iA .neq xt x y (.pointer a) (.pointer b)).run P w=.ok (.bool (!(a.isNone&&b.isNone))) w:=by
 have e:=Uq (P:=P) (w:=w) ht a b h 9999;constructor<;>simp only[iA,eqGuard_at_pointer,binOp,Op.equal,Op.maxDepth,Sem.run_bind,Sem.run_pure,Result.andThen_ok,e]
theorem aau(hc:gA P cx){op:BinOp}{xt:TypeId}{x y:Operand}{u v:Value}{p q r:aS}(hu:cI γ σ.mem w p .val [u])(hv:cI γ σ.mem w q .val [v])
  (hr:(bin (find cx.T xt) (dD cx.EK xt) op p q).run=some r):∃z,(iA op xt x y u v).run P w=.ok z w∧cI γ σ.mem w r .val [z]:=by
 unfold bin at hr;split at hr
 ·
  obtain⟨rfl,h1⟩:=vM hu;obtain⟨rfl,h2⟩:=vM hv;split at hr
  ·rename_i left hs;have hr2:=gP hr;rename_i k n k' m _;cases hz:bB m 0
   ·rw[hz] at hr2;obtain rfl:=aN hr2;exact Uo h1 hs hz
   ·rw[hz] at hr2;cases hr2
  ·rename_i hs;obtain⟨hb,hr2⟩:=aD hr;rename_i k n k' m _;have hk:=Ao hb;subst hk;exact R5 h1 hs hr2
 ·
  obtain⟨rfl,h1⟩:=zD hu;obtain⟨rfl,h2⟩:=zD hv;exact R6 hr
 ·
  rename_i b c;obtain rfl:=Bj hu;obtain rfl:=Bj hv;obtain⟨hb,hr2⟩:=aD hr;have ht:=hc.T _ _ (jG hb);have e:=MM (P:=P) (w:=w) b c (x:=x) (y:=y) ht.bool;split at hr2
  ·rename_i he;obtain rfl:=aN hr2;rcases tT he with ⟨rfl,_⟩|⟨_,h⟩
   ·exact⟨.bool (eqB b c),e.1,hY _⟩
   ·cases h
  ·rename_i he;obtain rfl:=aN hr2;rcases tT he with ⟨_,h⟩|⟨rfl,_⟩
   ·cases h
   ·exact⟨.bool (nt (eqB b c)),e.2,hY _⟩
  ·cases hr2
 ·
  rename_i ta tb x1 t2 y1;obtain⟨hb,hr2⟩:=aD hr;simp only[dW] at hb;have ht:=hc.T _ _ (jG hb.1);split at hr2
  ·rename_i y2 e hy2 he;obtain⟨e1,e2⟩:=Ty.lT hy2;subst e1;subst e2;split at hr2
   ·rename_i c hce;obtain rfl:=aN hr2;obtain⟨WW,k1,rfl⟩:=eu.1 hu;obtain⟨WX,k2,rfl⟩:=eu.1 hv;have hq:=(EY (P:=P) (γ:=γ) (w:=w) (.pair ta tb)).1 10000 xt x1 _ WW WX c ht k1 k2 hce (by have:=KV hb.2;omega);obtain⟨fs,j1,j2,j3,j4⟩:=ht.pair;have hg:∀op,(eqGuard op xt x y (.agg WW.toArray) (.agg WX.toArray)).run P w=.ok () w:=fun op=>run_eqGuard_agg w op xt x y _ _ j3;rcases tT he with ⟨rfl,rfl⟩|⟨rfl,rfl⟩
    ·refine⟨.bool c,?_,hY _⟩;show(iA .eql xt x y (.agg _) (.agg _)).run P w=_
     simp only[iA,Sem.run_bind,hg,Result.andThen_ok];have hq':(Op.equalIn 10000 xt (.agg WW.toArray) (.agg WX.toArray)).run P w=.ok c w:=hq;rw[run_eql_struct,hq'];rfl
    ·refine⟨.bool (nt c),?_,hY _⟩;show(iA .neq xt x y (.agg _) (.agg _)).run P w=_
     simp only[iA,Sem.run_bind,hg,Result.andThen_ok];have hq':(Op.equalIn 10000 xt (.agg WW.toArray) (.agg WX.toArray)).run P w=.ok c w:=hq;rw[run_neq_struct,hq'];rfl
   ·cases hr2
  ·cases hr2
 ·
  rename_i nn ee x1 t2 y1;obtain⟨hb,hr2⟩:=aD hr;simp only[dW] at hb;have ht:=hc.T _ _ (jG hb.1);split at hr2
  ·rename_i y2 e hy2 he;obtain⟨e1,e2⟩:=Ty.lT hy2;subst e1;subst e2;split at hr2
   ·rename_i c hce;obtain rfl:=aN hr2;obtain⟨WW,k1,rfl⟩:=eu.1 hu;obtain⟨WX,k2,rfl⟩:=eu.1 hv;have hq:=(EY (P:=P) (γ:=γ) (w:=w) (.arr nn ee)).1 10000 xt x1 _ WW WX c ht k1 k2 hce (by have:=KV hb.2;omega);have j3:=ht.ajC;have hg:∀op,(eqGuard op xt x y (.agg WW.toArray) (.agg WX.toArray)).run P w=.ok () w:=fun op=>run_eqGuard_agg w op xt x y _ _ j3;rcases tT he with ⟨rfl,rfl⟩|⟨rfl,rfl⟩
    ·refine⟨.bool c,?_,hY _⟩;show(iA .eql xt x y (.agg _) (.agg _)).run P w=_
     simp only[iA,Sem.run_bind,hg,Result.andThen_ok];have hq':(Op.equalIn 10000 xt (.agg WW.toArray) (.agg WX.toArray)).run P w=.ok c w:=hq;rw[run_eql_struct,hq'];rfl
    ·refine⟨.bool (nt c),?_,hY _⟩;show(iA .neq xt x y (.agg _) (.agg _)).run P w=_
     simp only[iA,Sem.run_bind,hg,Result.andThen_ok];have hq':(Op.equalIn 10000 xt (.agg WW.toArray) (.agg WX.toArray)).run P w=.ok c w:=hq;rw[run_neq_struct,hq'];rfl
   ·cases hr2
  ·cases hr2
 ·
  obtain rfl:u=_:=by simpa [cI] using hu
  obtain rfl:v=_:=by simpa [cI] using hv
  split at hr
  ·rename_i e hp he;obtain rfl:=aN hr;obtain⟨el,hpt⟩:=hc.EK _ hp;have q:=zE (P:=P) (w:=w) (x:=x) (y:=y) hpt none none (.inl rfl);rcases tT he with ⟨rfl,rfl⟩|⟨rfl,rfl⟩
   ·exact⟨_,q.1,hY _⟩
   ·exact⟨_,q.2,hY _⟩
  ·cases hr
 ·cases hr
theorem kV{b aC:Nat}(h:live σ b aC=true):∃bx,σ.mem b=some bx∧bx.aC=aC:=by
 unfold live at h;split at h
 ·rename_i bx hb;exact⟨bx,hb,gz h⟩
 ·cases h
theorem bC{mem:Nat→Option Box}{b aC:Nat}{bx:Box}(hb:mem b=some bx)(hv:bx.aC=aC){K:Box→Prop}(h:n9 mem b aC K):K bx:=by
 obtain⟨iJ,h1,h2,h3⟩:=h;rw[hb] at h1;obtain rfl:=aN h1;exact h3 hv
theorem WY(hc:gA P cx){op:BinOp}{xt:TypeId}{x y:Operand}{u v:Value}{p q r:aS}(hu:cI γ σ.mem w p .val [u])(hv:cI γ σ.mem w q .val [v])
  (hr:(ac8 σ (find cx.T xt) (dD cx.EK xt) op p q).run=some r):∃z,(iA op xt x y u v).run P w=.ok z w∧cI γ σ.mem w r .val [z]:=by
 unfold ac8 at hr;split at hr
 ·rename_i b aC p;obtain⟨hb,hr2⟩:=aD hr;simp only[dW] at hb;obtain⟨bx,tK,bF⟩:=kV hb.1;obtain⟨blk,cap,_,hval⟩:=bC tK bF hu.2;obtain rfl:u=_:=by simpa using hval
  obtain rfl:v=_:=by simpa [cI] using hv
  obtain⟨el,hpt⟩:=hc.EK _ hb.2;have q:=zE (P:=P) (w:=w) (x:=x) (y:=y) hpt (some ⟨blk,cP p,none⟩) none (.inr rfl);split at hr2
  ·rename_i e he;obtain rfl:=aN hr2;rcases tT he with ⟨rfl,rfl⟩|⟨rfl,rfl⟩
   ·exact⟨_,q.1,hY _⟩
   ·exact⟨_,q.2,hY _⟩
  ·cases hr2
 ·rename_i b aC p;obtain⟨hb,hr2⟩:=aD hr;simp only[dW] at hb;obtain⟨bx,tK,bF⟩:=kV hb.1;obtain⟨blk,cap,_,hval⟩:=bC tK bF hv.2;obtain rfl:v=_:=by simpa using hval
  obtain rfl:u=_:=by simpa [cI] using hu
  obtain⟨el,hpt⟩:=hc.EK _ hb.2;have q:=zE (P:=P) (w:=w) (x:=x) (y:=y) hpt none (some ⟨blk,cP p,none⟩) (.inl rfl);split at hr2
  ·rename_i e he;obtain rfl:=aN hr2;rcases tT he with ⟨rfl,rfl⟩|⟨rfl,rfl⟩
   ·exact⟨_,q.1,hY _⟩
   ·exact⟨_,q.2,hY _⟩
  ·cases hr2
 ·exact aau hc hu hv hr
theorem adm{op:UnOp}{u:Value}{p r:aS}(hu:cI γ σ.mem w p .val [u])(hr:(un op p).run=some r):∃z,(Op.unary op u).run P w=.ok z w∧cI γ σ.mem w r .val [z]:=by
 unfold un at hr;split at hr
 ·obtain rfl:=Bj hu;obtain rfl:=aN hr;exact⟨_,rfl,hY _⟩
 ·obtain⟨rfl,h1⟩:=vM hu;obtain rfl:=aN hr;exact⟨_,rfl,mkInt (ga _ _)⟩
 ·obtain⟨rfl,h1⟩:=vM hu;obtain rfl:=aN hr;rename_i k n;refine⟨_,?_,mkInt (ga _ _)⟩;cases hk:k.signed<;>simp[Op.unary,Op.intBits,fc,hk]
 ·cases hr
theorem adn(hm:bK B γ σ.mem w){b:Nat}{bx:Box}(hb:σ.mem b=some bx){blk cap:Nat}(hl:γ.loc b=some (blk,cap)){p:List FP}{v:aS}(hn:(aao bx.buf p bx.val).run=some v) :
  ∃cur tid fr,w.heap[blk]?=some (.cells cur tid fr)∧nw cur fr∧cP p+dn v≤cur.size∧cI γ σ.mem w v .cells ((cur.toList.drop (cP p)).take (dn v)):=by
 have jt:=hm.boxes b bx hb;unfold cR at jt;unfold aao at hn;cases bO:bx.buf with
 | false =>
   rw[bO] at jt hn;obtain⟨dX,cap',cur,tid,fr,h1,h2,h3,jb,h4⟩:=jt;rw[hl] at h1;obtain⟨rfl,rfl⟩:=e9 (aN h1);obtain⟨k1,k2⟩:=yD h4 hn;exact⟨cur,tid,fr,h2,h3,by simpa using k1,k2⟩
 | true =>
   rw[bO] at jt hn;obtain⟨e,l,h1,h2,h3⟩:=jt;rw[h1] at hn;rcases h3 with ⟨h3,_⟩|⟨dX,cap',cur,tid,fr,h3,h4,h5,jb,h6,h7,h8,h9⟩
   ·rw[hl] at h3;cases h3
   ·rw[hl] at h3;obtain⟨rfl,rfl⟩:=e9 (aN h3);cases p with
    | nil=>cases hn
    | cons s p =>
      cases s with
      | gG k off=>cases hn
      | idx i size =>
        obtain⟨hsb,hn2⟩:=aD hn;have hsz:=gz hsb;obtain⟨x,hx,hn3⟩:=cl hn2;obtain⟨h0,hx2⟩:=va hx;have hr:=h9 _ x hx2;have hrl:=hr.length;have hi:i.toNat<l.length:=(List.getElem?_eq_some_iff.1 hx2).1;have hm2:(i.toNat+1)*e.size≤cap*e.size:=gM _ (by omega);rw[CF] at hm2;obtain⟨k1,k2⟩:=yD (v:=.data e x) (show cI γ σ.mem w (.data e x) .cells _ from hr) hn3;rw[hrl] at k1;refine⟨cur,tid,fr,h4,h5.th,?_,?_⟩
        ·simp only[cP,hsz];omega
        ·rw[Zc,Mr,zw,vK (by omega)] at k2;simp only[cP,hsz];exact k2
theorem Az{t:Ty}{tid:TypeId}(ht:Den P t tid){blk off:Nat}{x:t.den}{cs:List Value}(MN:bN w γ.I t x cs)(ajF:(loadCells ⟨blk,off,none⟩ cs.length).run P w=.ok cs.toArray w)
  (hcell:∀(j:Nat) v,cs[j]?=some v→w.cell? ⟨blk,off+j,none⟩=some v):(loadVar tid ⟨blk,off,none⟩).run P w=.ok (cM t cs) w:=by
 unfold loadVar;rw[Sem.run_bind,ht.agg w,Result.andThen_ok];have hl:=MN.length;cases hag:t.isAgg with
 | true =>
   simp only[nZ,Sem.run_bind,ht.sizeOf w,Result.andThen_ok,←hl,ajF,Sem.run_pure,cM,hag,gp]
 | false =>
   have hs:=vf hag;rw[hs] at hl;obtain⟨c,rfl⟩:=List.length_eq_one_iff.1 hl;have:=hcell 0 c rfl;simp only[An] at this;simp[cM,hag,this]
theorem MO:∀{u:Ty} {v:aS},Ug u v=true→dn v=u.size:=by
 intro u;induction u with
 | pair a b kM nV =>
   intro v h;cases v with
   | data t x=>obtain rfl:=Ty.eq_of_beq (show Ty.beq t (.pair a b)=true from h);rfl
   | mix p q =>
     obtain⟨h1,h2⟩:=Bool.and_eq_true_iff.1 (show(aap a p&&Ug b q)=true from h);have e1:dn p=a.size:=by
      unfold aap at h1;split at h1
      ·rfl
      ·rename_i t u x _;obtain rfl:=Ty.eq_of_beq h1;rfl
      ·cases h1
     show dn p+dn q=a.size+b.size
     rw[e1,nV h2]
   | _=>cases h
 | _ =>
   intro v h;cases v with
   | data t x=>obtain rfl:=Ty.eq_of_beq h;rfl
   | _=>cases h
theorem aav{u:Ty}{v:aS}(h1:aap u v=true):dn v=u.size:=by
 unfold aap at h1;split at h1
 ·rfl
 ·rename_i t u x _;obtain rfl:=Ty.eq_of_beq h1;rfl
 ·cases h1
theorem Ur(hc:gA P cx){ty:TypeId}{x:Operand}(h:dB B N γ σ a w)(hr:(mD cx d ty (cL σ x) σ).run=some σ') :
  ∃u val ad,σ'=σ.aW d u∧a.eval x=.pointer (some ad)∧(loadVar ty ad).run P w=.ok val w∧cI γ σ.mem w u .val [val]:=by
 have hv:=h.cL x;unfold mD at hr;split at hr
 ·rename_i u y hx;rw[hx] at hv;obtain⟨hb,hr2⟩:=aD hr;obtain rfl:=aN hr2;have ht:=hc.T _ _ (jG hb);obtain⟨blk,off,cs,h1,h2,h3⟩:=hv;obtain h1:a.eval x=_:=by simpa using h1
  have hl:=Az (P:=P) ht h2 (I7 h3) (fun j v hj=>(h3 j v hj).1);exact⟨_,_,_,rfl,h1,hl,cs,h2,rfl⟩
 ·rename_i b aC p hx;rw[hx] at hv;split at hr
  ·rename_i bx hb;obtain⟨bF,hr2⟩:=aD hr;have bF:=gz bF;obtain⟨v,hn,jP⟩:=bind_some hr2;obtain⟨IL,oV⟩:=aD jP;obtain rfl:=aN oV;obtain⟨blk,cap,hl,hval⟩:=bC hb bF hv.2;obtain hval:a.eval x=_:=by simpa using hval
   obtain⟨cur,tid,fr,g1,g2,g3,g4⟩:=adn h.ok hb hl hn;have hld:=EL (P:=P) g1 g3;have hgl:=g4.length;have hcells:∀(j:Nat) v',((cur.toList.drop (cP p)).take (dn v))[j]?=some v'→w.cell? ⟨blk,cP p+j,none⟩=some v':=fun j v' hj=>by
    rw[cell_of_heap g1];rw[gN] at hj;split at hj
    ·rw[nW] at hj;simpa using hj
    ·cases hj
   have single:∀(hone:(isAgg ty).run P w=.ok false w) (h1:dn v=1) (J4:∀c,cI γ σ.mem w v .cells [c]→cI γ σ.mem w v .val [c]),
     ∃u val ad,σ.aW d v=σ.aW d u∧a.eval x=.pointer (some ad)∧(loadVar ty ad).run P w=.ok val w∧cI γ σ.mem w u .val [val]:=by
    intro hone h1 J4;rw[h1] at hgl g4 hcells;obtain⟨c,hcc⟩:=List.length_eq_one_iff.1 hgl;rw[hcc] at g4 hcells;have:=hcells 0 c rfl;simp only[An] at this;refine⟨_,c,_,rfl,hval,?_,J4 c g4⟩;simp[loadVar,hone,this]
   cases v with
   | mix p' q' =>
     rw[show zz cx ty (.mix p' q')=false from rfl,JX] at IL;simp only[Ba] at IL;split at IL
     ·rename_i u hT;have ht:=hc.T _ _ hT;have hms:=MO IL;have hag:Ty.isAgg u=true:=by
       cases u with
       | pair a b=>rfl
       | _=>cases IL
      refine⟨_,.agg ((cur.toList.drop (cP p)).take (dn (.mix p' q'))).toArray,_,rfl,hval,?_,?_⟩
      ·rw[hms] at hld⊢;simp only[loadVar,Sem.run_bind,ht.agg w,hag,Result.andThen_ok,nZ,ht.sizeOf w,hld,Sem.run_pure]
      ·obtain⟨c1,c2,e1,e2,e3⟩:=g4;exact⟨c1,c2,by rw[e1],e2,e3⟩
     ·cases IL
   | data u y =>
     rw[show Ba cx ty (.data u y)=false from rfl,Zf] at IL;have ht:=hc.T _ _ (jG IL);have LY:=Az (P:=P) ht g4 (by rw[hgl];exact hld) hcells;exact⟨_,_,_,rfl,hval,LY,_,g4,rfl⟩
   | whole b' WZ =>
     rw[show Ba cx ty (.whole b' WZ)=false from rfl,Zf] at IL;simp only[zz] at IL;split at IL
     ·rename_i e hT;exact single (by have:=(hc.T _ _ hT).agg w;exact this) rfl (fun c k=>k)
     ·cases IL
   | ptr b' WZ p'=>exact single ((hc.u9 _ (by simpa [Ba,zz] using IL)).1 w) rfl (fun c k=>k)
   | tO=>exact single ((hc.u9 _ (by simpa [Ba,zz] using IL)).1 w) rfl (fun c k=>k)
   | fn f caps=>exact single ((hc.u9 _ (by simpa [Ba,zz] using IL)).1 w) rfl (fun c k=>k)
   | _=>cases IL
  ·cases hr
 ·cases hr
theorem MP(hc:gA P cx){ty:TypeId}{x:Operand}(h:dB B N γ σ a w)(hd:∀k,d=some k→k<N)(hr:(mD cx d ty (cL σ x) σ).run=some σ') :
  p6 P B N γ σ a w d (Instr.loadAt ty (a.eval x)) σ':=by
 obtain⟨u,val,ad,rfl,h1,h2,h3⟩:=Ur hc h hr;refine bU h hd ?_ h3;rw[h1];simp only[Instr.loadAt,Instr.sureAddr,Sem.run_bind,Sem.run_pure,Result.andThen_ok,h2]
end
end Go.Ge
