/- A ghost interpreter of the model's code, and that it tells the truth: part 2. It says of a function of plain data what a call of it comes to. -/
import Derived.Test.YtdpbdiikloedbaaGreatDoorGeA
import Derived.Laws.StructEq
import Derived.ChangeKeysEq
set_option linter.unusedVariables false
set_option linter.unusedSimpArgs false
set_option linter.unusedSectionVars false
namespace Go.Ge
def ew:Ty→List Value
 | .int k=>[.int k 0]
 | .bool=>[.bool false]
 | .str=>[.string ⟨#[]⟩]
 | .slice _=>[.slice none 0 0]
 | .arr n e=>(List.replicate n (ew e)).flatten
 | .pair a b=>ew a++ew b
 | .unit=>[]
 | .alt _ _ r=>ew r
 | .AU=>[.nilIface]
theorem dy(t:Ty):(ew t).length=t.size:=by
 induction t with
 | arr n e ih=>simp[ew,Ty.size,ih]
 | pair a b jm lG=>simp[ew,Ty.size,jm,lG]
 | alt u a r jm ihr=>exact ihr
 | _=>rfl
theorem ep{α:Type}(l:List α):∀(n i:Nat),i<n→((List.replicate n l).flatten.drop (i*l.length)).take l.length=l
 | 0,i,h=>absurd h (by omega)
 | n+1,0,_=>by simp[List.replicate_succ]
 | n+1,i+1,h=>by
   rw[List.replicate_succ,Zc,A3,Wp,←ye,CL];exact ep l n i (by omega)
theorem mB(w:World)(I:Nat→Nat→Prop):∀t:Ty,bt w I t t.zero (ew t):=by
 intro t;induction t with
 | int k=>exact⟨rfl,by cases k<;>decide,by cases k<;>decide⟩
 | bool=>rfl
 | str=>exact⟨rfl,w9 _⟩
 | slice e ih=>exact .inl ⟨⟨none,rfl⟩,rfl⟩
 | arr n e ih =>
   refine⟨Wi,by rw[dy];rfl,fun i x hx=>?_⟩;have hx':(List.replicate n e.zero)[i]?=some x:=hx;rw[abS] at hx';split at hx'
   ·rename_i hi;obtain rfl:e.zero=x:=by simpa using hx'
    have:=ep (ew e) n i hi;rw[dy] at this;show bt w I e e.zero (((List.replicate n (ew e)).flatten.drop (i*e.size)).take e.size)
    rw[this];exact ih
   ·cases hx'
 | pair a b jm lG=>exact⟨_,_,rfl,jm,lG⟩
 | unit=>rfl
 | alt u a r jm ihr=>exact ihr
 | AU=>rfl
def PL:Value→Value→Bool
 | .int k n,.int k' m=>Nat.beq (Al k) (Al k')&&decide (n=m)
 | .bool a,.bool b=>a==b
 | .string a,.string b=>decide (a.data.toList=b.data.toList)
 | .slice none 0 0,.slice none 0 0=>true
 | .pointer none,.pointer none=>true
 | .nilIface,.nilIface=>true
 | _,_=>false
theorem Uy{a b:Value}(h:PL a b=true):a=b:=by
 unfold PL at h;split at h
 ·simp only[dW,zf] at h;rw[yh h.1,h.2]
 ·simpa using h
 ·rename_i a b;obtain⟨⟨a⟩⟩:=a;obtain⟨⟨b⟩⟩:=b;have h':a=b:=by simpa using h
  rw[h']
 ·rfl
 ·rfl
 ·rfl
 ·cases h
def EY:List Value→List Value→Bool
 | [],[]=>true
 | a::r,b::s=>PL a b&&EY r s
 | _,_=>false
theorem IA:∀{a b:List Value},EY a b=true→a=b
 | [],[],_=>rfl
 | a::r,b::s,h=>by simp only[EY,dW] at h;rw[Uy h.1,IA h.2]
 | [],_::_,h=>by cases h
 | _::_,[],h=>by cases h
def CX(P:Program)(tid:TypeId)(size:Nat)(zc:List Value):Bool :=
 match P.info? tid with
 | some i=>Nat.beq i.size size&&(match i.zero with|some z=>EY z.cells.toList zc|none=>false)
 | none=>false
theorem jc{P:Program}{tid:TypeId}{size:Nat}{zc:List Value}(h:CX P tid size zc=true) :
  ∃i z,P.info? tid=some i∧i.size=size∧i.zero=some z∧z.cells.toList=zc:=by
 unfold CX at h;split at h
 ·rename_i i hi;simp only[dW] at h;split at h
  ·rename_i z hz;exact⟨i,z,hi,fu h.1,hz,IA h.2⟩
  ·cases h.2
 ·cases h
def Hf(P:Program)(tid:TypeId):Bool :=
 match P.info? tid with
 | some i=>Nat.ble i.bytes 32768
 | none=>false
def Ty.ZB:Ty→Bool
 | .alt _ _ r=>r.ZB
 | .AU=>true
 | _=>false
def eF(P:Program):Ty→Bool→TypeId→Nat→List Field→Bool
 | .int k,false,tid,_,_=>(match P.underlying tid with|some (.int k')=>Nat.beq (Al k) (Al k')|_=>false)&&CX P tid 1 [.int k 0]
 | .bool,false,tid,_,_=>(match P.underlying tid with|some .bool=>true|_=>false)&&CX P tid 1 [.bool false]
 | .str,false,tid,_,_=>(match P.underlying tid with|some .string=>true|_=>false)&&CX P tid 1 [.string ⟨#[]⟩]
 | .slice e,false,tid,_,_=>(match P.underlying tid with|some (.slice eT)=>eF P e false eT 0 []&&Hf P eT&&Nat.blt 0 e.size|_=>false)&&CX P tid 1 [.slice none 0 0]
 | .arr n e,false,tid,_,_=>(match P.underlying tid with|some (.array m eT)=>Nat.beq n m&&eF P e false eT 0 []&&Nat.blt 0 e.size|_=>false)&&CX P tid (n*e.size) (ew (.arr n e))&&!P.eqGuardType P.depth tid
 | .pair a b,false,tid,_,_=>(match P.underlying tid with
  | some (.struct fs)=>(match fs.toList with
    | f::r=>Nat.beq f.offset 0&&decide (f.name ≠ "_")&&eF P a false f.type 0 []&&Nat.blt 0 a.size&&eF P b true 0 a.size r
    | []=>false)
  | _=>false)&&CX P tid (a.size+b.size) (ew (.pair a b))&&!P.eqGuardType P.depth tid&&!P.stoodInHeld tid
 | .unit,false,tid,_,_=>false
 | .alt u _ r,false,tid,_,_=>eF P r false tid 0 []&&P.concrete u&&r.ZB
 | .AU,false,tid,_,_=>(match P.underlying tid with|some (.interface _)=>true|_=>false)&&CX P tid 1 [.nilIface]
 | .pair a b,true,_,off,f::r=>Nat.beq f.offset off&&decide (f.name ≠ "_")&&eF P a false f.type 0 []&&Nat.blt 0 a.size&&eF P b true 0 (off+a.size) r
 | .unit,true,_,_,[]=>true
 | _,_,_,_,_=>false
def Den(P:Program)(t:Ty)(tid:TypeId):Prop:=eF P t false tid 0 []=true
def oY(P:Program)(t:Ty)(off:Nat)(fs:List Field):Prop:=eF P t true 0 off fs=true
section
variable {P:Program} {tid:TypeId}
theorem Den.int{k:IntKind}(h:Den P (.int k) tid):P.underlying tid=some (.int k):=by
 simp only[Den,eF,dW] at h;have h1:=h.1;split at h1
 ·rename_i k' hk;rw[hk,yh h1]
 ·cases h1
theorem Den.bool(h:Den P .bool tid):P.underlying tid=some .bool:=by
 simp only[Den,eF,dW] at h;have h1:=h.1;split at h1
 ·rename_i hk;rw[hk]
 ·cases h1
theorem Den.str(h:Den P .str tid):P.underlying tid=some .string:=by
 simp only[Den,eF,dW] at h;have h1:=h.1;split at h1
 ·rename_i hk;rw[hk]
 ·cases h1
theorem Den.slice{e:Ty}(h:Den P (.slice e) tid):∃eT,P.underlying tid=some (.slice eT)∧Den P e eT∧Hf P eT=true∧0<e.size:=by
 simp only[Den,eF,dW] at h;have h1:=h.1;split at h1
 ·rename_i eT hk;simp only[dW] at h1;exact⟨eT,hk,h1.1.1,h1.1.2,by simpa using h1.2⟩
 ·cases h1
theorem Den.arr{n:Nat}{e:Ty}(h:Den P (.arr n e) tid):∃eT,P.underlying tid=some (.array n eT)∧Den P e eT∧0<e.size:=by
 simp only[Den,eF,dW] at h;have h1:=h.1.1;split at h1
 ·rename_i m eT hk;simp only[dW] at h1;rw[fu h1.1.1];exact⟨eT,hk,h1.1.2,by simpa using h1.2⟩
 ·cases h1
theorem Den.afd{n:Nat}{e:Ty}(h:Den P (.arr n e) tid):P.eqGuardType P.depth tid=false:=by
 simp only[Den,eF,dW,nj] at h;exact h.2
theorem Den.pair{a b:Ty}(h:Den P (.pair a b) tid):∃fs,P.underlying tid=some (.struct fs)∧oY P (.pair a b) 0 fs.toList∧P.eqGuardType P.depth tid=false∧P.stoodInHeld tid=false:=by
 simp only[Den,eF,dW] at h;obtain⟨⟨⟨h1,h2⟩,h3⟩,h4⟩:=h;split at h1
 ·rename_i fs hk;refine⟨fs,hk,?_,by simpa using h3,by simpa using h4⟩;split at h1
  ·rename_i f r hr;simp only[oY,hr,eF,uW];exact h1
  ·cases h1
 ·cases h1
theorem Den.info{t:Ty}(h:Den P t tid):∃i z,P.info? tid=some i∧i.size=t.size∧i.zero=some z∧z.cells.toList=ew t:=by
 induction t with
 | int k=>simp only[Den,eF,dW] at h;exact jc h.2
 | bool=>simp only[Den,eF,dW] at h;exact jc h.2
 | str=>simp only[Den,eF,dW] at h;exact jc h.2
 | slice e=>simp only[Den,eF,dW] at h;exact jc h.2
 | arr n e=>simp only[Den,eF,dW] at h;exact jc h.1.2
 | pair a b=>simp only[Den,eF,dW] at h;exact jc h.1.1.2
 | unit=>simp[Den,eF] at h
 | alt u a r jm ihr=>simp only[Den,eF,dW] at h;exact ihr h.1.1
 | AU=>simp only[Den,eF,dW] at h;exact jc h.2
theorem Den.AU(h:Den P .AU tid):∃ms,P.underlying tid=some (.interface ms):=by
 simp only[Den,eF,dW] at h;have h1:=h.1;split at h1
 ·exact⟨_,by assumption⟩
 ·cases h1
theorem Den.rest{u:Nat}{a r:Ty}(h:Den P (.alt u a r) tid):Den P r tid∧P.concrete u=true:=by
 simp only[Den,eF,dW] at h;exact h.1
theorem Ty.Lo:∀{t:Ty},t.ZB=true→t.size=1∧t.isAgg=false:=by
 intro t;induction t with
 | alt u a r jm ihr=>intro h;exact ihr h
 | AU=>intro h;exact⟨rfl,rfl⟩
 | _=>intro h;cases h
theorem Den.ZC{u:Nat}{a r:Ty}(_:Den P r tid)(h:Den P (.alt u a r) tid):r.size=1:=by
 simp only[Den,eF,dW] at h;exact(Ty.Lo h.2).1
theorem Den.agg{t:Ty}(h:Den P t tid)(w:World):(isAgg tid).run P w=.ok t.isAgg w:=by
 induction t with
 | alt u a r jm ihr=>exact ihr h.rest.1
 | AU=>obtain⟨_,h1⟩:=h.AU;unfold Go.isAgg;simp[run_underlying h1,Ty.isAgg]
 | int k=>unfold Go.isAgg;simp[run_underlying h.int,Ty.isAgg]
 | bool=>unfold Go.isAgg;simp[run_underlying h.bool,Ty.isAgg]
 | str=>unfold Go.isAgg;simp[run_underlying h.str,Ty.isAgg]
 | slice e ih=>unfold Go.isAgg;obtain⟨_,h1,_⟩:=h.slice;simp[run_underlying h1,Ty.isAgg]
 | arr n e ih=>unfold Go.isAgg;obtain⟨_,h1,_⟩:=h.arr;simp[run_underlying h1,Ty.isAgg]
 | pair a b jm lG=>unfold Go.isAgg;obtain⟨_,h1,_⟩:=h.pair;simp[run_underlying h1,Ty.isAgg]
 | unit=>simp[Den,eF] at h
theorem Den.sizeOf{t:Ty}(h:Den P t tid)(w:World):(Go.sizeOf tid).run P w=.ok t.size w:=by
 obtain⟨i,z,h1,h2,_⟩:=h.info;simp[Go.sizeOf,typeInfo,h1,h2]
theorem Den.zero{t:Ty}(h:Den P t tid)(w:World):∃z,(zeroValue tid).run P w=.ok z w∧z.cells.toList=ew t:=by
 obtain⟨i,z,h1,h2,h3,h4⟩:=h.info;exact⟨z,by simp[zeroValue,typeInfo,h1,h3],h4⟩
theorem Den.cells{t:Ty}(h:Den P t tid):P.cellsOf tid=t.size:=by
 obtain⟨i,z,h1,h2,_⟩:=h.info;simp[Program.cellsOf,h1,h2]
theorem oY.cons{a b:Ty}{off:Nat}{fs:List Field}(h:oY P (.pair a b) off fs) :
  ∃f r,fs=f::r∧f.offset=off∧f.name ≠ "_"∧Den P a f.type∧0<a.size∧oY P b (off+a.size) r:=by
 cases fs with
 | nil=>simp[oY,eF] at h
 | cons f r =>
   simp only[oY,eF,dW] at h;obtain⟨⟨⟨⟨h1,h2⟩,h3⟩,h4⟩,h5⟩:=h;exact⟨f,r,rfl,fu h1,by simpa using h2,h3,by simpa using h4,h5⟩
theorem oY.at{t:Ty}:∀{off:Nat} {fs:List Field} {k:Nat} {u:Ty} {o:Nat},oY P t off fs→uX t k=some u→ja t k=some o →
  ∃f,fs[k]?=some f∧f.offset=off+o∧Den P u f.type∧0<u.size:=by
 induction t with
 | pair a b jm lG =>
   intro off fs k u o h hu ho;obtain⟨f,r,rfl,h1,h2,h3,h4,h5⟩:=h.cons;cases k with
   | zero =>
     simp only[uX,ja,uq] at hu ho;subst hu ho;exact⟨f,rfl,by omega,h3,h4⟩
   | succ k =>
     simp only[uX,ja] at hu ho;cases hb:ja b k with
     | none=>rw[hb] at ho;cases ho
     | some o' =>
       rw[hb] at ho;simp only[K9,uq] at ho;obtain⟨f',k1,k2,k3,k4⟩:=lG h5 hu hb;exact⟨f',by simpa using k1,by omega,k3,k4⟩
 | _=>intro off fs k u o h hu ho;cases k<;>simp[uX] at hu
end
def mw.cells:mw→List Value
 | .dat t=>ew t
 | .buf _ _=>[.slice none 0 0]
 | _=>[.pointer none]
def Lq:List mw→List Value
 | []=>[]
 | f::r=>f.cells++Lq r
def adA:List mw→Nat
 | []=>0
 | f::r=>f.size+adA r
def O1(P:Program):Nat→List mw→List Field→Bool
 | _,[],[]=>true
 | off,f::r,g::s=>Nat.beq g.offset off&&Nat.blt 0 f.size&&(match P.info? g.type with|some i=>Nat.beq i.size f.size|none=>false)&&O1 P (off+f.size) r s
 | _,_,_=>false
def Lr(P:Program)(tid:TypeId)(fs:List mw):Bool :=
 (match P.underlying tid with|some (.struct gs)=>O1 P 0 fs gs.toList|_=>false)&&CX P tid (adA fs) (Lq fs)
theorem Xp{P:Program}{tid:TypeId}{fs:List mw}(h:Lr P tid fs=true)(w:World):∃z,(zeroValue tid).run P w=.ok z w∧z.cells.toList=Lq fs:=by
 simp only[Lr,dW] at h;obtain⟨i,z,h1,h2,h3,h4⟩:=jc h.2;exact⟨z,by simp[zeroValue,typeInfo,h1,h3],h4⟩
theorem ZD{P:Program}:∀{fs:List mw} {gs:List Field} {off k o:Nat},O1 P off fs gs=true→zj fs k=some o→∃f i,gs[k]?=some f∧f.offset=off+o∧P.info? f.type=some i∧0<i.size:=by
 intro fs;induction fs with
 | nil=>intro gs off k o h ho;cases ho
 | cons f r ih =>
   intro gs off k o h ho;cases gs with
   | nil=>cases h
   | cons g s =>
     simp only[O1,dW] at h;obtain⟨⟨⟨h1,h2⟩,h3⟩,h4⟩:=h;cases k with
     | zero =>
       obtain rfl:=aG ho;split at h3
       ·rename_i i hi;have h3':=fu h3;have h2':0<f.size:=by simpa using h2
        exact⟨g,i,rfl,by rw[fu h1];rfl,hi,by omega⟩
       ·cases h3
     | succ k =>
       simp only[zj] at ho;split at ho
       ·rename_i o' ho';obtain rfl:=aG ho;obtain⟨f',i,k1,k2,k3,k4⟩:=ih h4 ho';exact⟨f',i,k1,by omega,k3,k4⟩
       ·cases ho
theorem ab1{P:Program}{tid:TypeId}{fs:List mw}{k o:Nat}(h:Lr P tid fs=true)(ho:zj fs k=some o):∃(gs:Array Field) (f:Field) (i:TypeInfo),P.underlying tid=some (.struct gs)∧gs.toList[k]?=some f∧f.offset=o∧P.info? f.type=some i∧0<i.size:=by
 simp only[Lr,dW] at h;obtain⟨h1,_⟩:=h;split at h1
 ·rename_i gs hg;obtain⟨f,i,k1,k2,k3,k4⟩:=ZD h1 ho;exact⟨gs,f,i,hg,k1,by omega,k3,k4⟩
 ·cases h1
theorem EZ{P:Program}:∀{fs:List mw} {gs:List Field} {off:Nat},O1 P off fs gs=true→∃pl:List (Nat×Nat),gs.mapM (fun f=>(P.info? f.type).map fun i=>(f.offset,i.size))=some pl ∧
  ∀k o f,zj fs k=some o→fs[k]?=some f→pl[k]?=some (off+o,f.size):=by
 intro fs;induction fs with
 | nil =>
   intro gs off h;cases gs with
   | nil=>exact⟨[],rfl,fun k o f _ hf=>by cases hf⟩
   | cons g s=>cases h
 | cons f r ih =>
   intro gs off h;cases gs with
   | nil=>cases h
   | cons g s =>
     simp only[O1,dW] at h;obtain⟨⟨⟨h1,h2⟩,h3⟩,h4⟩:=h;obtain⟨pl,p1,p2⟩:=ih h4;split at h3
     ·rename_i i hi;refine⟨(g.offset,i.size)::pl,by simp[hi,p1],fun k o q ho hq=>?_⟩;cases k with
      | zero =>
        obtain rfl:=aG ho;obtain rfl:=aG hq;rw[abT,fu h1,fu h3];rfl
      | succ k =>
        simp only[zj] at ho;split at ho
        ·rename_i o' ho';obtain rfl:=aG ho;have:=p2 k o' q ho' (by simpa using hq);rw[YT,this,AR]
        ·cases ho
     ·cases h3
structure eW (P:Program) (cx:Ctx):Prop where
 T:∀tid t,find cx.T tid=some t→Den P t tid
 oX:∀tid,cC cx.oX tid=true→(∀w,(isAgg tid).run P w=.ok false w)∧(∀w,(Go.sizeOf tid).run P w=.ok 1 w)∧∃z,(∀w,(zeroValue tid).run P w=.ok z w)∧z.oneCell'=true
 yj:∀tid,cC cx.yj tid=true→∃e,P.underlying tid=some (.pointer e)
 fns:∀f fn,find cx.fns f=some fn→P.funcs[f]?=some fn
 qn:∀tid fs,find cx.qn tid=some fs→Lr P tid fs=true
 els:∀tid e,find cx.els tid=some e→P.underlying tid=some (.slice e)
theorem iw{o:Option Ty}{t:Ty}(h:G3 o t=true):o=some t:=by
 unfold G3 at h;split at h
 ·rw[Ty.eq_of_beq h]
 ·cases h
theorem addr_add(b o n:Nat):Addr.add ⟨b,o,none⟩ n=⟨b,o+n,none⟩:=by
 unfold Addr.add;split<;>simp_all
def splice(l:List Value)(off:Nat)(c:List Value):List Value:=l.take off++c++l.drop (off+c.length)
theorem bA{l c:List Value}{off:Nat}(h:off+c.length≤l.length):(splice l off c).length=l.length:=by
 simp[splice];omega
theorem kU.same{cur cur':Array Value}{fr:Nat×Nat}(h:kU cur fr)(hs:cur'.size=cur.size):kU cur' fr:=fun o ho=>h o (by omega)
section
variable {P:Program}
theorem ThB.same{e:Ty}{cur cur':Array Value}{fr:Nat×Nat}(h:ThB e cur fr)(hs:cur'.size=cur.size):ThB e cur' fr:=⟨h.th.same hs,fun he=>by rw[hs];exact h.um he⟩
theorem cv(g o:Nat)(t:TypeId)(fr:Nat×Nat):∀(vs:List Value) (i:Nat) (cur:Array Value) (w:World),w.heap[g]?=some (.cells cur t fr)→kU cur fr →
  o+i+vs.length≤cur.size→(∀v∈vs,v.oneCell'=true)→(storeCells ⟨g,o,none⟩ vs i).run P w=.ok () (w.setRow g (splice cur.toList (o+i) vs).toArray)
 | [],i,cur,w,hg,_,_,_=>by
   simp only[storeCells,splice,G0,vS,yf,RG,Array.toArray_toList];rw[setRow_self w g cur t fr hg];rfl
 | v::rest,i,cur,w,hg,Ls,hl,h1=>by
   have hi:o+i<cur.size:=by simp at hl;omega
   have hcell:w.cell? ⟨g,o+i,none⟩=some cur[o+i]:=by simp[World.cell?,hg,hi]
   have ag4:w.frozen? ⟨g,o+i,none⟩=false:=by
    have:=Ls (o+i) hi;simp only[World.frozen?,hg];obtain⟨a,b⟩:=fr;simp only[Bool.and_eq_false_iff,abU];simp only at this;omega
   have hst:(store ((⟨g,o,none⟩:Addr).add i) v).run P w=.ok () (w.setRow g (cur.setIfInBounds (o+i) v)):=by
    rw[addr_add,run_store P w _ v _ (h1 v (by simp)),hcell];simp[ag4,setCell_eq_setRow w g (o+i) cur t fr v hg]
   have ih:=cv g o t fr rest (i+1) (cur.setIfInBounds (o+i) v) (w.setRow g (cur.setIfInBounds (o+i) v)) (setRow_heap w g cur _ t _ hg) (Ls.same (by simp)) (by simp at hl⊢;omega) (fun x hx=>h1 x (by simp[hx]));simp only[storeCells,Sem.run_bind,hst,Result.andThen_ok,ih,setRow_setRow]
   congr 3
   have e:=list_seg_step cur.toList (o+i) v rest (by simp at hl⊢;omega);simpa [splice,adm,AR] using e
theorem cell_of_heap{w:World}{g:Nat}{cur:Array Value}{t:TypeId}{fr:Nat×Nat}(hg:w.heap[g]?=some (.cells cur t fr))(j:Nat):w.cell? ⟨g,j,none⟩=cur[j]?:=by
 simp[World.cell?,hg]
theorem CN{w:World}{g off n:Nat}{cur:Array Value}{t:TypeId}{fr:Nat×Nat}(hg:w.heap[g]?=some (.cells cur t fr))(h:off+n≤cur.size) :
  (loadCells ⟨g,off,none⟩ n).run P w=.ok ((cur.toList.drop off).take n).toArray w:=by
 have hl:((cur.toList.drop off).take n).length=n:=by simp;omega
 have:=run_loadCells_list (P:=P) w ⟨g,off,none⟩ ((cur.toList.drop off).take n) (fun j v hv=>by
  rw[addr_add,cell_of_heap hg];rw[uo] at hv;split at hv
  ·rw[ni] at hv;simpa using hv
  ·cases hv)
 rwa [hl] at this
theorem Hg{w:World}{I:Nat→Nat→Prop}{g off:Nat}{cs:List Value}(h:EW w I g off cs):(loadCells ⟨g,off,none⟩ cs.length).run P w=.ok cs.toArray w :=
 run_loadCells_list (P:=P) w ⟨g,off,none⟩ cs (fun j v hv=>by rw[addr_add];exact(h j v hv).1)
end
end Go.Ge
namespace Go.Ge
theorem gK{a b:Nat}(h:a≠b):Nat.beq a b=false:=by
 cases hb:Nat.beq a b
 ·rfl
 ·exact absurd (fu hb) h
theorem ZE(a:Act)(d t:Nat)(v:Value)(hd:d<a.tmps.size):(a.put (some d) v).tmps.getD t undef=if t=d then v else a.tmps.getD t undef:=by
 simp only[Act.put,YR,YZ];by_cases h:d=t
 ·subst h;simp[hd]
 ·rw[bH h,bH (fun e=>h e.symm)]
theorem R7(a:Act)(d:Option Nat)(v:Value):(a.put d v).tmps.size=a.tmps.size:=by cases d<;>simp[Act.put]
theorem put_defers(a:Act)(d:Option Nat)(v:Value):(a.put d v).defers=a.defers:=by cases d<;>rfl
section
variable {B:qq} {N:Nat} {γ γ':Gh} {σ:St} {a:Act} {w w':World} {mem':Nat→Option bE}
theorem cF.step(h:cF B N γ σ a w)(hx:Ext B γ σ.mem w γ' mem' w')(hm:bp B γ' mem' w'){d:Nat}(hd:d<N){v:aO}{val:Value}(hv:b6 γ' mem' w' v .val [val]) :
  cF B N γ' ({ slots:=σ.slots,mem:=mem':St }.put d v) (a.put (some d) val) w' where
 slots:=fun t=>by
  rw[ZE a d t val (by rw[h.size];exact hd)];simp only[St.put];by_cases e:t=d
  ·subst e;simpa using hv
  ·rw[bH e,gK e];exact(h.slots t).ext hx
 size:=by rw[R7];exact h.size
 defers:=by rw[put_defers];exact h.defers
 ok:=hm
theorem cF.go(h:cF B N γ σ a w)(hx:Ext B γ σ.mem w γ' mem' w')(hm:bp B γ' mem' w'):cF B N γ' { slots:=σ.slots,mem:=mem' } a w' where
 slots:=fun t=>(h.slots t).ext hx
 size:=h.size
 defers:=h.defers
 ok:=hm
theorem cF.aP(h:cF B N γ σ a w)(hx:Ext B γ σ.mem w γ' mem' w')(hm:bp B γ' mem' w'){d:Option Nat}(hd:∀k,d=some k→k<N){v:aO}{val:Value}(hv:b6 γ' mem' w' v .val [val]) :
  cF B N γ' ({ slots:=σ.slots,mem:=mem':St }.aP d v) (a.put d val) w':=by
 cases d with
 | none=>exact h.go hx hm
 | some d=>exact h.step hx hm (hd d rfl) hv
theorem cF.ve(h:cF B N γ σ a w){d:Option Nat}(hd:∀k,d=some k→k<N){v:aO}{val:Value}(hv:b6 γ σ.mem w v .val [val]) :
 cF B N γ (σ.aP d v) (a.put d val) w:=h.aP (Ext.refl _ _ _ _) h.ok hd hv
end
theorem dA{γ:Gh}{mem:Nat→Option bE}{w:World}{t:Ty}{x:t.den}{v:Value}:b6 γ mem w (.data t x) .val [v]↔∃cs,bt w γ.I t x cs∧v=bR t cs:=by
 simp only[b6,List.cons.injEq,and_true]
theorem Xq(γ:Gh)(mem:Nat→Option bE)(w:World)(v:Value):b6 γ mem w (Ld v) .val [v]:=by
 unfold Ld;split
 ·rename_i k n;cases hc:(decide (k.min≤n)&&decide (n≤k.max))
  ·exact⟨_,rfl⟩
  ·simp only[dW,zf] at hc;exact⟨[.int k n],⟨rfl,hc.1,hc.2⟩,rfl⟩
 ·rename_i b;exact⟨[.bool b],rfl,rfl⟩
 ·rename_i s;cases hc:Nat.ble s.data.toList.length 4294967296
  ·exact⟨_,rfl⟩
  ·refine⟨[.string s],⟨?_,?_⟩,rfl⟩
   ·obtain⟨⟨l⟩⟩:=s;rfl
   ·have:=JB hc;simp only[maxLen];omega
 ·rfl
 ·rfl
 ·rfl
 ·exact⟨_,rfl⟩
theorem cF.cc{B:qq}{N:Nat}{γ:Gh}{σ:St}{a:Act}{w:World}(h:cF B N γ σ a w)(x:Operand):b6 γ σ.mem w (cc σ x) .val [a.eval x]:=by
 cases x with
 | tmp t=>exact h.slots t
 | const v=>exact Xq _ _ _ v
 | global g=>exact⟨_,rfl⟩
 | func f=>exact⟨#[],rfl,rfl,fun i b aA hc=>by simp at hc⟩
theorem b6.mC{γ:Gh}{mem:Nat→Option bE}{w:World}{v:aO}{x:Value}(h:b6 γ mem w v .val [x])(hv:∀u,v≠.D1 u)(h0:v=.undef→x.oneCell'=true):b6 γ mem w v .cells x.cells.toList:=by
 cases v with
 | undef=>exact⟨x,by cases x<;>first|rfl|(have:=h0 rfl;simp[Value.oneCell'] at this),h0 rfl⟩
 | data t y=>obtain⟨cs,h1,h2⟩:=dA.1 h;subst h2;show bt _ _ _ _ _;rw[rC h1];exact h1
 | nr=>obtain rfl:x=_:=by simpa [b6] using h
       rfl
 | qL=>obtain rfl:x=_:=by simpa [b6] using h
       rfl
 | sg=>obtain rfl:x=_:=by simpa [b6] using h
       rfl
 | vY b aA=>obtain⟨⟨v,h1,h2⟩,h3⟩:=h;simp at h1;subst h1;refine⟨⟨x,?_,h2⟩,?_⟩
            ·cases x<;>first|rfl|(simp[Value.oneCell'] at h2)
            ·obtain⟨bx,k1,k2,k3⟩:=h3;exact⟨bx,k1,k2,fun e=>by
              obtain⟨blk,cap,j1,j2⟩:=k3 e;refine⟨blk,cap,j1,?_⟩;rcases j2 with j2|j2
              ·simp at j2;subst j2;exact .inl rfl
              ·simp at j2;subst j2;exact .inr rfl⟩
 | cell t y=>obtain⟨blk,off,cs,h1,h2,h3⟩:=h;simp at h1;subst h1;exact⟨blk,off,cs,rfl,h2,h3⟩
 | ptr b aA p=>obtain⟨⟨v,h1,h2⟩,h3⟩:=h;simp at h1;subst h1;refine⟨⟨x,?_,h2⟩,?_⟩
               ·cases x<;>first|rfl|(simp[Value.oneCell'] at h2)
               ·obtain⟨bx,k1,k2,k3⟩:=h3;exact⟨bx,k1,k2,fun e=>by obtain⟨blk,cap,j1,j2⟩:=k3 e;simp at j2;subst j2;exact⟨blk,cap,j1,rfl⟩⟩
 | whole b aA=>obtain⟨⟨v,h1,h2⟩,h3⟩:=h;simp at h1;subst h1;refine⟨⟨x,?_,h2⟩,?_⟩
               ·cases x<;>first|rfl|(simp[Value.oneCell'] at h2)
               ·obtain⟨bx,k1,k2,k3⟩:=h3;exact⟨bx,k1,k2,fun e=>by
                 obtain⟨u,n,j1,j2,j3⟩:=k3 e;refine⟨u,n,j1,j2,?_⟩;rcases j3 with ⟨j3,j4⟩|⟨blk,cap,j3,j4⟩
                 ·simp at j4;subst j4;exact .inl ⟨j3,rfl⟩
                 ·simp at j4;subst j4;exact .inr ⟨blk,cap,j3,rfl⟩⟩
 | part b aA lo n=>obtain⟨⟨v,h1,h2⟩,h3⟩:=h;simp at h1;subst h1;refine⟨⟨x,?_,h2⟩,?_⟩
                   ·cases x<;>first|rfl|(simp[Value.oneCell'] at h2)
                   ·obtain⟨bx,k1,k2,k3⟩:=h3;exact⟨bx,k1,k2,fun e=>by
                     obtain⟨u,k,j1,j2,j3,j4,base,cap,j5,j6⟩:=k3 e;simp at j5;subst j5;exact⟨u,k,j1,j2,j3,j4,base,cap,rfl,j6⟩⟩
 | win b aA q e k lo n=>obtain⟨⟨v,h1,h2⟩,h3⟩:=h;simp at h1;subst h1;refine⟨⟨x,?_,h2⟩,?_⟩
                        ·cases x<;>first|rfl|(simp[Value.oneCell'] at h2)
                        ·obtain⟨bx,k1,k2,k3⟩:=h3;exact⟨bx,k1,k2,fun e=>by
                          obtain⟨j0,u,c,j1,j2,j3,j4,base,cap,j5,j6⟩:=k3 e;simp at j5;subst j5;exact⟨j0,u,c,j1,j2,j3,j4,base,cap,rfl,j6⟩⟩
 | fn f caps=>obtain⟨arr,h1,h2⟩:=h;simp at h1;subst h1;exact⟨arr,rfl,h2⟩
 | mix p q=>obtain⟨c1,c2,h1,h2,h3⟩:=h;simp at h1;subst h1;exact⟨c1,c2,by simp[Value.cells],h2,h3⟩
 | D1 u=>exact absurd rfl (hv u)
 | nl=>exact h.elim
theorem b6.length{γ:Gh}{mem:Nat→Option bE}{w:World}:∀{v:aO} {cs:List Value},b6 γ mem w v .cells cs→cs.length=cD v:=by
 intro v;induction v with
 | data t x=>intro cs h;exact bt.length h
 | mix a b jm lG=>intro cs h;obtain⟨c1,c2,rfl,h1,h2⟩:=h;rw[uV,jm h1,lG h2];rfl
 | undef=>intro cs h;obtain⟨v,rfl,_⟩:=h;rfl
 | nr=>intro cs h;rw[show cs=_ from h];rfl
 | qL=>intro cs h;rw[show cs=_ from h];rfl
 | sg=>intro cs h;rw[show cs=_ from h];rfl
 | vY b aA=>intro cs h;obtain⟨⟨_,rfl,_⟩,_⟩:=h;rfl
 | cell t x=>intro cs h;obtain⟨_,_,_,rfl,_⟩:=h;rfl
 | ptr b aA p=>intro cs h;obtain⟨⟨_,rfl,_⟩,_⟩:=h;rfl
 | whole b aA=>intro cs h;obtain⟨⟨_,rfl,_⟩,_⟩:=h;rfl
 | part b aA lo n=>intro cs h;obtain⟨⟨_,rfl,_⟩,_⟩:=h;rfl
 | win b aA q e k lo n=>intro cs h;obtain⟨⟨_,rfl,_⟩,_⟩:=h;rfl
 | fn f caps=>intro cs h;obtain⟨_,rfl,_⟩:=h;rfl
 | D1 u ih=>intro cs h;exact h.elim
 | nl=>intro cs h;exact h.elim
theorem b6.one{γ:Gh}{mem:Nat→Option bE}{w:World}:∀{v:aO} {cs:List Value},b6 γ mem w v .cells cs→∀c∈cs,c.oneCell'=true:=by
 intro v;induction v with
 | data t x=>intro cs h;exact bt.one h
 | mix a b jm lG =>
   intro cs h c hc;obtain⟨c1,c2,rfl,h1,h2⟩:=h;rcases List.mem_append.1 hc with hc|hc
   ·exact jm h1 c hc
   ·exact lG h2 c hc
 | undef=>intro cs h c hc;obtain⟨v,rfl,h1⟩:=h;simp at hc;subst hc;exact h1
 | nr=>intro cs h c hc;rw[show cs=_ from h] at hc;simp at hc;subst hc;rfl
 | qL=>intro cs h c hc;rw[show cs=_ from h] at hc;simp at hc;subst hc;rfl
 | sg=>intro cs h c hc;rw[show cs=_ from h] at hc;simp at hc;subst hc;rfl
 | vY b aA=>intro cs h c hc;obtain⟨⟨_,rfl,h1⟩,_⟩:=h;simp at hc;subst hc;exact h1
 | cell t x=>intro cs h c hc;obtain⟨_,_,_,rfl,_⟩:=h;simp at hc;subst hc;rfl
 | ptr b aA p=>intro cs h c hc;obtain⟨⟨_,rfl,h1⟩,_⟩:=h;simp at hc;subst hc;exact h1
 | whole b aA=>intro cs h c hc;obtain⟨⟨_,rfl,h1⟩,_⟩:=h;simp at hc;subst hc;exact h1
 | part b aA lo n=>intro cs h c hc;obtain⟨⟨_,rfl,h1⟩,_⟩:=h;simp at hc;subst hc;exact h1
 | win b aA q e k lo n=>intro cs h c hc;obtain⟨⟨_,rfl,h1⟩,_⟩:=h;simp at hc;subst hc;exact h1
 | fn f caps=>intro cs h c hc;obtain⟨_,rfl,_⟩:=h;simp at hc;subst hc;rfl
 | D1 u ih=>intro cs h;exact h.elim
 | nl=>intro cs h;exact h.elim
theorem si{α:Type}{l:List α}{i:Int}{x:α}(h:idx l i=some x):0≤i∧l[i.toNat]?=some x:=by
 unfold idx at h;split at h
 ·rename_i h0;exact⟨h0,h⟩
 ·cases h
theorem D4{w:World}{I:Nat→Nat→Prop}:∀{t:Ty} {x:t.den} {cs:List Value} {k o:Nat} {u:aO},bt w I t x cs→oq t x k=some (o,u) →
  ∃(t':Ty) (y:t'.den),u=.data t' y∧uX t k=some t'∧ja t k=some o∧o+t'.size≤cs.length∧bt w I t' y ((cs.drop o).take t'.size):=by
 intro t;induction t with
 | pair a b jm lG =>
   intro x cs k o u h hk;obtain⟨c1,c2,rfl,h1,h2⟩:=h;cases k with
   | zero =>
     simp only[oq,uq,PE] at hk;obtain⟨rfl,rfl⟩:=hk;refine⟨a,x.1,rfl,rfl,rfl,by rw[uV,h1.length];omega,?_⟩;rw[RQ,←h1.length,OV];exact h1
   | succ k =>
     simp only[oq] at hk;cases hf:oq b x.2 k with
     | none=>rw[hf] at hk;cases hk
     | some r =>
       rw[hf] at hk;simp only[uq,PE] at hk;obtain⟨rfl,rfl⟩:=hk;obtain⟨t',y,k1,k2,k3,k4,k5⟩:=lG h2 (show oq b x.2 k=some (r.1,r.2) from hf);refine⟨t',y,k1,k2,by simp[ja,k3],by rw[uV,h1.length];omega,?_⟩;rw[←h1.length,←ye,CL];exact k5
 | _=>intro x cs k o u h hk;cases k<;>simp[oq] at hk
theorem Hh{γ:Gh}{mem:Nat→Option bE}{w:World}:∀{v:aO} {cs:List Value} {k o:Nat} {u:aO},b6 γ mem w v .cells cs→lH v k=some (o,u) →
  o+cD u≤cs.length∧b6 γ mem w u .cells ((cs.drop o).take (cD u)):=by
 intro v;induction v with
 | data t x =>
   intro cs k o u h hk;obtain⟨t',y,rfl,_,_,h1,h2⟩:=D4 (w:=w) h hk;exact⟨h1,h2⟩
 | mix a b jm lG =>
   intro cs k o u h hk;obtain⟨c1,c2,rfl,h1,h2⟩:=h;cases k with
   | zero =>
     simp only[lH,uq,PE] at hk;obtain⟨rfl,rfl⟩:=hk;refine⟨by rw[uV,h1.length];omega,?_⟩;rw[RQ,←h1.length,OV];exact h1
   | succ k =>
     simp only[lH] at hk;cases hf:lH b k with
     | none=>rw[hf] at hk;cases hk
     | some r =>
       rw[hf] at hk;simp only[uq,PE] at hk;obtain⟨rfl,rfl⟩:=hk;obtain⟨k4,k5⟩:=lG h2 (show lH b k=some (r.1,r.2) from hf);refine⟨by rw[uV,h1.length];omega,?_⟩;rw[←h1.length,←ye,CL];exact k5
 | _=>intro cs k o u h hk;cases k<;>simp[lH] at hk
theorem KU{γ:Gh}{mem:Nat→Option bE}{w:World}{t:Ty}{v:aO}{z:t.den}{es:List Value}(h:toS t v=some z)(hv:b6 γ mem w v .cells es):bt w γ.I t z es:=by
 cases v with
 | data u y =>
   obtain⟨e,e2⟩:=Ty.jU (show Ty.to u t y=some z from h);subst e;subst e2;exact hv
 | _=>cases h
theorem bind_some{α β:Type}{t:Tree α}{f:α→Tree β}{y:β}(h:(t.bind f).run=some y):∃x,t.run=some x∧(f x).run=some y:=by
 rw[Tree.run_bind] at h;exact Option.bind_eq_some_iff.1 h
theorem bS{T α:Type}{o:Option T}{k:T→Tree α}{y:α}(h:(Tree.look o k).run=some y):∃x,o=some x∧(k x).run=some y:=by
 cases o with
 | none=>cases h
 | some x=>exact⟨x,rfl,h⟩
theorem bY{α:Type}{c:Bool}{t:Tree α}{y:α}(h:(Tree.need c t).run=some y):c=true∧t.run=some y:=by
 cases c with
 | false=>cases h
 | true=>exact⟨rfl,h⟩
theorem aB{α:Type}{c:Bool}{t:Tree α}{y:α}(h:(bif c then t else .fail).run=some y):c=true∧t.run=some y:=by
 cases c with
 | false=>cases h
 | true=>exact⟨rfl,h⟩
theorem fL{α:Type}{c:Bool}{t e:Tree α}{y:α}(h:(Tree.node c t e).run=some y):(bif c then t else e).run=some y:=by
 cases c<;>exact h
section
variable {γ:Gh} {mem:Nat→Option bE} {w:World}
theorem R8:∀{t:Ty} {x:t.den} {cs:List Value} {k o:Nat} {u:aO} {y:t.den} {f:aO→Tree aO} {es:List Value},
  bt w γ.I t x cs→oq t x k=some (o,u)→(∀v,(f u).run=some v→b6 γ mem w v .cells es)→(KI t x k f).run=some y→es.length=cD u →
  bt w γ.I t y (splice cs o es):=by
 intro t;induction t with
 | pair a b jm lG =>
   intro x cs k o u y f es h hk hf hs hl;obtain⟨c1,c2,rfl,h1,h2⟩:=h;cases k with
   | zero =>
     simp only[oq,uq,PE] at hk;obtain⟨rfl,rfl⟩:=hk;obtain⟨v,hf',hs⟩:=bind_some hs;have he:=hf v hf';cases hv:toS a v with
     | none=>rw[hv] at hs;cases hs
     | some z =>
       rw[hv] at hs;obtain rfl:=aG hs;simp only[cD] at hl;refine⟨es,c2,?_,KU hv he,h2⟩;simp only[splice,Uq,Up,uW];rw[show es.length=c1.length by rw[hl,h1.length],CL]
   | succ k =>
     simp only[oq] at hk;cases hfd:oq b x.2 k with
     | none=>rw[hfd] at hk;cases hk
     | some r =>
       rw[hfd] at hk;simp only[uq,PE] at hk;obtain⟨rfl,rfl⟩:=hk;obtain⟨z,hq,hs⟩:=bind_some hs;obtain rfl:=aG hs;have:=lG h2 (show oq b x.2 k=some (r.1,r.2) from hfd) hf hq hl;refine⟨c1,splice c2 r.1 es,?_,h1,this⟩;simp only[splice,←h1.length,abR,qm]
       congr 1;congr 1;congr 1
       rw[AR,←ye,CL]
 | _=>intro x cs k o u y f es h hk;cases k<;>simp[oq] at hk
theorem Lt:∀{v0:aO} {cs:List Value} {k o:Nat} {u c:aO} {f:aO→Tree aO} {es:List Value},
  b6 γ mem w v0 .cells cs→lH v0 k=some (o,u)→(∀v,(f u).run=some v→b6 γ mem w v .cells es)→(G2 v0 k f).run=some c→es.length=cD u →
  b6 γ mem w c .cells (splice cs o es):=by
 intro v0;induction v0 with
 | data t x =>
   intro cs k o u c f es h hk hf hs hl;obtain⟨y,hy,hs⟩:=bind_some hs;obtain rfl:=aG hs;exact R8 h hk hf hy hl
 | mix a b jm lG =>
   intro cs k o u c f es h hk hf hs hl;obtain⟨c1,c2,rfl,h1,h2⟩:=h;cases k with
   | zero =>
     simp only[lH,uq,PE] at hk;obtain⟨rfl,rfl⟩:=hk;obtain⟨v,hf',hs⟩:=bind_some hs;have he:=hf v hf';obtain rfl:=aG hs;refine⟨es,c2,?_,he,h2⟩;simp only[splice,Uq,Up,uW];rw[show es.length=c1.length by rw[hl,h1.length],CL]
   | succ k =>
     simp only[lH] at hk;cases hfd:lH b k with
     | none=>rw[hfd] at hk;cases hk
     | some r =>
       rw[hfd] at hk;simp only[uq,PE] at hk;obtain⟨rfl,rfl⟩:=hk;obtain⟨z,hq,hs⟩:=bind_some hs;obtain rfl:=aG hs;have:=lG h2 (show lH b k=some (r.1,r.2) from hfd) hf hq hl;refine⟨c1,splice c2 r.1 es,?_,h1,this⟩;simp only[splice,←h1.length,abR,qm]
       congr 1;congr 1;congr 1
       rw[AR,←ye,CL]
 | _=>intro cs k o u c f es h hk;cases k<;>simp[lH] at hk
theorem v8:∀{p:List D0} {v u:aO} {cs:List Value},b6 γ mem w v .cells cs→(Xk p v).run=some u→ck p+cD u≤cs.length∧b6 γ mem w u .cells ((cs.drop (ck p)).take (cD u)):=by
 intro p;induction p with
 | nil =>
   intro v u cs h hn;obtain rfl:=aG hn;have hl:=h.length;refine⟨by simp[ck];omega,?_⟩;rw[show ck []=0 from rfl,RQ,←hl,RJ];exact h
 | cons s p ih =>
   intro v u cs h hn;cases s with
   | GX k off =>
     simp only[Xk] at hn;cases hf:lH v k with
     | none=>rw[hf] at hn;cases hn
     | some r =>
       rw[hf] at hn;obtain⟨hb,hn2⟩:=aB hn;have hoff:=fu hb;obtain⟨h1,h2⟩:=Hh h (show lH v k=some (r.1,r.2) from hf);obtain⟨h3,h4⟩:=ih h2 hn2;have hl:=h2.length;simp only[ck,←hoff];rw[hl] at h3;refine⟨by omega,?_⟩;rw[Wm,RM,ye,sV (by omega)] at h4;exact h4
   | idx i size =>
     simp only[Xk] at hn;split at hn
     ·rename_i n e l;obtain⟨hb,hn2⟩:=aB hn;have hsz:=fu hb;obtain⟨x,hx,hn3⟩:=bS hn2;obtain⟨h0,hx2⟩:=si hx;obtain⟨k1,k2,k3⟩:=h;have hr:=k3 _ x hx2;obtain⟨h3,h4⟩:=ih (v:=.data e x) (show b6 γ mem w (.data e x) .cells _ from hr) hn3;have hl:=hr.length;have hi:i.toNat<n:=by have:=(List.getElem?_eq_some_iff.1 hx2).1;omega
      have hm:(i.toNat+1)*e.size≤n*e.size:=sS _ hi;rw[A3] at hm;rw[hl] at h3;simp only[ck,hsz];refine⟨by omega,?_⟩;rw[Wm,RM,ye,sV (by omega)] at h4;exact h4
     ·cases hn
theorem rD(cs:List Value)(a b:Nat)(n:Nat)(es:List Value)(h:b+es.length≤n)(hn:a+n≤cs.length) :
  splice cs a (splice ((cs.drop a).take n) b es)=splice cs (a+b) es:=by
 have hl:((cs.drop a).take n).length=n:=by simp;omega
 have hls:(splice ((cs.drop a).take n) b es).length=n:=by rw[bA (by omega),hl]
 have e1:splice cs a (splice ((cs.drop a).take n) b es)=cs.take a++splice ((cs.drop a).take n) b es++cs.drop (a+n):=by
  rw[splice,hls]
 rw[e1];simp only[splice,qm];rw[RM,sV (by omega),←qm,←List.take_add]
 congr 1;congr 1
 have:cs.drop (a+n)=(cs.drop a).drop n:=by rw[ye]
 rw[this,←RE (by rw[hl];exact h),RG,ye,AR]
theorem Lu{I:Nat→Nat→Prop}{e:Ty}{n:Nat}{l:List e.den}{cs es:List Value}{i:Nat}{y:e.den}(hl:l.length=n)(hc:n*e.size≤cs.length)
  (h:∀(j:Nat) (x:e.den),l[j]?=some x→bt w I e x ((cs.drop (j*e.size)).take e.size)) (hi:i<n) (hy:bt w I e y es) :
  ∀(j:Nat) (x:e.den),(l.set i y)[j]?=some x→bt w I e x (((splice cs (i*e.size) es).drop (j*e.size)).take e.size):=by
 intro j x hx;have hel:=hy.length;have hm:(i+1)*e.size≤n*e.size:=sS _ hi;rw[A3] at hm;have htl:(cs.take (i*e.size)).length=i*e.size:=by rw[o6];omega
 rw[Wj] at hx;split at hx
 ·rename_i hij;subst hij;split at hx
  ·obtain rfl:=aG hx;have:((splice cs (i*e.size) es).drop (i*e.size)).take e.size=es:=by
    rw[splice,qm]
    conv=>lhs;arg 2;arg 1;rw[←htl]
    rw[htl,List.drop_left' htl,←hel,OV]
   rw[this];exact hy
  ·cases hx
 ·rename_i hij;have hj:j<n:=by have:=(List.getElem?_eq_some_iff.1 hx).1;omega
  have hmj:(j+1)*e.size≤n*e.size:=sS _ hj;rw[A3] at hmj;have key:((splice cs (i*e.size) es).drop (j*e.size)).take e.size=(cs.drop (j*e.size)).take e.size:=by
   apply NA;intro q;rw[uo,uo];split
   ·rename_i hq;rw[ni,ni,splice];rcases yg j i with h1|h1
    ·have:(j+1)*e.size≤i*e.size:=sS _ h1;rw[A3] at this;rw[qm,Um (by omega),uo,bG (by omega)]
    ·have:(i+1)*e.size≤j*e.size:=sS _ (by omega);rw[A3] at this;rw[Y0 (by rw[uV];omega),ni,uV,htl]
     congr 1;omega
   ·rfl
  rw[key];exact h j x hx
theorem zo:∀{p:List D0} {v u0 u c:aO} {cs es:List Value},b6 γ mem w v .cells cs→(Xk p v).run=some u0→(xd p v u).run=some c→b6 γ mem w u .cells es→es.length=cD u0 →
  b6 γ mem w c .cells (splice cs (ck p) es):=by
 intro p;induction p with
 | nil =>
   intro v u0 u c cs es h hn hs he hl;obtain rfl:=aG hn;obtain rfl:=aG hs;have:=h.length;simp only[ck,splice,Uq,Up,uW];rw[Xf (by omega),G0];exact he
 | cons s p ih =>
   intro v u0 u c cs es h hn hs he hl;cases s with
   | GX k off =>
     simp only[Xk] at hn;cases hf:lH v k with
     | none=>rw[hf] at hn;cases hn
     | some r =>
       rw[hf] at hn;obtain⟨hb,hn2⟩:=aB hn;have hoff:=fu hb;obtain⟨h1,h2⟩:=Hh h (show lH v k=some (r.1,r.2) from hf);obtain⟨h3,h4⟩:=v8 h2 hn2;have KP:=h2.length;rw[KP] at h3;have:=Lt (f:=fun w=>xd p w u) h (show lH v k=some (r.1,r.2) from hf) (fun z hq=>ih (u:=u) h2 hn2 hq he hl) hs (by rw[bA (by rw[KP,hl];exact h3),KP]);rw[rD cs r.1 (ck p) (cD r.2) es (by omega) h1,hoff] at this;exact this
   | idx i size =>
     simp only[Xk] at hn;split at hn
     ·rename_i n e l;obtain⟨hb,hn2⟩:=aB hn;have hsz:=fu hb;obtain⟨x,hx,hn3⟩:=bS hn2;simp only[xd] at hs;obtain⟨x',hx',hs2⟩:=bS hs;obtain rfl:x=x':=aG (hx.symm.trans hx');obtain⟨z,hq,hs3⟩:=bind_some hs2;cases hz:toS e z with
      | none=>rw[hz] at hs3;cases hs3
      | some y =>
        rw[hz] at hs3;obtain rfl:=aG hs3;obtain⟨h0,hx2⟩:=si hx;obtain⟨k1,k2,k3⟩:=h;have hr:=k3 _ x hx2;have hi:i.toNat<n:=by have:=(List.getElem?_eq_some_iff.1 hx2).1;omega
        have hm:(i.toNat+1)*e.size≤n*e.size:=sS _ hi;rw[A3] at hm;have hrr:b6 γ mem w (.data e x) .cells ((cs.drop (i.toNat*e.size)).take e.size):=hr;obtain⟨h3,h4⟩:=v8 hrr hn3;have hrl:=hr.length;rw[hrl] at h3;have hzz:=KU hz (ih hrr hn3 hq he hl);have YH:(splice ((cs.drop (i.toNat*e.size)).take e.size) (ck p) es).length=e.size:=by rw[bA (by rw[hrl,hl];exact h3),hrl]
        have e1:=rD cs (i.toNat*e.size) (ck p) e.size es (by omega) (by omega);simp only[ck,hsz];rw[←e1];refine⟨?_,?_,?_⟩
        ·exact(@List.length_set _ (l:List e.den) _ _).trans k1
        ·rw[bA (by omega)];exact k2
        ·exact Lu k1 (by omega) k3 hi hzz
     ·cases hn
end
end Go.Ge
namespace Go.Ge
open RowKit
section
variable {B:qq} {γ γ':Gh} {mem mem':Nat→Option bE} {w w':World}
theorem cr.keep{c:Nat}{bx:bE}(h:cr γ mem w c bx)(hx:Ext B γ mem w γ' mem' w')(hl:γ'.loc c=γ.loc c)
  (hb:∀blk k,γ.loc c=some (blk,k)→w'.heap[blk]?=w.heap[blk]?):cr γ' mem' w' c bx:=by
 unfold cr at h⊢;cases bu:bx.buf with
 | true =>
   rw[bu] at h;obtain⟨e,l,h1,h2,h3⟩:=h;refine⟨e,l,h1,h2,?_⟩;rcases h3 with ⟨h3,h4⟩|⟨blk,cap,cur,tid,fr,h3,h4,h5,gL,h6,h7,h8,h9⟩
   ·exact .inl ⟨hl.trans h3,h4⟩
   ·exact .inr ⟨blk,cap,cur,tid,fr,hl.trans h3,(hb _ _ h3).trans h4,h5,gL,h6,h7,h8,fun i x hi=>bt.mono hx.I hx.cells (h9 i x hi)⟩
 | false =>
   rw[bu] at h;obtain⟨blk,cap,cur,tid,fr,h3,h4,h5,hk,h6⟩:=h;exact⟨blk,cap,cur,tid,fr,hl.trans h3,(hb _ _ h3).trans h4,h5,hk,h6.ext hx⟩
theorem cH{a:Addr}(h:w'.heap[a.block]?=w.heap[a.block]?):w'.cell? a=w.cell? a:=by simp[World.cell?,h]
def bB(γ:Gh)(b:Nat)(L:Option (Nat×Nat)):Gh:={ γ with loc:=fun i=>if i=b then L else γ.loc i }
def cl(mem:Nat→Option bE)(b:Nat)(bx:bE):Nat→Option bE:=fun i=>bif Nat.beq i b then some bx else mem i
theorem bq(b:Nat)(bx:bE):cl mem b bx b=some bx:=by simp[cl]
theorem aM{b c:Nat}(bx:bE)(h:c≠b):cl mem b bx c=mem c:=by simp[cl,gK h]
theorem uw(h:bp B γ mem w){b:Nat}{bx:bE}{L:Option (Nat×Nat)}(bh:∀cQ,mem b=some cQ→cQ.aA<bx.aA)
  (hw:va B w w') (hold:∀k,k<w.heap.size→w'.heap[k]?=w.heap[k]?):Ext B γ mem w (bB γ b L) (cl mem b bx) w' where
 below:=hw
 I:=fun _ _ x=>x
 pE:=fun _ _ x=>.inl x
 cells:=fun blk o x=>cH (hold blk (h.tN blk o x))
 boxes:=fun c cx hc=>by
  by_cases e:c=b
  ·subst e;refine⟨bx,bq _ _,Zq (bh _ hc),fun e=>absurd e ?_⟩;have:=bh _ hc;omega
  ·exact⟨cx,by rw[aM _ e];exact hc,mq _,fun _=>⟨by simp[bB,e],rfl,rfl⟩⟩
theorem bp.add(h:bp B γ mem w){b:Nat}{bx:bE}{L:Option (Nat×Nat)}(bh:∀cQ,mem b=some cQ→cQ.aA<bx.aA)
  (hw:va B w w') (hold:∀k,k<w.heap.size→w'.heap[k]?=w.heap[k]?) (hL:∀blk k,L=some (blk,k)→w.heap.size≤blk∧blk<w'.heap.size)
  (ig:cr (bB γ b L) (cl mem b bx) w' b bx):bp B (bB γ b L) (cl mem b bx) w' where
 aH:=h.EX (uw (L:=L) h bh hw hold)
 base:=jl h.base hw.size
 boxes:=fun c cx hc=>by
  by_cases e:c=b
  ·subst e;rw[bq] at hc;obtain rfl:=aG hc;exact ig
  ·rw[aM _ e] at hc;refine(h.boxes c cx hc).keep (uw h bh hw hold) (by simp[bB,e]) fun blk k hl=>hold blk (h.fresh c blk k (by rw[hc];simp) hl).2
 inj:=fun c d blk k k' hc hd h1 h2=>by
  by_cases e:c=b
  ·by_cases e2:d=b
   ·rw[e,e2]
   ·exfalso;simp only[bB,bG e] at h1;simp only[bB,bH e2] at h2;rw[aM _ e2] at hd;have:=(h.fresh d blk k' hd h2).2;have:=(hL _ _ h1).1;omega
  ·by_cases e2:d=b
   ·exfalso;simp only[bB,bH e] at h1;simp only[bB,bG e2] at h2;rw[aM _ e] at hc;have:=(h.fresh c blk k hc h1).2;have:=(hL _ _ h2).1;omega
   ·simp only[bB,bH e] at h1;simp only[bB,bH e2] at h2;rw[aM _ e] at hc;rw[aM _ e2] at hd;exact h.inj c d blk k k' hc hd h1 h2
 fresh:=fun c blk k hc h1=>by
  by_cases e:c=b
  ·simp only[bB,bG e] at h1;obtain⟨h2,h3⟩:=hL _ _ h1;exact⟨.inl (by have:=h.base;omega),h3⟩
  ·simp only[bB,bH e] at h1;rw[aM _ e] at hc;have:=h.fresh c blk k hc h1;exact⟨this.1,DX this.2 hw.size⟩
 tN:=fun blk off hi=>DX (h.tN blk off hi) hw.size
 sep:=fun c cx blk k off hc h1 hi=>by
  by_cases e:c=b
  ·exfalso;simp only[bB,bG e] at h1;have:=(hL _ _ h1).1;have:=h.tN blk off hi;omega
  ·simp only[bB,bH e] at h1;rw[aM _ e] at hc;exact h.sep c cx blk k off hc h1 hi
theorem cu(w:World)(o:Obj):∀k,k<w.heap.size→(w.alloc o).heap[k]?=w.heap[k]?:=fun k hk=>Below.heap_alloc w o k hk
theorem sj(cs:Array Value):kU cs (0,0):=fun o _ h=>by omega
theorem yw(e:Ty)(cs:Array Value):ThB e cs (0,0):=⟨sj cs,fun _ h=>by omega⟩
theorem bp.newVar(h:bp B γ mem w){b:Nat}{v:aO}{tid:TypeId}{aA:Nat}(bh:∀cQ,mem b=some cQ→cQ.aA<aA){cs:Array Value}(t':TypeId)(gL:tid=0∨t'=tid)(hv:b6 γ mem w v .cells cs.toList) :
  let bx:bE:={ val:=v,tid,buf:=false,ro:=false,lk:=false,aA }
  bp B (bB γ b (some (w.heap.size,0))) (cl mem b bx) (w.alloc (.cells cs t'))∧Ext B γ mem w (bB γ b (some (w.heap.size,0))) (cl mem b bx) (w.alloc (.cells cs t')):=by
 intro bx;have hw:va B w (w.alloc (.cells cs t')):=(va.refl _ _).alloc h.base _;have hx:=uw (L:=some (w.heap.size,0)) h (bx:=bx) bh hw (cu w _);refine⟨h.add bh hw (cu w _) (fun blk k e=>by obtain⟨rfl,rfl⟩:=ec (aG e);exact⟨mq _,by simp⟩) ?_,hx⟩;exact⟨w.heap.size,0,cs,t',(0,0),by simp[bB],heap_alloc_new w _,sj cs,gL,hv.ext hx⟩
theorem bp.ZF(h:bp B γ mem w){b:Nat}{e:Ty}{l:List e.den}{tid:TypeId}{aA cap blk:Nat}(bh:∀cQ,mem b=some cQ→cQ.aA<aA){cs:Array Value}{t':TypeId}{fr:Nat×Nat}(he:0<e.size)
  (hw:va B w w') (hold:∀k,k<w.heap.size→w'.heap[k]?=w.heap[k]?) (hge:w.heap.size≤blk) (hnew:w'.heap[blk]?=some (.cells cs t' fr)) (Ls:ThB e cs fr) (gL:tid=0∨t'=tid)
  (h1:l.length≤cap) (h2:cap≤maxLen) (h3:cs.size=cap*e.size) (h4:∀(i:Nat) (x:e.den),l[i]?=some x→bt w' γ.I e x ((cs.toList.drop (i*e.size)).take e.size)) :
  let bx:bE:={ val:=.data (.slice e) l,tid,buf:=true,ro:=false,lk:=false,aA }
  bp B (bB γ b (some (blk,cap))) (cl mem b bx) w'∧Ext B γ mem w (bB γ b (some (blk,cap))) (cl mem b bx) w':=by
 intro bx;have hlt:blk<w'.heap.size:=(Array.getElem?_eq_some_iff.1 hnew).1;have hx:=uw (L:=some (blk,cap)) h (bx:=bx) bh hw hold;refine⟨h.add bh hw hold (fun c k q=>by obtain⟨rfl,rfl⟩:=ec (aG q);exact⟨hge,hlt⟩) ?_,hx⟩;exact⟨e,l,rfl,he,.inr ⟨blk,cap,cs,t',fr,by simp[bB],hnew,Ls,gL,h1,h2,h3,h4⟩⟩
theorem bp.PM(h:bp B γ mem w){b:Nat}{e:Ty}{l:List e.den}{tid:TypeId}{aA cap:Nat}(bh:∀cQ,mem b=some cQ→cQ.aA<aA){cs:Array Value}{t':TypeId}{fr:Nat×Nat}(he:0<e.size)
  (hw:va B w w') (hold:∀k,k<w.heap.size→w'.heap[k]?=w.heap[k]?) (hnew:w'.heap[w.heap.size]?=some (.cells cs t' fr)) (Ls:ThB e cs fr) (gL:tid=0∨t'=tid)
  (h1:l.length≤cap) (h2:cap≤maxLen) (h3:cs.size=cap*e.size) (h4:∀(i:Nat) (x:e.den),l[i]?=some x→bt w γ.I e x ((cs.toList.drop (i*e.size)).take e.size)) :
  let bx:bE:={ val:=.data (.slice e) l,tid,buf:=true,ro:=false,lk:=false,aA }
  bp B (bB γ b (some (w.heap.size,cap))) (cl mem b bx) w'∧Ext B γ mem w (bB γ b (some (w.heap.size,cap))) (cl mem b bx) w' :=
 h.ZF bh he hw hold (mq _) hnew Ls gL h1 h2 h3 fun i x hi =>
  bt.mono (fun _ _ q=>q) (fun blk o q=>cH (hold blk (h.tN blk o q))) (h4 i x hi)
theorem bp.Lv(h:bp B γ mem w){b:Nat}{e:Ty}{tid:TypeId}{aA:Nat}(bh:∀cQ,mem b=some cQ→cQ.aA<aA)(he:0<e.size) :
  let bx:bE:={ val:=.data (.slice e) ([]:List e.den),tid,buf:=true,ro:=false,lk:=false,aA }
  bp B (bB γ b none) (cl mem b bx) w∧Ext B γ mem w (bB γ b none) (cl mem b bx) w:=by
 intro bx;have hx:=uw (L:=none) h (bx:=bx) bh (va.refl B w) (fun _ _=>rfl);refine⟨h.add bh (va.refl B w) (fun _ _=>rfl) (fun blk k e=>by cases e) ?_,hx⟩;exact⟨e,[],rfl,he,.inl ⟨by simp[bB],rfl⟩⟩
theorem E0{bx:bE}{off:Nat}(h:Ux bx off)(hro:bx.ro=false):False:=by rw[Ux,hro] at h;exact absurd h.1 (by simp)
theorem bp.write(h:bp B γ mem w){b:Nat}{bx:bE}(hb:mem b=some bx)(hro:bx.ro=false){blk k:Nat}(hl:γ.loc b=some (blk,k)){cur cur':Array Value}{t:TypeId}{fr:Nat×Nat}
  (hg:w.heap[blk]?=some (.cells cur t fr)) (hs:cur'.size=cur.size) {v:aO} (hrow:({ bx with val:=v }:bE).row=bx.row)
  (ig:∀w' mem',Ext B γ mem w γ mem' w'→w'.heap[blk]?=some (.cells cur' t fr)→cr γ mem' w' b { bx with val:=v }) :
  bp B γ (cl mem b { bx with val:=v }) (w.setRow blk cur')∧Ext B γ mem w γ (cl mem b { bx with val:=v }) (w.setRow blk cur'):=by
 have hf:=h.fresh b blk k (by rw[hb];simp) hl;have hblk:=setRow_heap w blk cur cur' t fr hg;have xk:∀i,i≠blk→(w.setRow blk cur').heap[i]?=w.heap[i]?:=fun i hi=>setRow_other w blk i cur' (fun e=>hi e);have hx:Ext B γ mem w γ (cl mem b { bx with val:=v }) (w.setRow blk cur') :=
  { below:=⟨rfl,rfl,rfl,by simp,fun i hi=>xk i (fun e=>hi (by rw[e];exact hf.1))⟩
    I:=fun _ _ x=>x
    pE:=fun _ _ x=>.inl x
    cells:=fun c o x=>by
     by_cases e:c=blk
     ·subst e;exact(E0 (h.sep b bx c k o hb hl x) hro).elim
     ·exact cH (xk c e)
    boxes:=fun c cx hc=>by
     by_cases e:c=b
     ·subst e;obtain rfl:cx=bx:=aG (hc.symm.trans hb);exact⟨_,bq _ _,mq _,fun _=>⟨rfl,rfl,hrow⟩⟩
     ·exact⟨cx,by rw[aM _ e];exact hc,mq _,fun _=>⟨rfl,rfl,rfl⟩⟩ }
 refine⟨?_,hx⟩;exact
  { aH:=h.EX hx
    base:=by have:=h.base;simpa using this
    boxes:=fun c cx hc=>by
     by_cases e:c=b
     ·subst e;rw[bq] at hc;obtain rfl:=aG hc;exact ig _ _ hx hblk
     ·rw[aM _ e] at hc;refine(h.boxes c cx hc).keep hx rfl fun de k' hl'=>xk de fun e2=>e ?_;subst e2;exact h.inj c b de k' k (by rw[hc];simp) (by rw[hb];simp) hl' hl
    inj:=fun c d de k1 k2 hc hd h1 h2=>h.inj c d de k1 k2 (by
     by_cases e:c=b
     ·subst e;rw[hb];simp
     ·rwa [aM _ e] at hc) (by
     by_cases e:d=b
     ·subst e;rw[hb];simp
     ·rwa [aM _ e] at hd) h1 h2
    fresh:=fun c de k' hc h1=>by
     have:=h.fresh c de k' (by
      by_cases e:c=b
      ·subst e;rw[hb];simp
      ·rwa [aM _ e] at hc) h1
     exact⟨this.1,by simpa using this.2⟩
    tN:=fun de off hi=>by have:=h.tN de off hi;simpa using this
    sep:=fun c cx de k' off hc h1 hi=>by
     by_cases e:c=b
     ·subst e;rw[hl] at h1;obtain⟨rfl,rfl⟩:=ec (aG h1);exact(E0 (h.sep c bx blk k off hb hl hi) hro).elim
     ·rw[aM _ e] at hc;exact h.sep c cx de k' off hc h1 hi }
def Lw(γ:Gh)(b:Nat)(n:Nat):Gh:={ γ with I:=fun blk off=>γ.I blk off∨((∃k,γ.loc b=some (blk,k))∧off<n) }
theorem bp.freeze(h:bp B γ mem w){b:Nat}{bx:bE}(hb:mem b=some bx){e:Ty}{n:Nat}(hrow:bx.row=some (e,n)) :
  bp B (Lw γ b (n*e.size)) (cl mem b { bx with ro:=true }) w∧Ext B γ mem w (Lw γ b (n*e.size)) (cl mem b { bx with ro:=true }) w:=by
 have hx:Ext B γ mem w (Lw γ b (n*e.size)) (cl mem b { bx with ro:=true }) w :=
  { below:=va.refl _ _
    I:=fun _ _ x=>.inl x
    pE:=fun blk o x=>by
     rcases x with x|⟨⟨k,x⟩,_⟩
     ·exact .inl x
     ·exact .inr (h.fresh b blk k (by rw[hb];simp) x).1
    cells:=fun _ _ _=>rfl
    boxes:=fun c cx hc=>by
     by_cases e:c=b
     ·subst e;obtain rfl:cx=bx:=aG (hc.symm.trans hb);exact⟨_,bq _ _,mq _,fun _=>⟨rfl,rfl,rfl⟩⟩
     ·exact⟨cx,by rw[aM _ e];exact hc,mq _,fun _=>⟨rfl,rfl,rfl⟩⟩ }
 refine⟨?_,hx⟩;exact
  { aH:=h.EX hx
    base:=h.base
    boxes:=fun c cx hc=>by
     by_cases e:c=b
     ·subst e;rw[bq] at hc;obtain rfl:=aG hc;have:=(h.boxes c bx hb).keep hx rfl (fun _ _ _=>rfl);exact this
     ·rw[aM _ e] at hc;exact(h.boxes c cx hc).keep hx rfl (fun _ _ _=>rfl)
    inj:=fun c d de k1 k2 hc hd h1 h2=>h.inj c d de k1 k2 (by
     by_cases e:c=b
     ·subst e;rw[hb];simp
     ·rwa [aM _ e] at hc) (by
     by_cases e:d=b
     ·subst e;rw[hb];simp
     ·rwa [aM _ e] at hd) h1 h2
    fresh:=fun c de k' hc h1=>h.fresh c de k' (by
     by_cases e:c=b
     ·subst e;rw[hb];simp
     ·rwa [aM _ e] at hc) h1
    tN:=fun de off hi=>by
     rcases hi with hi|⟨⟨k,hk⟩,_⟩
     ·exact h.tN de off hi
     ·exact(h.fresh b de k (by rw[hb];simp) hk).2
    sep:=fun c cx de k' off hc h1 hi=>by
     by_cases e':c=b
     ·subst e';rw[bq] at hc;obtain rfl:=aG hc;rcases hi with hi|⟨⟨k,hk⟩,ho⟩
      ·obtain⟨a1,a2⟩:=h.sep c bx de k' off hb h1 hi;exact⟨rfl,a2⟩
      ·refine⟨rfl,fun _ u m hr=>?_⟩;have hr':bx.row=some (u,m):=hr;rw[hrow] at hr';obtain⟨rfl,rfl⟩:=ec (aG hr');exact ho
     ·rw[aM _ e'] at hc;rcases hi with hi|⟨⟨k,hk⟩,ho⟩
      ·exact h.sep c cx de k' off hc h1 hi
      ·exact absurd (h.inj c b de k' k (by rw[hc];simp) (by rw[hb];simp) h1 hk) e' }
end
end Go.Ge
namespace Go.Ge
open RowKit
def mV(P:Program)(B:qq)(N:Nat)(γ:Gh)(σ:St)(a:Act)(w:World)(d:Option Nat)(s:Sem Value)(σ':St):Prop :=
 ∃v w' γ',s.run P w=.ok v w'∧cF B N γ' σ' (a.put d v) w'∧Ext B γ σ.mem w γ' σ'.mem w'
section
variable {P:Program} {B:qq} {N:Nat} {γ:Gh} {σ σ':St} {a:Act} {w:World} {d:Option Nat}
theorem bC(h:cF B N γ σ a w)(hd:∀k,d=some k→k<N){s:Sem Value}{v:aO}{x:Value}(hs:s.run P w=.ok x w)(hv:b6 γ σ.mem w v .val [x]) :
  mV P B N γ σ a w d s (σ.aP d v) :=
 ⟨x,w,γ,hs,h.ve hd hv,by cases d<;>exact Ext.refl _ _ _ _⟩
theorem dI{β:Type}{b:Nat}{val:aO}{tid:TypeId}{buf:Bool}{k:Nat→St→Tree β}{y:β}(h:(σ.aL b val tid buf k).run=some y) :
  ∃aA,(∀cQ,σ.mem b=some cQ→cQ.aA<aA)∧(k aA (σ.bT b { val,tid,buf,ro:=false,lk:=false,aA })).run=some y:=by
 unfold St.aL at h;split at h
 ·rename_i bx hb;cases hl:bx.lk with
  | true=>rw[hl] at h;cases h
  | false =>
    rw[hl] at h;exact⟨bx.aA+1,(fun cQ h0=>by rw[hb] at h0;obtain rfl:=aG h0;omega),h⟩
 ·rename_i hb;exact⟨0,(fun cQ h0=>by rw[hb] at h0;cases h0),h⟩
theorem vf(σ:St)(b:Nat)(bx:bE):(σ.bT b bx).mem=cl σ.mem b bx:=rfl
theorem gC{mem:Nat→Option bE}{b aA:Nat}{bx:bE}(h:mem b=some bx)(hv:bx.aA=aA){K:bE→Prop}(hk:K bx):lJ mem b aA K :=
 ⟨bx,h,by omega,fun _=>hk⟩
theorem yx{cx:Ctx}(hc:eW P cx){nb:Nat}{bf:List Nat}{ty:TypeId}{x:Operand}(h:cF B N γ σ a w)(hd:∀k,d=some k→k<N)
  (hr:(jb cx nb bf d ty (cc σ x) σ).run=some σ'):mV P B N γ σ a w d (pure (a.eval x)) σ':=by
 have hv:=h.cc x;unfold jb at hr;split at hr
 ·rename_i hn;rw[hn] at hv;obtain⟨_,hr⟩:=aB hr;obtain rfl:=aG hr;exact bC h hd rfl hv
 ·rename_i hn;rw[hn] at hv;have hx:a.eval x=.slice none 0 0:=by simpa [b6] using hv
  split at hr
  ·rename_i k e hT;cases hb:cC bf k with
   | true =>
     rw[hb] at hr;simp only[fy] at hr;obtain⟨aA,bh,hr2⟩:=dI hr;obtain rfl:=aG hr2;obtain⟨eT,h1,h2,h3,h4⟩:=(hc.T _ _ hT).slice;obtain⟨m1,m2⟩:=h.ok.Lv (tid:=0) bh h4;refine⟨_,w,_,rfl,h.step m2 m1 (hd k rfl) ?_,m2⟩;rw[hx];exact⟨⟨_,rfl,rfl⟩,gC (bq _ _) rfl ⟨e,0,rfl,rfl,.inl ⟨by simp[bB],rfl⟩⟩⟩
   | false =>
     rw[hb] at hr;obtain rfl:=aG hr;exact bC (d:=some k) h hd rfl (by rw[hx];exact⟨_,.inl ⟨⟨none,rfl⟩,rfl⟩,rfl⟩)
  ·obtain rfl:=aG hr;exact bC h hd rfl (by rw[hx];rfl)
 ·obtain rfl:=aG hr;exact bC h hd rfl hv
theorem zp{b:Bool}{v:Value}(h:b6 γ σ.mem w (.data .bool b) .val [v]):v=.bool b:=by
 obtain⟨cs,h1,h2⟩:=dA.1 h;rw[h2,show cs=_ from h1];rfl
theorem sW{k:IntKind}{n:Int}{v:Value}(h:b6 γ σ.mem w (.data (.int k) n) .val [v]):v=.int k n∧k.min≤n∧n≤k.max:=by
 obtain⟨cs,h1,h2⟩:=dA.1 h;rw[h2,h1.1];exact⟨rfl,h1.2⟩
theorem xo{s:List UInt8}{v:Value}(h:b6 γ σ.mem w (.data .str s) .val [v]):v=.string ⟨s.toArray⟩∧s.length≤maxLen:=by
 obtain⟨cs,h1,h2⟩:=dA.1 h;rw[h2,h1.1];exact⟨rfl,h1.2⟩
theorem fU(b:Bool):b6 γ σ.mem w (.data .bool b) .val [.bool b]:=⟨_,rfl,rfl⟩
theorem mkInt{k:IntKind}{n:Int}(h:k.min≤n∧n≤k.max):b6 γ σ.mem w (.data (.int k) n) .val [.int k n]:=⟨_,⟨rfl,h.1,h.2⟩,rfl⟩
theorem mkStr{s:List UInt8}(h:s.length≤maxLen):b6 γ σ.mem w (.data .str s) .val [.string ⟨s.toArray⟩]:=⟨_,⟨rfl,h⟩,rfl⟩
theorem Lx{c x y:Operand}(h:cF B N γ σ a w)(hd:∀k,d=some k→k<N)(hr:(nu d (cc σ c) (cc σ x) (cc σ y) σ).run=some σ') :
  mV P B N γ σ a w d (do pure (if ←asBool (a.eval c) then a.eval x else a.eval y)) σ':=by
 have hc:=h.cc c;have hx:=h.cc x;have hy:=h.cc y;unfold nu at hr;split at hr
 ·rename_i cb hcb;rw[hcb] at hc;have hcv:a.eval c=.bool cb:=zp hc;have hrun:(do pure (if ←asBool (a.eval c) then a.eval x else a.eval y):Sem Value).run P w=.ok (if(show Bool from cb)=true then a.eval x else a.eval y) w:=by
   rw[hcv];cases cb<;>rfl
  split at hr
  ·rename_i t x1 u y1 hx1 hy1;rw[hx1] at hx;rw[hy1] at hy;split at hr
   ·rename_i y2 hy2;obtain rfl:=aG hr;obtain⟨e,e2⟩:=Ty.jU hy2;subst e;subst e2;refine bC h hd hrun ?_;cases cb
    ·exact hy
    ·exact hx
   ·cases hr
  ·have hr2:=fL hr;cases cb
   ·obtain rfl:=aG hr2;exact bC h hd hrun hy
   ·obtain rfl:=aG hr2;exact bC h hd hrun hx
 ·cases hr
theorem eR(k:IntKind)(n:Int):k.min≤k.wrap n∧k.wrap n≤k.max:=wrap_within k n
theorem ab3{k:IntKind}{x y:Int}(h:k.min≤x∧x≤k.max):k.min≤x.tmod y∧x.tmod y≤k.max:=by
 have hmin:k.min≤0:=by cases k<;>decide
 have hmax:0≤k.max:=by cases k<;>decide
 have hab:(x.tmod y).natAbs≤x.natAbs:=by
  rw[Int.natAbs_tmod];exact Nat.mod_le _ _
 rcases Int.le_total 0 x with h0|h0
 ·have:=Int.tmod_nonneg y h0;omega
 ·have:x.tmod y≤0:=by
   have:=Int.tmod_nonneg y (show 0≤-x by omega);rw[Int.neg_tmod] at this;omega
  omega
theorem ab4{k:IntKind}{x:Int}(n:Nat)(h:k.min≤x∧x≤k.max):k.min≤x.fdiv (2 ^ n)∧x.fdiv (2 ^ n)≤k.max:=by
 have hmin:k.min≤0:=by cases k<;>decide
 have hmax:0≤k.max:=by cases k<;>decide
 have hp:(0:Int)<2 ^ n:=Int.pow_pos (by decide);have e:x.fdiv (2 ^ n)=x / 2 ^ n:=adn _ (by omega);rw[e];rcases Int.le_total 0 x with h0|h0
 ·have h1:=Int.ediv_nonneg h0 (Int.le_of_lt hp);have h2:=Int.ediv_le_self (2 ^ n:Int) h0;omega
 ·have h2:x / 2 ^ n<1:=Int.ediv_lt_of_lt_mul hp (by omega);have h3:x≤x / 2 ^ n:=by
   rw[Int.le_ediv_iff_mul_le hp];have h1:(1:Int)≤2 ^ n:=hp;have:=Int.mul_le_mul_of_nonpos_left h0 h1;simpa using this
  omega
theorem PN{op:BinOp}{l:Bool}(h:EN op=some l):(op=.shl∧l=true)∨(op=.shr∧l=false):=by
 cases op<;>simp[EN] at h<;>simp[h]
theorem qP{op:BinOp}{l:Bool}(h:isEq op=some l):(op=.eql∧l=true)∨(op=.neq∧l=false):=by
 cases op<;>simp[isEq] at h<;>simp[h]
def gp(op:BinOp)(xt:TypeId)(x y:Operand)(u v:Value):Sem Value:=do eqGuard op xt x y u v;binOp op xt u v
theorem PO{op:BinOp}{k:IntKind}{n m:Int}{v:aO}{xt:TypeId}{x y:Operand}(hn:k.min≤n∧n≤k.max)(hs:EN op=none)(hr:(Ur op k n m).run=some v) :
  ∃r,(gp op xt x y (.int k n) (.int k m)).run P w=.ok r w∧b6 γ σ.mem w v .val [r]:=by
 unfold gp;cases op<;>simp only[eqGuard_at_int,Sem.run_bind,Sem.run_pure,Result.andThen_ok]<;>simp only[Ur] at hr
 case add=>obtain rfl:=aG hr;exact⟨.int k (aD k n m),by simp only[binOp_add,Op.intArith,Sem.run_pure];rfl,mkInt (eR _ _)⟩
 case sub=>obtain rfl:=aG hr;exact⟨.int k (cL k n m),by simp only[binOp_sub,Op.intArith,Sem.run_pure];rfl,mkInt (eR _ _)⟩
 case mul=>obtain rfl:=aG hr;exact⟨.int k (iZ k n m),by simp only[binOp_mul,Op.intArith,Sem.run_pure];rfl,mkInt (eR _ _)⟩
 case quo =>
  have hr2:=fL hr;cases hz:bI m 0
  ·rw[hz] at hr2;obtain rfl:=aG hr2;have hm:m≠0:=by simpa [bI] using hz
   exact⟨.int k (DZ k n m),by simp only[binOp_quo,Op.intDiv,bH hm,Sem.run_pure];rfl,mkInt (eR _ _)⟩
  ·rw[hz] at hr2;cases hr2
 case rem =>
  have hr2:=fL hr;cases hz:bI m 0
  ·rw[hz] at hr2;obtain rfl:=aG hr2;have hm:m≠0:=by simpa [bI] using hz
   exact⟨.int k (fR n m),by simp only[binOp_rem,Op.intDiv,bH hm,Sem.run_pure];rfl,mkInt (ab3 hn)⟩
  ·rw[hz] at hr2;cases hr2
 case and=>obtain rfl:=aG hr;exact⟨.int k (ia k n m),by simp only[binOp_and,intBits_and,Sem.run_pure];rfl,mkInt (eR _ _)⟩
 case or=>obtain rfl:=aG hr;exact⟨.int k (zb k n m),by simp only[binOp_or,intBits_or,Sem.run_pure];rfl,mkInt (eR _ _)⟩
 case xor=>obtain rfl:=aG hr;exact⟨.int k (dX k n m),by simp only[binOp_xor,intBits_xor,Sem.run_pure];rfl,mkInt (eR _ _)⟩
 case andNot=>obtain rfl:=aG hr;exact⟨.int k (ady k n m),by simp only[binOp_andNot,intBits_andNot,Sem.run_pure];rfl,mkInt (eR _ _)⟩
 case shl=>cases hs
 case shr=>cases hs
 case eql=>obtain rfl:=aG hr;exact⟨.bool (bI n m),by simp[binOp,Op.intCmp,bI];rfl,fU _⟩
 case neq=>obtain rfl:=aG hr;exact⟨.bool (nt (bI n m)),by simp[binOp,Op.intCmp,bI,nt];rfl,fU _⟩
 case lss=>obtain rfl:=aG hr;exact⟨.bool (aX n m),by simp[binOp,Op.intCmp,aX],fU _⟩
 case leq=>obtain rfl:=aG hr;exact⟨.bool (cK n m),by simp[binOp,Op.intCmp,cK],fU _⟩
 case gtr=>obtain rfl:=aG hr;exact⟨.bool (aX m n),by simp[binOp,Op.intCmp,aX],fU _⟩
 case geq=>obtain rfl:=aG hr;exact⟨.bool (cK m n),by simp[binOp,Op.intCmp,cK],fU _⟩
theorem iC(s:List UInt8):(⟨s.toArray⟩:ByteArray).toList=s:=by rw[ByteArray.toList_eq]
theorem Uz(s t:List UInt8):(s==t)=bX s t:=by rw[Zn];simp[bX]
theorem PR{op:BinOp}{s t:List UInt8}{v:aO}{xt:TypeId}{x y:Operand}(hr:(Us op s t).run=some v) :
  ∃r,(gp op xt x y (.string ⟨s.toArray⟩) (.string ⟨t.toArray⟩)).run P w=.ok r w∧b6 γ σ.mem w v .val [r]:=by
 unfold gp;cases op<;>simp only[eqGuard_at_string,Sem.run_bind,Sem.run_pure,Result.andThen_ok]<;>simp only[Us] at hr<;>try (cases hr;done)
 case add =>
  obtain⟨hf,hr2⟩:=bY hr;obtain rfl:=aG hr2;have hl:s.length+t.length≤4294967296:=by have h2:plus (len s) (len t)≤4294967296:=yd hf;simp only[plus,len] at h2;omega
  refine⟨.string ⟨(s++t).toArray⟩,?_,mkStr (by simp only[app,uV,maxLen];omega)⟩;have hsz:∀l:List UInt8,(⟨l.toArray⟩:ByteArray).size=l.length:=fun l=>rfl;have:¬(((s.length+t.length:Nat):Int) > IntKind.i64.max):=by rw[IntKind.max_i64];omega
  simp only[binOp,Op.stringOp,hsz,this,G1,Sem.run_pure]
  congr 2
 case eql=>obtain rfl:=aG hr;exact⟨.bool (bX s t),by simp only[binOp,Op.stringOp,iC,Uz,Sem.run_pure],fU _⟩
 case neq=>obtain rfl:=aG hr;exact⟨.bool (nt (bX s t)),by simp only[binOp,Op.stringOp,iC,Uz,Sem.run_pure];rfl,fU _⟩
 case lss=>obtain rfl:=aG hr;exact⟨.bool (ql s t),by simp only[binOp,Op.stringOp,iC,Uz,Sem.run_pure];rfl,fU _⟩
 case leq=>obtain rfl:=aG hr;exact⟨.bool (oor (ql s t) (bX s t)),by simp only[binOp,Op.stringOp,iC,Uz,Sem.run_pure];rfl,fU _⟩
 case gtr=>obtain rfl:=aG hr;exact⟨.bool (nt (oor (ql s t) (bX s t))),by simp only[binOp,Op.stringOp,iC,Uz,Sem.run_pure];rfl,fU _⟩
 case geq=>obtain rfl:=aG hr;exact⟨.bool (nt (ql s t)),by simp only[binOp,Op.stringOp,iC,Uz,Sem.run_pure];rfl,fU _⟩
theorem R9{op:BinOp}{left:Bool}{k k':IntKind}{n m:Int}{xt:TypeId}{x y:Operand}(hn:k.min≤n∧n≤k.max)(hs:EN op=some left)(h0:aX m 0=false) :
  ∃r,(gp op xt x y (.int k n) (.int k' m)).run P w=.ok r w∧b6 γ σ.mem w (.data (.int k) (bif left then mU k n m else jS k n m)) .val [r]:=by
 have h1:¬m<0:=by simpa [aX] using h0
 unfold gp;rcases PN hs with ⟨rfl,rfl⟩|⟨rfl,rfl⟩
 ·exact⟨.int k (mU k n m),by simp only[eqGuard_shl,binOp_shl,Op.shift,bH h1,Sem.run_bind,Sem.run_pure,Result.andThen_ok];rfl,mkInt (eR _ _)⟩
 ·exact⟨.int k (jS k n m),by simp only[eqGuard_shr,binOp_shr,Op.shift,bH h1,Sem.run_bind,Sem.run_pure,Result.andThen_ok];rfl,mkInt (ab4 _ hn)⟩
theorem Co{t:Ty}{tid:TypeId}(ht:Den P t tid){cs:Array Value}{off:Nat}(h:off+t.size≤cs.size)(h1:t.isAgg=false→t.size=1) :
  (part tid cs off).run P w=.ok (bR t ((cs.toList.drop off).take t.size)) w:=by
 unfold part;rw[Sem.run_bind,ht.agg w,Result.andThen_ok];cases hag:t.isAgg with
 | true =>
   simp only[nk,Sem.run_bind,ht.sizeOf w,Result.andThen_ok,Sem.run_pure,bR,hag,fy]
   congr 2
   apply RV;simp
 | false =>
   have hs:=h1 hag;simp only[bH (show ¬(false=true) by simp),bR,hag,iA,hs];have hlt:off<cs.size:=by omega
   have e:(cs.toList.drop off).take 1=[cs[off]]:=by
    apply NA;intro i;rw[uo];cases i with
    | zero=>simp[hlt]
    | succ i=>simp
   rw[e];simp[hlt]
theorem sn:∀{t:Ty},t.isAgg=false→t.size=1:=by
 intro t h;induction t with
 | alt u a r jm ihr=>exact ihr h
 | arr|pair|unit=>cases h
 | _=>rfl
theorem Sa(t:Ty):1≤t.EM:=by cases t<;>simp[Ty.EM]
theorem CY{γ:Gh}{w:World}:∀(t:Ty),(∀(d:Nat) (tid:TypeId) (x y:t.den) (cx cy:List Value) (c:Bool),Den P t tid→bt w γ.I t x cx→bt w γ.I t y cy→Ty.eqv t x y=some c→t.EM<d →
   (Op.equalIn d tid (bR t cx) (bR t cy)).run P w=.ok c w) ∧
  (∀(d off:Nat) (fs:List Field) (x y:t.den) (cx cy:List Value) (xs ys:Array Value) (c:Bool),oY P t off fs→bt w γ.I t x cx→bt w γ.I t y cy→Ty.eqv t x y=some c→t.EM<d →
   xs.toList.drop off=cx→ys.toList.drop off=cy→off≤xs.size→off≤ys.size→(Op.eqFields d xs ys fs).run P w=.ok c w):=by
 intro t;induction t with
 | int k =>
   refine⟨fun d tid x y cx cy c hd hx hy he hs=>?_,fun d off fs x y cx cy xs ys c hd=>by simp[oY,eF] at hd⟩;obtain⟨d,rfl⟩:∃e,d=e+1:=⟨d-1,by omega⟩;rw[hx.1,hy.1];obtain rfl:=aG he;show(Op.equalIn (d+1) tid (.int k x) (.int k y)).run P w=_
   rw[run_equalIn_int w d tid k k x y hd.int]
   congr 1
 | bool =>
   refine⟨fun d tid x y cx cy c hd hx hy he hs=>?_,fun d off fs x y cx cy xs ys c hd=>by simp[oY,eF] at hd⟩;obtain⟨d,rfl⟩:∃e,d=e+1:=⟨d-1,by omega⟩;rw[show cx=_ from hx,show cy=_ from hy];obtain rfl:=aG he;exact run_equalIn_bool' w d tid x y hd.bool
 | str =>
   refine⟨fun d tid x y cx cy c hd hx hy he hs=>?_,fun d off fs x y cx cy xs ys c hd=>by simp[oY,eF] at hd⟩;obtain⟨d,rfl⟩:∃e,d=e+1:=⟨d-1,by omega⟩;rw[hx.1,hy.1];obtain rfl:=aG he;have h1:=run_equalIn_string (P:=P) w d tid ⟨List.toArray (α:=UInt8) x⟩ ⟨List.toArray (α:=UInt8) y⟩ hd.str;rw[iC (show List UInt8 from x),iC (show List UInt8 from y),Uz] at h1;exact h1
 | slice e ih=>exact⟨(fun d tid x y cx cy c hd hx hy he=>by cases he),(fun d off fs x y cx cy xs ys c hd=>by simp[oY,eF] at hd)⟩
 | alt u a r jm ihr=>exact⟨(fun d tid x y cx cy c hd hx hy he=>by cases he),(fun d off fs x y cx cy xs ys c hd=>by simp[oY,eF] at hd)⟩
 | AU=>exact⟨(fun d tid x y cx cy c hd hx hy he=>by cases he),(fun d off fs x y cx cy xs ys c hd=>by simp[oY,eF] at hd)⟩
 | arr n e ih =>
   refine⟨fun d tid x y cx cy c hd hx hy he hs=>?_,(fun d off fs x y cx cy xs ys c hd=>by simp[oY,eF] at hd)⟩;cases e with
   | int k =>
     obtain⟨d,rfl⟩:∃e,d=e+1:=⟨d-1,by omega⟩;obtain⟨d,rfl⟩:∃e,d=e+1:=⟨d-1,by have:(Ty.arr n (.int k)).EM=1+1:=rfl;omega⟩;obtain rfl:=aG he;obtain⟨eT,k1,k2,k3⟩:=hd.arr;obtain⟨i,z,i1,i2,_,_⟩:=k2.info;have hcell:=k2.cells;show(Op.equalIn (d+1+1) tid (.agg cx.toArray) (.agg cy.toArray)).run P w=_
     rw[run_equalIn_array w (d+1) cx.toArray cy.toArray k1 i1,hcell];obtain⟨hxl,hxc,hxe⟩:=hx;obtain⟨hyl,hyc,hye⟩:=hy;have hz:(Ty.int k).size=1:=rfl;rw[hz] at hxc hxe hyc hye⊢;rw[NC] at hxc hyc;change List Int at x y;have item:∀is:List Nat,(∀i∈is,i<n)→(Op.eqItems (d+1) eT 1 cx.toArray cy.toArray is).run P w=.ok (is.all fun i=>decide (x[i]?=y[i]?)) w:=by
      intro is;induction is with
      | nil=>intro _;rfl
      | cons i is ihs =>
        intro hi;have hin:=hi i (sU ..);obtain⟨a,Uj⟩:∃a,x[i]?=some a:=⟨_,ru (by rw[show x.length=n from hxl];exact hin)⟩;obtain⟨b,hyi⟩:∃a,y[i]?=some a:=⟨_,ru (by rw[show y.length=n from hyl];exact hin)⟩;have px:=Co (w:=w) k2 (cs:=cx.toArray) (off:=i*1) (by rw[hz];simp[hxc];omega) (fun _=>hz);have py:=Co (w:=w) k2 (cs:=cy.toArray) (off:=i*1) (by rw[hz];simp[hyc];omega) (fun _=>hz);have ex:=(hxe i _ Uj).1;have ey:=(hye i _ hyi).1;rw[hz] at px py;rw[show cx.toArray.toList=cx from rfl,ex] at px;rw[show cy.toArray.toList=cy from rfl,ey] at py;simp only[Op.eqItems,Sem.run_bind,px,py,Result.andThen_ok];have heq:=run_equalIn_int w d eT k k a b k2.int;simp only[bR,Ty.isAgg,iA,List.headD_cons,heq,nk,Result.andThen_ok,Uj,hyi,List.all_cons];cases hb:(a==b) with
        | true =>
          have hxy:a=b:=by simpa using hb
          simp only[Bool.not_true,Uo,G1,hxy,RN,Bool.true_and];exact ihs fun j hj=>hi j (vR _ hj)
        | false =>
          have hxy:¬a=b:=by simpa using hb
          simp[hxy]
     rw[item _ fun i hi=>List.mem_range.1 hi]
     congr 1
     unfold eqL;rw[Zn,DY];simp only[List.mem_range,zf];constructor
     ·intro h;apply NA;intro i;by_cases hin:i<n
      ·exact h i hin
      ·rw[PB (by rw[show x.length=n from hxl];omega),PB (by rw[show y.length=n from hyl];omega)]
     ·intro h i _;exact congrArg (fun l=>l[i]?) h
   | _=>cases he
 | unit =>
   refine⟨(fun d tid x y cx cy c hd=>by simp[Den,eF] at hd),fun d off fs x y cx cy xs ys c hd hx hy he hs h1 h2 h3 h4=>?_⟩;cases fs with
   | nil=>obtain rfl:=aG he;rfl
   | cons f r=>simp[oY,eF] at hd
 | pair a b jm lG =>
   have key:(∀(d off:Nat) (fs:List Field) (x y:(Ty.pair a b).den) (cx cy:List Value) (xs ys:Array Value) (c:Bool),oY P (.pair a b) off fs→bt w γ.I (.pair a b) x cx→bt w γ.I (.pair a b) y cy→Ty.eqv (.pair a b) x y=some c→(Ty.pair a b).EM<d+1 →
    xs.toList.drop off=cx→ys.toList.drop off=cy→off≤xs.size→off≤ys.size→(Op.eqFields d xs ys fs).run P w=.ok c w):=by
    intro d off fs x y cx cy xs ys c hd hx hy he hs h1 h2 h3 h4;obtain⟨f,r,rfl,k1,k2,k3,k4,k5⟩:=hd.cons;obtain⟨x1,x2,hxe,hx1,hx2⟩:=hx;obtain⟨y1,y2,hye,hy1,hy2⟩:=hy;simp only[Ty.eqv] at he;cases hea:Ty.eqv a x.1 y.1 with
    | none=>rw[hea] at he;cases he
    | some p =>
      cases heb:Ty.eqv b x.2 y.2 with
      | none=>rw[hea,heb] at he;cases he
      | some q =>
        rw[hea,heb] at he;obtain rfl:=aG he;have hlx:=hx1.length;have hly:=hy1.length;have lx:xs.size-off=x1.length+x2.length:=by
         have:=congrArg List.length (h1.trans hxe);simpa using this
        have ly:ys.size-off=y1.length+y2.length:=by
         have:=congrArg List.length (h2.trans hye);simpa using this
        have px:=Co (w:=w) k3 (cs:=xs) (off:=f.offset) (by omega) sn;have py:=Co (w:=w) k3 (cs:=ys) (off:=f.offset) (by omega) sn;have ex:(xs.toList.drop f.offset).take a.size=x1:=by rw[k1,h1,hxe,←hlx,OV]
        have ey:(ys.toList.drop f.offset).take a.size=y1:=by rw[k1,h2,hye,←hly,OV]
        rw[ex] at px;rw[ey] at py;have hsz:(Ty.pair a b).EM=a.EM+b.EM+1:=rfl;have hra:=Sa a;have hrb:=Sa b;have heq:=jm.1 d f.type x.1 y.1 x1 y1 p k3 hx1 hy1 hea (by omega);simp only[Op.eqFields,bG k2,Sem.run_bind,px,py,heq,Result.andThen_ok];cases p with
        | false=>simp[an]
        | true =>
          simp only[Bool.not_true,Uo,G1];rw[lG.2 d (off+a.size) r x.2 y.2 x2 y2 xs ys q k5 hx2 hy2 heb (by omega) (by rw[←ye,h1,hxe,←hlx,CL]) (by rw[←ye,h2,hye,←hly,CL]) (by omega) (by omega)];simp[an]
   refine⟨fun d tid x y cx cy c hd hx hy he hs=>?_,fun d off fs x y cx cy xs ys c hd hx hy he hs=>key d off fs x y cx cy xs ys c hd hx hy he (by omega)⟩;obtain⟨d,rfl⟩:∃e,d=e+1:=⟨d-1,by omega⟩;obtain⟨fs,k1,k2,k3,k4⟩:=hd.pair;have hf:P.fieldsOf tid=fs:=by simp[Program.fieldsOf,k1]
   show(Op.equalIn (d+1) tid (.agg _) (.agg _)).run P w=_
   rw[run_equalIn_struct w d tid _ _ (by rw[hf];exact k1) k4,hf];exact key d 0 fs.toList x y cx cy _ _ c k2 hx hy he (by omega) (by simp) (by simp) (by simp) (by simp)
end
end Go.Ge
namespace Go.Ge
open RowKit
section
variable {P:Program} {B:qq} {N:Nat} {γ:Gh} {σ σ':St} {a:Act} {w:World} {d:Option Nat} {cx:Ctx}
theorem LA(b c:Bool){xt:TypeId}{x y:Operand}(ht:P.underlying xt=some .bool) :
  (gp .eql xt x y (.bool b) (.bool c)).run P w=.ok (.bool (eqB b c)) w∧(gp .neq xt x y (.bool b) (.bool c)).run P w=.ok (.bool (nt (eqB b c))) w:=by
 have e:=run_equalIn_bool' (P:=P) w 9999 xt b c ht;constructor<;>simp only[gp,eqGuard_at_bool,binOp,Op.equal,Op.maxDepth,Sem.run_bind,Sem.run_pure,Result.andThen_ok,e]<;>rfl
theorem Sc{xt e:TypeId}(ht:P.underlying xt=some (.pointer e))(a b:Option Addr)(h:a=none∨b=none)(n:Nat) :
  (Op.equalIn (n+1) xt (.pointer a) (.pointer b)).run P w=.ok (a.isNone&&b.isNone) w:=by
 cases a with
 | none=>cases b<;>simp only[Op.equalIn,Sem.run_bind,run_underlying ht,Result.andThen_ok]<;>rfl
 | some a=>cases b with
   | none=>simp only[Op.equalIn,Sem.run_bind,run_underlying ht,Result.andThen_ok];rfl
   | some b=>simp at h
theorem xp{xt e:TypeId}{x y:Operand}(ht:P.underlying xt=some (.pointer e))(a b:Option Addr)(h:a=none∨b=none) :
  (gp .eql xt x y (.pointer a) (.pointer b)).run P w=.ok (.bool (a.isNone&&b.isNone)) w∧(gp .neq xt x y (.pointer a) (.pointer b)).run P w=.ok (.bool (!(a.isNone&&b.isNone))) w:=by
 have e:=Sc (P:=P) (w:=w) ht a b h 9999;constructor<;>simp only[gp,eqGuard_at_pointer,binOp,Op.equal,Op.maxDepth,Sem.run_bind,Sem.run_pure,Result.andThen_ok,e]
theorem Xr(hc:eW P cx){op:BinOp}{xt:TypeId}{x y:Operand}{u v:Value}{p q r:aO}(hu:b6 γ σ.mem w p .val [u])(hv:b6 γ σ.mem w q .val [v])
  (hr:(bin (find cx.T xt) (cC cx.yj xt) op p q).run=some r):∃z,(gp op xt x y u v).run P w=.ok z w∧b6 γ σ.mem w r .val [z]:=by
 unfold bin at hr;split at hr
 ·
  obtain⟨rfl,h1⟩:=sW hu;obtain⟨rfl,h2⟩:=sW hv;split at hr
  ·rename_i left hs;have hr2:=fL hr;rename_i k n k' m _;cases hz:aX m 0
   ·rw[hz] at hr2;obtain rfl:=aG hr2;exact R9 h1 hs hz
   ·rw[hz] at hr2;cases hr2
  ·rename_i hs;obtain⟨hb,hr2⟩:=aB hr;rename_i k n k' m _;have hk:=yh hb;subst hk;exact PO h1 hs hr2
 ·
  obtain⟨rfl,h1⟩:=xo hu;obtain⟨rfl,h2⟩:=xo hv;exact PR hr
 ·
  rename_i b c;obtain rfl:=zp hu;obtain rfl:=zp hv;obtain⟨hb,hr2⟩:=aB hr;have ht:=hc.T _ _ (iw hb);have e:=LA (P:=P) (w:=w) b c (x:=x) (y:=y) ht.bool;split at hr2
  ·rename_i he;obtain rfl:=aG hr2;rcases qP he with ⟨rfl,_⟩|⟨_,h⟩
   ·exact⟨.bool (eqB b c),e.1,fU _⟩
   ·cases h
  ·rename_i he;obtain rfl:=aG hr2;rcases qP he with ⟨_,h⟩|⟨rfl,_⟩
   ·cases h
   ·exact⟨.bool (nt (eqB b c)),e.2,fU _⟩
  ·cases hr2
 ·
  rename_i ta tb x1 t2 y1;obtain⟨hb,hr2⟩:=aB hr;simp only[dW] at hb;have ht:=hc.T _ _ (iw hb.1);split at hr2
  ·rename_i y2 e hy2 he;obtain⟨e1,e2⟩:=Ty.jU hy2;subst e1;subst e2;split at hr2
   ·rename_i c hce;obtain rfl:=aG hr2;obtain⟨UA,k1,rfl⟩:=dA.1 hu;obtain⟨RA,k2,rfl⟩:=dA.1 hv;have hq:=(CY (P:=P) (γ:=γ) (w:=w) (.pair ta tb)).1 10000 xt x1 _ UA RA c ht k1 k2 hce (by have:=JB hb.2;omega);obtain⟨fs,j1,j2,j3,j4⟩:=ht.pair;have hg:∀op,(eqGuard op xt x y (.agg UA.toArray) (.agg RA.toArray)).run P w=.ok () w:=fun op=>run_eqGuard_agg w op xt x y _ _ j3;rcases qP he with ⟨rfl,rfl⟩|⟨rfl,rfl⟩
    ·refine⟨.bool c,?_,fU _⟩;show(gp .eql xt x y (.agg _) (.agg _)).run P w=_
     simp only[gp,Sem.run_bind,hg,Result.andThen_ok];have hq':(Op.equalIn 10000 xt (.agg UA.toArray) (.agg RA.toArray)).run P w=.ok c w:=hq;rw[run_eql_struct,hq'];rfl
    ·refine⟨.bool (nt c),?_,fU _⟩;show(gp .neq xt x y (.agg _) (.agg _)).run P w=_
     simp only[gp,Sem.run_bind,hg,Result.andThen_ok];have hq':(Op.equalIn 10000 xt (.agg UA.toArray) (.agg RA.toArray)).run P w=.ok c w:=hq;rw[run_neq_struct,hq'];rfl
   ·cases hr2
  ·cases hr2
 ·
  rename_i nn ee x1 t2 y1;obtain⟨hb,hr2⟩:=aB hr;simp only[dW] at hb;have ht:=hc.T _ _ (iw hb.1);split at hr2
  ·rename_i y2 e hy2 he;obtain⟨e1,e2⟩:=Ty.jU hy2;subst e1;subst e2;split at hr2
   ·rename_i c hce;obtain rfl:=aG hr2;obtain⟨UA,k1,rfl⟩:=dA.1 hu;obtain⟨RA,k2,rfl⟩:=dA.1 hv;have hq:=(CY (P:=P) (γ:=γ) (w:=w) (.arr nn ee)).1 10000 xt x1 _ UA RA c ht k1 k2 hce (by have:=JB hb.2;omega);have j3:=ht.afd;have hg:∀op,(eqGuard op xt x y (.agg UA.toArray) (.agg RA.toArray)).run P w=.ok () w:=fun op=>run_eqGuard_agg w op xt x y _ _ j3;rcases qP he with ⟨rfl,rfl⟩|⟨rfl,rfl⟩
    ·refine⟨.bool c,?_,fU _⟩;show(gp .eql xt x y (.agg _) (.agg _)).run P w=_
     simp only[gp,Sem.run_bind,hg,Result.andThen_ok];have hq':(Op.equalIn 10000 xt (.agg UA.toArray) (.agg RA.toArray)).run P w=.ok c w:=hq;rw[run_eql_struct,hq'];rfl
    ·refine⟨.bool (nt c),?_,fU _⟩;show(gp .neq xt x y (.agg _) (.agg _)).run P w=_
     simp only[gp,Sem.run_bind,hg,Result.andThen_ok];have hq':(Op.equalIn 10000 xt (.agg UA.toArray) (.agg RA.toArray)).run P w=.ok c w:=hq;rw[run_neq_struct,hq'];rfl
   ·cases hr2
  ·cases hr2
 ·
  obtain rfl:u=_:=by simpa [b6] using hu
  obtain rfl:v=_:=by simpa [b6] using hv
  split at hr
  ·rename_i e hp he;obtain rfl:=aG hr;obtain⟨el,hpt⟩:=hc.yj _ hp;have q:=xp (P:=P) (w:=w) (x:=x) (y:=y) hpt none none (.inl rfl);rcases qP he with ⟨rfl,rfl⟩|⟨rfl,rfl⟩
   ·exact⟨_,q.1,fU _⟩
   ·exact⟨_,q.2,fU _⟩
  ·cases hr
 ·cases hr
theorem jB{b aA:Nat}(h:live σ b aA=true):∃bx,σ.mem b=some bx∧bx.aA=aA:=by
 unfold live at h;split at h
 ·rename_i bx hb;exact⟨bx,hb,fu h⟩
 ·cases h
theorem aV{mem:Nat→Option bE}{b aA:Nat}{bx:bE}(hb:mem b=some bx)(hv:bx.aA=aA){K:bE→Prop}(h:lJ mem b aA K):K bx:=by
 obtain⟨gy,h1,h2,h3⟩:=h;rw[hb] at h1;obtain rfl:=aG h1;exact h3 hv
theorem UB(hc:eW P cx){op:BinOp}{xt:TypeId}{x y:Operand}{u v:Value}{p q r:aO}(hu:b6 γ σ.mem w p .val [u])(hv:b6 γ σ.mem w q .val [v])
  (hr:(Zu σ (find cx.T xt) (cC cx.yj xt) op p q).run=some r):∃z,(gp op xt x y u v).run P w=.ok z w∧b6 γ σ.mem w r .val [z]:=by
 unfold Zu at hr;split at hr
 ·rename_i b aA p;obtain⟨hb,hr2⟩:=aB hr;simp only[dW] at hb;obtain⟨bx,qs,bh⟩:=jB hb.1;obtain⟨blk,cap,_,hval⟩:=aV qs bh hu.2;obtain rfl:u=_:=by simpa using hval
  obtain rfl:v=_:=by simpa [b6] using hv
  obtain⟨el,hpt⟩:=hc.yj _ hb.2;have q:=xp (P:=P) (w:=w) (x:=x) (y:=y) hpt (some ⟨blk,ck p,none⟩) none (.inr rfl);split at hr2
  ·rename_i e he;obtain rfl:=aG hr2;rcases qP he with ⟨rfl,rfl⟩|⟨rfl,rfl⟩
   ·exact⟨_,q.1,fU _⟩
   ·exact⟨_,q.2,fU _⟩
  ·cases hr2
 ·rename_i b aA p;obtain⟨hb,hr2⟩:=aB hr;simp only[dW] at hb;obtain⟨bx,qs,bh⟩:=jB hb.1;obtain⟨blk,cap,_,hval⟩:=aV qs bh hv.2;obtain rfl:v=_:=by simpa using hval
  obtain rfl:u=_:=by simpa [b6] using hu
  obtain⟨el,hpt⟩:=hc.yj _ hb.2;have q:=xp (P:=P) (w:=w) (x:=x) (y:=y) hpt none (some ⟨blk,ck p,none⟩) (.inl rfl);split at hr2
  ·rename_i e he;obtain rfl:=aG hr2;rcases qP he with ⟨rfl,rfl⟩|⟨rfl,rfl⟩
   ·exact⟨_,q.1,fU _⟩
   ·exact⟨_,q.2,fU _⟩
  ·cases hr2
 ·exact Xr hc hu hv hr
theorem ZG{op:UnOp}{u:Value}{p r:aO}(hu:b6 γ σ.mem w p .val [u])(hr:(un op p).run=some r):∃z,(Op.unary op u).run P w=.ok z w∧b6 γ σ.mem w r .val [z]:=by
 unfold un at hr;split at hr
 ·obtain rfl:=zp hu;obtain rfl:=aG hr;exact⟨_,rfl,fU _⟩
 ·obtain⟨rfl,h1⟩:=sW hu;obtain rfl:=aG hr;exact⟨_,rfl,mkInt (eR _ _)⟩
 ·obtain⟨rfl,h1⟩:=sW hu;obtain rfl:=aG hr;rename_i k n;refine⟨_,?_,mkInt (eR _ _)⟩;cases hk:k.signed<;>simp[Op.unary,Op.intBits,dX,hk]
 ·cases hr
theorem ZH(hm:bp B γ σ.mem w){b:Nat}{bx:bE}(hb:σ.mem b=some bx){blk cap:Nat}(hl:γ.loc b=some (blk,cap)){p:List D0}{v:aO}(hn:(Xl bx.buf p bx.val).run=some v) :
  ∃cur tid fr,w.heap[blk]?=some (.cells cur tid fr)∧kU cur fr∧ck p+cD v≤cur.size∧b6 γ σ.mem w v .cells ((cur.toList.drop (ck p)).take (cD v)):=by
 have ig:=hm.boxes b bx hb;unfold cr at ig;unfold Xl at hn;cases bu:bx.buf with
 | false =>
   rw[bu] at ig hn;obtain⟨de,cap',cur,tid,fr,h1,h2,h3,gL,h4⟩:=ig;rw[hl] at h1;obtain⟨rfl,rfl⟩:=ec (aG h1);obtain⟨k1,k2⟩:=v8 h4 hn;exact⟨cur,tid,fr,h2,h3,by simpa using k1,k2⟩
 | true =>
   rw[bu] at ig hn;obtain⟨e,l,h1,h2,h3⟩:=ig;rw[h1] at hn;rcases h3 with ⟨h3,_⟩|⟨de,cap',cur,tid,fr,h3,h4,h5,gL,h6,h7,h8,h9⟩
   ·rw[hl] at h3;cases h3
   ·rw[hl] at h3;obtain⟨rfl,rfl⟩:=ec (aG h3);cases p with
    | nil=>cases hn
    | cons s p =>
      cases s with
      | GX k off=>cases hn
      | idx i size =>
        obtain⟨hsb,hn2⟩:=aB hn;have hsz:=fu hsb;obtain⟨x,hx,hn3⟩:=bS hn2;obtain⟨h0,hx2⟩:=si hx;have hr:=h9 _ x hx2;have hrl:=hr.length;have hi:i.toNat<l.length:=(List.getElem?_eq_some_iff.1 hx2).1;have hm2:(i.toNat+1)*e.size≤cap*e.size:=sS _ (by omega);rw[A3] at hm2;obtain⟨k1,k2⟩:=v8 (v:=.data e x) (show b6 γ σ.mem w (.data e x) .cells _ from hr) hn3;rw[hrl] at k1;refine⟨cur,tid,fr,h4,h5.th,?_,?_⟩
        ·simp only[ck,hsz];omega
        ·rw[Wm,RM,ye,sV (by omega)] at k2;simp only[ck,hsz];exact k2
theorem yy{t:Ty}{tid:TypeId}(ht:Den P t tid){blk off:Nat}{x:t.den}{cs:List Value}(Bc:bt w γ.I t x cs)(afg:(loadCells ⟨blk,off,none⟩ cs.length).run P w=.ok cs.toArray w)
  (hcell:∀(j:Nat) v,cs[j]?=some v→w.cell? ⟨blk,off+j,none⟩=some v):(loadVar tid ⟨blk,off,none⟩).run P w=.ok (bR t cs) w:=by
 unfold loadVar;rw[Sem.run_bind,ht.agg w,Result.andThen_ok];have hl:=Bc.length;cases hag:t.isAgg with
 | true =>
   simp only[nk,Sem.run_bind,ht.sizeOf w,Result.andThen_ok,←hl,afg,Sem.run_pure,bR,hag,fy]
 | false =>
   have hs:=sn hag;rw[hs] at hl;obtain⟨c,rfl⟩:=List.length_eq_one_iff.1 hl;have:=hcell 0 c rfl;simp only[yf] at this;simp[bR,hag,this]
theorem LB:∀{u:Ty} {v:aO},RX u v=true→cD v=u.size:=by
 intro u;induction u with
 | pair a b jm lG =>
   intro v h;cases v with
   | data t x=>obtain rfl:=Ty.eq_of_beq (show Ty.beq t (.pair a b)=true from h);rfl
   | mix p q =>
     obtain⟨h1,h2⟩:=Bool.and_eq_true_iff.1 (show(Xm a p&&RX b q)=true from h);have e1:cD p=a.size:=by
      unfold Xm at h1;split at h1
      ·rfl
      ·rename_i t u x _;obtain rfl:=Ty.eq_of_beq h1;rfl
      ·cases h1
     show cD p+cD q=a.size+b.size
     rw[e1,lG h2]
   | _=>cases h
 | _ =>
   intro v h;cases v with
   | data t x=>obtain rfl:=Ty.eq_of_beq h;rfl
   | _=>cases h
theorem Xs{u:Ty}{v:aO}(h1:Xm u v=true):cD v=u.size:=by
 unfold Xm at h1;split at h1
 ·rfl
 ·rename_i t u x _;obtain rfl:=Ty.eq_of_beq h1;rfl
 ·cases h1
theorem Sd(hc:eW P cx){ty:TypeId}{x:Operand}(h:cF B N γ σ a w)(hr:(kr cx d ty (cc σ x) σ).run=some σ') :
  ∃u val ad,σ'=σ.aP d u∧a.eval x=.pointer (some ad)∧(loadVar ty ad).run P w=.ok val w∧b6 γ σ.mem w u .val [val]:=by
 have hv:=h.cc x;unfold kr at hr;split at hr
 ·rename_i u y hx;rw[hx] at hv;obtain⟨hb,hr2⟩:=aB hr;obtain rfl:=aG hr2;have ht:=hc.T _ _ (iw hb);obtain⟨blk,off,cs,h1,h2,h3⟩:=hv;obtain h1:a.eval x=_:=by simpa using h1
  have hl:=yy (P:=P) ht h2 (Hg h3) (fun j v hj=>(h3 j v hj).1);exact⟨_,_,_,rfl,h1,hl,cs,h2,rfl⟩
 ·rename_i b aA p hx;rw[hx] at hv;split at hr
  ·rename_i bx hb;obtain⟨bh,hr2⟩:=aB hr;have bh:=fu bh;obtain⟨v,hn,iD⟩:=bind_some hr2;obtain⟨RB,mh⟩:=aB iD;obtain rfl:=aG mh;obtain⟨blk,cap,hl,hval⟩:=aV hb bh hv.2;obtain hval:a.eval x=_:=by simpa using hval
   obtain⟨cur,tid,fr,g1,g2,g3,g4⟩:=ZH h.ok hb hl hn;have hld:=CN (P:=P) g1 g3;have hgl:=g4.length;have hcells:∀(j:Nat) v',((cur.toList.drop (ck p)).take (cD v))[j]?=some v'→w.cell? ⟨blk,ck p+j,none⟩=some v':=fun j v' hj=>by
    rw[cell_of_heap g1];rw[uo] at hj;split at hj
    ·rw[ni] at hj;simpa using hj
    ·cases hj
   have single:∀(hone:(isAgg ty).run P w=.ok false w) (h1:cD v=1) (IB:∀c,b6 γ σ.mem w v .cells [c]→b6 γ σ.mem w v .val [c]),
     ∃u val ad,σ.aP d v=σ.aP d u∧a.eval x=.pointer (some ad)∧(loadVar ty ad).run P w=.ok val w∧b6 γ σ.mem w u .val [val]:=by
    intro hone h1 IB;rw[h1] at hgl g4 hcells;obtain⟨c,YI⟩:=List.length_eq_one_iff.1 hgl;rw[YI] at g4 hcells;have:=hcells 0 c rfl;simp only[yf] at this;refine⟨_,c,_,rfl,hval,?_,IB c g4⟩;simp[loadVar,hone,this]
   cases v with
   | mix p' q' =>
     rw[show xe cx ty (.mix p' q')=false from rfl,OW] at RB;simp only[zh] at RB;split at RB
     ·rename_i u hT;have ht:=hc.T _ _ hT;have hms:=LB RB;have hag:Ty.isAgg u=true:=by
       cases u with
       | pair a b=>rfl
       | _=>cases RB
      refine⟨_,.agg ((cur.toList.drop (ck p)).take (cD (.mix p' q'))).toArray,_,rfl,hval,?_,?_⟩
      ·rw[hms] at hld⊢;simp only[loadVar,Sem.run_bind,ht.agg w,hag,Result.andThen_ok,nk,ht.sizeOf w,hld,Sem.run_pure]
      ·obtain⟨c1,c2,e1,e2,e3⟩:=g4;exact⟨c1,c2,by rw[e1],e2,e3⟩
     ·cases RB
   | data u y =>
     rw[show zh cx ty (.data u y)=false from rfl,Zo] at RB;have ht:=hc.T _ _ (iw RB);have KP:=yy (P:=P) ht g4 (by rw[hgl];exact hld) hcells;exact⟨_,_,_,rfl,hval,KP,_,g4,rfl⟩
   | whole b' UC =>
     rw[show zh cx ty (.whole b' UC)=false from rfl,Zo] at RB;simp only[xe] at RB;split at RB
     ·rename_i e hT;exact single (by have:=(hc.T _ _ hT).agg w;exact this) rfl (fun c k=>k)
     ·cases RB
   | ptr b' UC p'=>exact single ((hc.oX _ (by simpa [zh,xe] using RB)).1 w) rfl (fun c k=>k)
   | qL=>exact single ((hc.oX _ (by simpa [zh,xe] using RB)).1 w) rfl (fun c k=>k)
   | fn f caps=>exact single ((hc.oX _ (by simpa [zh,xe] using RB)).1 w) rfl (fun c k=>k)
   | _=>cases RB
  ·cases hr
 ·cases hr
theorem LC(hc:eW P cx){ty:TypeId}{x:Operand}(h:cF B N γ σ a w)(hd:∀k,d=some k→k<N)(hr:(kr cx d ty (cc σ x) σ).run=some σ') :
  mV P B N γ σ a w d (Instr.loadAt ty (a.eval x)) σ':=by
 obtain⟨u,val,ad,rfl,h1,h2,h3⟩:=Sd hc h hr;refine bC h hd ?_ h3;rw[h1];simp only[Instr.loadAt,Instr.sureAddr,Sem.run_bind,Sem.run_pure,Result.andThen_ok,h2]
end
end Go.Ge
