/- A ghost interpreter of the model's code, and that it tells the truth: part 4. It says of a function of plain data what a call of it comes to. -/
import Derived.Test.YtefacgohfjccgaaGreatDoorGeC
import Derived.Great.BuildSlice
import Derived.Laws.IdiomStrings
import Derived.Laws.BytesArg
import Derived.Laws.MakeOwn
import Derived.Deep.AppendSrc
set_option linter.unusedVariables false
set_option linter.unusedSimpArgs false
set_option linter.unusedSectionVars false
namespace Go.Ge
open RowKit
def W7(γ:Gh)(blk:Nat):Gh:={ γ with I:=fun b o=>γ.I b o∨b=blk }
theorem bK.ah1{B:tJ}{γ:Gh}{mem:Nat→Option Box}{w:World}(h:bK B γ mem w)(cs:Array Value)(t':TypeId) :
  bK B (W7 γ w.heap.size) mem (w.alloc (.cells cs t'))∧Ext B γ mem w (W7 γ w.heap.size) mem (w.alloc (.cells cs t')):=by
 have hx:Ext B γ mem w (W7 γ w.heap.size) mem (w.alloc (.cells cs t')) :=
  { below:=(xw.refl _ _).alloc h.base _
    I:=fun _ _ x=>.inl x
    sg:=fun blk o x=>by
     rcases x with x|x
     ·exact .inl x
     ·exact .inr (.inl (by rw[x];exact h.base))
    cells:=fun blk o x=>dF (cS w _ blk (h.we blk o x))
    boxes:=fun b bx hb=>⟨bx,hb,cU _,fun _=>⟨rfl,rfl,rfl⟩⟩ }
 refine⟨?_,hx⟩;have hsz:(w.alloc (.cells cs t')).heap.size=w.heap.size+1:=by simp
 exact
  { bp:=h.GV hx
    base:=by rw[hsz];exact Nat.le_succ_of_le h.base
    boxes:=fun b bx hb=>(h.boxes b bx hb).keep hx rfl fun blk k hl=>cS w _ blk (h.fresh b blk k (by rw[hb];simp) hl).2
    inj:=h.inj
    fresh:=fun b blk k hb hl=>by have:=h.fresh b blk k hb hl;exact⟨this.1,by rw[hsz];omega⟩
    we:=fun blk off hi=>by
     rw[hsz];rcases hi with hi|hi
     ·have:=h.we blk off hi;omega
     ·omega
    sep:=fun b bx blk k off hb hl hi=>by
     rcases hi with hi|hi
     ·exact h.sep b bx blk k off hb hl hi
     ·have:=(h.fresh b blk k (by rw[hb];simp) hl).2;omega }
theorem MR(off:Nat):∀(l:List Value) (k:Nat) (cells:Array Value),off+k+l.length≤cells.size →
  (l.zipIdx k).foldl (fun cs (x:Value×Nat)=>cs.setIfInBounds (off+x.2) x.1) cells=(splice cells.toList (off+k) l).toArray
 | [],k,cells,h=>by simp[splice]
 | v::r,k,cells,h=>by
   simp only[List.zipIdx_cons,Ua];rw[MR off r (k+1) _ (by simp at h⊢;omega)];have e:=list_seg_step cells.toList (off+k) v r (by simp at h⊢;omega)
   congr 1
   simpa [splice,ahl,A9] using e
theorem Ec{place:Nat→Option (Nat×Nat)}{cells:Array Value}{i off size:Nat}{v:Value}{rest:List (Nat×Value)}(hp:place i=some (off,size))(hs:v.cells.toList.length=size)
  (hle:off+size≤cells.size):Instr.fill place cells ((i,v)::rest)=Instr.fill place (splice cells.toList off v.cells.toList).toArray rest:=by
 have hs':v.cells.size=size:=by simpa using hs
 have hc:(v.cells.size≠size||off+v.cells.size > cells.size)=false:=by
  simp only[Al,OZ];constructor
  ·simp[hs']
  ·omega
 simp only[Instr.fill,hp];rw[hc];simp only[WJ,EI]
 congr 1
 rw[←Array.foldl_toList,Array.toList_zipIdx];have:=MR off v.cells.toList 0 cells (by rw[hs];omega);simpa using this
theorem W9{w:World}{I:Nat→Nat→Prop}{u:Ty}{y:u.den}{es:List Value}(he:bN w I u y es):∀{t:Ty} {x x':t.den} {cs:List Value} {k o:Nat},
  bN w I t x cs→kg t k=some o→Mx t x k u y=some x'→bN w I t x' (splice cs o es)∧o+es.length≤cs.length:=by
 intro t;induction t with
 | pair a b kM nV =>
   intro x x' cs k o h ho hp;obtain⟨c1,c2,rfl,h1,h2⟩:=h;cases k with
   | zero =>
     simp only[kg,vJ] at ho;subst ho;simp only[Mx] at hp;split at hp
     ·rename_i y' hy;obtain⟨q,hq⟩:=Ty.lT hy;subst q;subst hq;obtain rfl:=aN hp;have hl:es.length=c1.length:=by rw[he.length,h1.length]
      refine⟨⟨es,c2,?_,he,h2⟩,by rw[iO];omega⟩;simp only[splice,QE,zu,ym];rw[hl,EG]
     ·cases hp
   | succ k =>
     simp only[kg] at ho;cases hb:kg b k with
     | none=>rw[hb] at ho;cases ho
     | some o' =>
       rw[hb] at ho;simp only[Mo,vJ] at ho;simp only[Mx] at hp;split at hp
       ·rename_i z hz;obtain rfl:=aN hp;obtain⟨r1,r2⟩:=nV h2 hb hz;have hl:=h1.length;refine⟨⟨c1,splice c2 o' es,?_,h1,r1⟩,by rw[iO];omega⟩;subst ho;rw[←hl];simp only[splice];first
         | (rw[Y0,pZ,pZ,A9,←zw,EG];simp[pZ];done)
         | (rw[Zh o' c1.length,Y0,pZ,pZ,A9,←zw,EG];simp[pZ])
       ·cases hp
 | _=>intro x x' cs k o h ho;cases k<;>simp[kg] at ho
theorem La:∀{t:Ty} {k:Nat} {u:Ty},xg t k=some u→∃o,kg t k=some o:=by
 intro t;induction t with
 | pair a b kM nV =>
   intro k u h;cases k with
   | zero=>exact⟨0,rfl⟩
   | succ k =>
     obtain⟨o,ho⟩:=nV (show xg b k=some u from h);simp only[kg,ho];exact⟨_,rfl⟩
 | _=>intro k u h;cases k<;>cases h
section
variable {P:Program} {B:tJ} {N:Nat} {γ:Gh} {σ σ':St} {a:Act} {w:World} {d:Option Nat} {cx:Ctx}
theorem Ja{place:Nat→Option (Nat×Nat)}{t:Ty}(hpl:∀k u o,xg t k=some u→kg t k=some o→place k=some (o,u.size)) :
  ∀{parts:List (Nat×Operand)} {x x':t.den} {cells:Array Value} {σ σ':St} {γ:Gh},dB B N γ σ a w→bN w γ.I t x cells.toList→hU σ t x parts=some (x',σ') →
   ∃cells' γ',Instr.fill place cells (parts.map fun p=>(p.1,a.eval p.2))=some cells'∧dB B N γ' σ' a w∧Ext B γ σ.mem w γ' σ'.mem w∧bN w γ'.I t x' cells'.toList:=by
 intro parts;induction parts with
 | nil =>
   intro x x' cells σ σ' γ h hx hb;obtain⟨rfl,rfl⟩:=e9 (aN hb);exact⟨cells,γ,rfl,h,Ext.refl _ _ _ _,hx⟩
 | cons p r ih =>
   obtain⟨k,o⟩:=p;intro x x' cells σ σ' γ h hx hb;simp only[hU] at hb;split at hb
   ·rename_i u hu;split at hb
    ·rename_i y σ1 hg;split at hb
     ·rename_i x1 hx1;obtain⟨jC,s1,s2,cs,c1,c2⟩:=oc h (h.cL o) hg;obtain hval:a.eval o=_:=by simpa using c2
      have hcc:(a.eval o).cells.toList=cs:=by rw[hval];exact uw c1
      obtain⟨off,hoff⟩:=La hu;obtain⟨r1,r2⟩:=W9 c1 (bN.mono s2.I s2.cells hx) hoff hx1;have hsz:=c1.length;obtain⟨cells',I9,k1,k2,k3,k4⟩:=ih (cells:=(splice cells.toList off cs).toArray) s1 (by simpa using r1) hb;refine⟨cells',I9,?_,k2,s2.trans k3,k4⟩;simp only[JY];rw[Ec (hpl k u off hu hoff) (by rw[hcc];exact hsz) (by rw[hsz] at r2;simpa using r2),hcc];exact k1
     ·cases hb
    ·cases hb
   ·cases hb
theorem Ce{n:Nat}{e:Ty}{place:Nat→Option (Nat×Nat)}(hpl:∀k,place k=some (k*e.size,e.size)) :
  ∀{parts:List (Nat×Operand)} {l l':List e.den} {cells:Array Value} {σ σ':St} {γ:Gh},dB B N γ σ a w→bN w γ.I (.arr n e) l cells.toList→gO σ e l parts=some (l',σ') →
   ∃cells' γ',Instr.fill place cells (parts.map fun p=>(p.1,a.eval p.2))=some cells'∧dB B N γ' σ' a w∧Ext B γ σ.mem w γ' σ'.mem w∧bN w γ'.I (.arr n e) l' cells'.toList:=by
 intro parts;induction parts with
 | nil =>
   intro l l' cells σ σ' γ h hx hb;obtain⟨rfl,rfl⟩:=e9 (aN hb);exact⟨cells,γ,rfl,h,Ext.refl _ _ _ _,hx⟩
 | cons p r ih =>
   obtain⟨k,o⟩:=p;intro l l' cells σ σ' γ h hx hb;simp only[gO] at hb;split at hb
   ·rename_i y σ1 hg;cases hlt:Nat.blt k l.length with
    | false=>rw[hlt] at hb;cases hb
    | true =>
      rw[hlt] at hb;simp only[gp] at hb;have hlt':k<l.length:=by simpa using hlt
      obtain⟨jC,s1,s2,cs,c1,c2⟩:=oc h (h.cL o) hg;obtain hval:a.eval o=_:=by simpa using c2
      have hcc:(a.eval o).cells.toList=cs:=by rw[hval];exact uw c1
      obtain⟨j1,j2,j3⟩:=bN.mono s2.I s2.cells hx;have j1':l.length=n:=j1;have hsz:=c1.length;have hm:(k+1)*e.size≤n*e.size:=gM _ (by omega);rw[CF] at hm;have hle:k*e.size+cs.length≤cells.toList.length:=by rw[hsz,j2];exact hm
      have hnew:bN w jC.I (.arr n e) (l.set k y) (splice cells.toList (k*e.size) cs) :=
       ⟨(@List.length_set _ l _ _).trans j1,by rw[bS hle];exact j2,MI j1' (by rw[j2];exact cU _) j3 (by omega) c1⟩
      obtain⟨cells',I9,k1,k2,k3,k4⟩:=ih (cells:=(splice cells.toList (k*e.size) cs).toArray) s1 (by simpa using hnew) hb;refine⟨cells',I9,?_,k2,s2.trans k3,k4⟩;simp only[JY];rw[Ec (hpl k) (by rw[hcc];exact hsz) (by rw[hsz] at hle;simpa using hle),hcc];exact k1
   ·cases hb
theorem rS.places{t:Ty}:∀{off:Nat} {fs:List Field},rS P t off fs→∃places:List (Nat×Nat),fs.mapM (fun f=>(P.info? f.type).map fun i=>(f.offset,i.size))=some places ∧
  ∀k u o,xg t k=some u→kg t k=some o→places[k]?=some (off+o,u.size):=by
 induction t with
 | pair a b kM nV =>
   intro off fs h;obtain⟨f,r,rfl,h1,h2,h3,h4,h5⟩:=h.cons;obtain⟨pl,p1,p2⟩:=nV h5;obtain⟨i,z,i1,i2,_⟩:=h3.info;refine⟨(f.offset,i.size)::pl,by simp[i1,p1],fun k u o hu ho=>?_⟩;cases k with
   | zero =>
     simp only[xg,kg,vJ] at hu ho;subst hu ho;simp[h1,i2]
   | succ k =>
     simp only[xg,kg] at hu ho;cases hb:kg b k with
     | none=>rw[hb] at ho;cases ho
     | some o' =>
       rw[hb] at ho;simp only[Mo,vJ] at ho;have:=p2 k u o' hu hb;rw[acA,this]
       congr 2;omega
 | unit =>
   intro off fs h;cases fs with
   | nil=>exact⟨[],rfl,fun k u o hu=>by cases k<;>cases hu⟩
   | cons f r=>simp[rS,fI] at h
 | _=>intro off fs h;cases fs<;>simp[rS,fI] at h
theorem Ka{mem:Nat→Option Box}:∀{fs:List p4} {v:aS},uv fs=some v→cI γ mem w v .cells (MF fs):=by
 intro fs;induction fs with
 | nil=>intro v h;obtain rfl:=aN h;rfl
 | cons f r ih =>
   intro v h;cases f with
   | dat t =>
     simp only[uv] at h;split at h
     ·rename_i u hu;obtain rfl:=aN h;exact⟨_,_,rfl,oZ _ _ t,ih hu⟩
     ·cases h
   | buf e i =>
     simp only[uv] at h;split at h
     ·rename_i u hu;obtain rfl:=aN h;exact⟨[.slice none 0 0],_,rfl,rfl,ih hu⟩
     ·cases h
   | one =>
     simp only[uv] at h;split at h
     ·rename_i u hu;obtain rfl:=aN h;exact⟨[.pointer none],_,rfl,rfl,ih hu⟩
     ·cases h
   | self=>cases h
theorem CU{place:Nat→Option (Nat×Nat)}{fs:List p4}(hpl:∀k o f,Bc fs k=some o→fs[k]?=some f→place k=some (o,f.size))(h:dB B N γ σ a w) :
  ∀{parts:List (Nat×Operand)} {v v':aS} {cells:Array Value},cI γ σ.mem w v .cells cells.toList→n8 σ fs v parts=some v' →
   ∃cells',Instr.fill place cells (parts.map fun p=>(p.1,a.eval p.2))=some cells'∧cI γ σ.mem w v' .cells cells'.toList:=by
 intro parts;induction parts with
 | nil=>intro v v' cells hv hb;obtain rfl:=aN hb;exact⟨cells,rfl,hv⟩
 | cons p r ih =>
   obtain⟨k,x⟩:=p;intro v v' cells hv hb;simp only[n8] at hb;split at hb
   case h_2=>cases hb
   rename_i o t y0 o' f hf ho hfs;cases hc:Nat.beq o o'&&Nat.beq t.size f.size with
   | false=>rw[hc] at hb;cases hb
   | true =>
     rw[hc] at hb;simp only[gp] at hb;simp only[dW] at hc;obtain rfl:=gz hc.1;have hsz:=gz hc.2;split at hb
     case h_2=>cases hb
     rename_i y hy;split at hb
     case h_2=>cases hb
     rename_i v1 hv1;have hx:cI γ σ.mem w (cL σ x) .cells (a.eval x).cells.toList:=(h.cL x).pe (fun u e=>by rw[e] at hy;cases hy) (fun e=>by rw[e] at hy;cases hy);have hyr:bN w γ.I t y (a.eval x).cells.toList:=L3 hy hx;obtain⟨b1,_⟩:=I8 hv hf;have b1':o+t.size≤cells.toList.length:=b1;have hl:(a.eval x).cells.toList.length=t.size:=hyr.length;have hn:=MH (f:=fun _=>.ret (.data t y)) hv hf (fun z hz=>by obtain rfl:=aN hz;exact hyr) hv1 hl;obtain⟨cells',k1,k2⟩:=ih (cells:=(splice cells.toList o (a.eval x).cells.toList).toArray) (by simpa using hn) hb;refine⟨cells',?_,k2⟩;simp only[JY];rw[Ec (hpl k o f ho hfs) (by rw[hl];exact hsz) (by rw[←hsz];simpa using b1')];exact k1
theorem Lb(hc:gA P cx){t:TypeId}{fs:List p4}{z0 p q:aS}{parts:Array (Nat×Operand)}(h:dB B N γ σ a w)(hd:∀k,d=some k→k<N)(hO:find cx.wu t=some fs)
  (hz0:uv fs=some z0) (hb:n8 σ fs z0 parts.toList=some (.mix p q)) :
  p6 P B N γ σ a w d (Instr.build t (parts.map fun(i,x)=>(i,a.eval x))) (σ.aW d (.mix p q)):=by
 have hB:=hc.wu _ _ hO;simp only[O5,dW] at hB;obtain⟨h1,h2⟩:=hB;obtain⟨i,z,i1,i2,i3,i4⟩:=kr h2;split at h1
 case h_2=>cases h1
 rename_i gs hg;obtain⟨pl,p1,p2⟩:=GX h1;obtain⟨cells',k1,c1,c2,e1,e2,e3⟩:=CU (place:=fun k=>pl.toArray[k]?) (fun k o f ho hf=>by have:=p2 k o f ho hf;simpa using this) h
  (v:=z0) (cells:=z.cells) (by rw[i4];exact Ka hz0) hb
 have hrun:(Instr.build t (parts.map fun(i,x)=>(i,a.eval x))).run P w=.ok (.agg cells') w:=by
  refine run_build w t _ _ ?_;unfold Program.built;simp only[i1,hg,i3,p1];simpa using k1
 exact bU h hd hrun ⟨c1,c2,by rw[←e1],e2,e3⟩
theorem Jb(hc:gA P cx){t:TypeId}{fs:List p4}{z0:aS}{u:Ty.unit.den}{parts:Array (Nat×Operand)}(h:dB B N γ σ a w)(hd:∀k,d=some k→k<N)(hO:find cx.wu t=some fs)
  (hz0:uv fs=some z0) (hb:n8 σ fs z0 parts.toList=some (.data .unit u)) :
  p6 P B N γ σ a w d (Instr.build t (parts.map fun(i,x)=>(i,a.eval x))) (σ.aW d (.data .unit ())):=by
 have hB:=hc.wu _ _ hO;simp only[O5,dW] at hB;obtain⟨h1,h2⟩:=hB;obtain⟨i,z,i1,i2,i3,i4⟩:=kr h2;split at h1
 case h_2=>cases h1
 rename_i gs hg;obtain⟨pl,p1,p2⟩:=GX h1;obtain⟨cells',k1,k2⟩:=CU (place:=fun k=>pl.toArray[k]?) (fun k o f ho hf=>by have:=p2 k o f ho hf;simpa using this) h
  (v:=z0) (cells:=z.cells) (by rw[i4];exact Ka hz0) hb
 have hrun:(Instr.build t (parts.map fun(i,x)=>(i,a.eval x))).run P w=.ok (.agg cells') w:=by
  refine run_build w t _ _ ?_;unfold Program.built;simp only[i1,hg,i3,p1];simpa using k1
 have e:cells'.toList=[]:=k2;exact bU h hd hrun ⟨[],rfl,by rw[show cells'=#[] from Ue e];rfl⟩
theorem FX(hc:gA P cx){t:TypeId}{u v:Ty}{parts:Array (Nat×Operand)}{x:(Ty.pair u v).den}(h:dB B N γ σ a w)(hd:∀k,d=some k→k<N)(hT:find cx.T t=some (.pair u v))
  (hb:hU σ (.pair u v) (Ty.pair u v).zero parts.toList=some (x,σ')) :
  p6 P B N γ σ a w d (Instr.build t (parts.map fun(i,x)=>(i,a.eval x))) (σ'.aW d (.data (.pair u v) x)):=by
 have hD:=hc.T _ _ hT;obtain⟨fs,f1,f2,_⟩:=hD.pair;obtain⟨pl,p1,p2⟩:=f2.places;obtain⟨i,z,i1,i2,i3,i4⟩:=hD.info;obtain⟨cells',γ',k1,k2,k3,k4⟩:=Ja (place:=fun k=>pl.toArray[k]?) (fun k u o hu ho=>by have:=p2 k u o hu ho;simpa using this) h
  (x:=(Ty.pair u v).zero) (cells:=z.cells) (by rw[i4];exact oZ w γ.I _) hb
 have hrun:(Instr.build t (parts.map fun(i,x)=>(i,a.eval x))).run P w=.ok (.agg cells') w:=by
  refine run_build w t _ _ ?_;unfold Program.built;simp only[i1,f1,i3,p1];simpa using k1
 exact⟨_,_,γ',hrun,k2.xy hd ⟨_,k4,rfl⟩,by cases d<;>exact k3⟩
theorem G5(hc:gA P cx){t:TypeId}{n:Nat}{e:Ty}{parts:Array (Nat×Operand)}{l:List e.den}(h:dB B N γ σ a w)(hd:∀k,d=some k→k<N)(hT:find cx.T t=some (.arr n e))
  (hb:gO σ e (List.replicate n e.zero) parts.toList=some (l,σ')) :
  p6 P B N γ σ a w d (Instr.build t (parts.map fun(i,x)=>(i,a.eval x))) (σ'.aW d (.data (.arr n e) l)):=by
 have hD:=hc.T _ _ hT;obtain⟨gd,f1,f2,f3⟩:=hD.arr;obtain⟨ie,ze,e1,e2,e3,e4⟩:=f2.info;obtain⟨i,z,i1,i2,i3,i4⟩:=hD.info;obtain⟨cells',γ',k1,k2,k3,k4⟩:=Ce (n:=n) (place:=fun k=>some (k*ie.size,ie.size)) (fun k=>by rw[e2]) h
  (l:=List.replicate n e.zero) (cells:=z.cells) (by rw[i4];exact oZ w γ.I (.arr n e)) hb
 have hrun:(Instr.build t (parts.map fun(i,x)=>(i,a.eval x))).run P w=.ok (.agg cells') w:=by
  refine run_build w t _ _ ?_;unfold Program.built;simp only[i1,f1,i3,e1];simpa using k1
 exact⟨_,_,γ',hrun,k2.xy hd ⟨_,k4,rfl⟩,by cases d<;>exact k3⟩
theorem xA{e:Ty}{z:Value}(hz:z.cells.toList=fB e)(he:0<e.size)(n:Nat):(madeCells z.cells (n*e.size)).toList=fB (.arr n e):=by
 have hzl:z.cells.size=e.size:=by rw[←en e,←hz];simp
 apply O2;intro j;have hlen:(fB (.arr n e)).length=n*e.size:=by rw[en];rfl
 rcases xe j (n*e.size) with hj|hj
 ·have h1:(madeCells z.cells (n*e.size)).toList[j]?=some (z.cells[j % z.cells.size]!):=by simp[madeCells,hj]
  rw[h1];have hdiv:j / e.size<n:=by rw[Y1 he];exact hj
  have hk:=fu (fB e) n (j / e.size) hdiv;rw[en] at hk;have hmod:=IU j he;have hkk:j / e.size*e.size+j % e.size=j:=by rw[Ub];exact T9 j e.size
  have h2:(fB (.arr n e))[j]?=(fB e)[j % e.size]?:=by
   conv=>rhs;rw[←hk]
   rw[gN,bu hmod,nW,hkk];rfl
  rw[h2,←hz,hzl];have hm:j % e.size<z.cells.size:=by omega
  simp[hm]
 ·rw[TN (by simp[madeCells];omega),TN (by omega)]
theorem R8{w:World}{I:Nat→Nat→Prop}{e:Ty}{n:Nat}{l:List e.den}{cells:Array Value}{t:TypeId}{blk:Nat}{fr:Nat×Nat}(h:bN w I (.arr n e) l cells.toList)(hg:w.heap[blk]?=some (.cells cells t fr))
  (hI:∀o,I blk o) (hn:n≤maxLen):bN w I (.slice e) l [.slice (some ⟨blk,0,none⟩) n n]:=by
 obtain⟨h1,h2,h3⟩:=h;have h1':l.length=n:=h1;refine .inr ⟨blk,0,n,by rw[←h1'],by rw[←h1'];exact cU _,hn,fun i x hx=>?_⟩;have hx':l[i]?=some x:=hx;have hi:i<n:=by have:=(List.getElem?_eq_some_iff.1 hx').1;omega
 have hr:=h3 i x hx';refine⟨_,hr.length,fun j c hj=>⟨?_,hI _⟩,hr⟩;rw[cell_of_heap hg];rw[gN] at hj;split at hj
 ·rw[nW] at hj;rw[ym];simpa using hj
 ·cases hj
theorem Jc(hc:gA P cx){t:TypeId}{n:Nat}{e:Ty}{parts:Array (Nat×Operand)}{l:List e.den}(h:dB B N γ σ a w)(hd:∀k,d=some k→k<N)(hT:find cx.T t=some (.slice e))
  (hn:Nat.ble (n*e.size) 65536=true) (hb:gO σ e (List.replicate n e.zero) parts.toList=some (l,σ')) :
  p6 P B N γ σ a w d (Instr.buildSlice t n (parts.map fun(i,x)=>(i,a.eval x))) (σ'.aW d (.data (.slice e) l)):=by
 have hD:=hc.T _ _ hT;have hn:n*e.size≤65536:=KV hn;obtain⟨gd,f1,f2,f3,f4⟩:=hD.slice;obtain⟨ie,ze,e1,e2,e3,e4⟩:=f2.info;obtain⟨cells',γ',k1,k2,k3,k4⟩:=Ce (n:=n) (place:=fun k=>some (k*ie.size,ie.size)) (fun k=>by rw[e2]) h
  (l:=List.replicate n e.zero) (cells:=madeCells ze.cells (n*e.size)) (by rw[xA e4 f4];exact oZ w γ.I (.arr n e)) hb
 obtain⟨m1,m2⟩:=k2.ok.ah1 cells' gd;have hrun:(Instr.buildSlice t n (parts.map fun(i,x)=>(i,a.eval x))).run P w=.ok (.slice (some ⟨w.heap.size,0,none⟩) n n) (w.alloc (.cells cells' gd)):=by
  have hk1:Instr.fill (fun i=>some (i*ie.size,ie.size)) (madeCells ze.cells (n*ie.size)) (parts.map fun(i,x)=>(i,a.eval x)).toList=some cells':=by rw[e2] at k1⊢;simpa using k1
  by_cases h0:n*ie.size=0
  ·have hz0:madeCells ze.cells (n*ie.size)=#[]:=by rw[h0];simp[madeCells]
   rw[hz0] at hk1;simp only[T6] at hk1;simp[Instr.buildSlice,run_underlying f1,Go.sizeOf,typeInfo,zeroValue,e1,e3,h0,newRow];have hz:(Array.map (fun x:Nat=>(default:Value)) (Array.range 0))=#[]:=by simp[Array.range]
   rw[hz,hk1];rfl
  ·exact run_buildSlice w t gd n _ cells' ie ze f1 e1 e3 (by rw[e2];omega) h0 hk1
 refine⟨_,_,_,hrun,k2.aW m2 m1 hd (v:=.data (.slice e) l) ⟨[.slice (some ⟨w.heap.size,0,none⟩) n n],?_,rfl⟩,by cases d<;>exact k3.trans m2⟩;refine R8 (bN.mono m2.I m2.cells k4) (heap_alloc_new w _) (fun o=>.inr rfl) ?_;have:n*1≤n*e.size:=Nat.mul_le_mul_left _ f4;have:(65536:Nat)≤maxLen:=by decide
 omega
theorem R9{α:Type}{l r:List α}{c:α}{j:Nat}(h:l.length=j):(l++([c]++r)).take (j+1)=l++[c]:=by
 subst h;rw[List.take_append,GG (by omega)];simp
theorem Sa{place:Nat→Option (Nat×Nat)}(hpl:∀k,place k=some (k,1))(h:dB B N γ σ a w) :
  ∀{parts:List (Nat×Operand)} {k:Nat} {v:aS} {cells:Array Value},cells.size=k+parts.length→CL σ k parts=some v →
   ∃vals:List Value,Instr.fill place cells (parts.map fun p=>(p.1,a.eval p.2))=some (cells.toList.take k++vals).toArray∧cI γ σ.mem w v .cells vals:=by
 intro parts;induction parts with
 | nil =>
   intro k v cells hs hv;obtain rfl:=aN hv;refine⟨[],?_,rfl⟩;have:cells.toList.take k=cells.toList:=GG (by simp only[ig,An] at hs;simp[hs]);rw[this];simp[Instr.fill]
 | cons p r ih =>
   obtain⟨j,x⟩:=p;intro k v cells hs hv;simp only[CL] at hv;cases hj:Nat.beq j k with
   | false=>rw[hj] at hv;cases hv
   | true =>
     rw[hj] at hv;simp only[gp] at hv;obtain rfl:=gz hj;simp only[ep] at hs;have key:∀(u u':aS) (c:Value),(∀t,u≠.FQ t)→u≠.undef→cL σ x=u→CL σ (j+1) r=some u'→v=.mix u u'→(a.eval x).cells.toList=[c] →
       ∃vals:List Value,Instr.fill place cells (((j,x)::r).map fun p=>(p.1,a.eval p.2))=some (cells.toList.take j++vals).toArray∧cI γ σ.mem w v .cells vals:=by
      intro u u' c h1 h2 hu Kb hv' hcell;have hx:=h.cL x;rw[hu] at hx;have hx':=hx.pe h1 (fun e=>absurd e h2);have hlen:(splice cells.toList j [c]).length=cells.toList.length:=bS (by simp;omega);obtain⟨vals,k1,k2⟩:=ih (k:=j+1) (cells:=(splice cells.toList j [c]).toArray) (by simp only[KX,hlen,WH];omega) Kb;have ht:(splice cells.toList j [c]).take (j+1)=cells.toList.take j++[c]:=by
       have:(cells.toList.take j).length=j:=by rw[cW,WH];omega
       simp only[splice];rw[pZ,R9 this]
      refine⟨c::vals,?_,?_⟩
      ·simp only[JY];rw[Ec (hpl j) (by rw[hcell];rfl) (by omega),hcell,k1];rw[ht];simp
      ·rw[hv'];exact⟨[c],vals,rfl,by rw[hcell] at hx';exact hx',k2⟩
     split at hv
     ·rename_i u' hu Kb;obtain rfl:=aN hv;have hx:=h.cL x;rw[hu] at hx;obtain hx:a.eval x=_:=by simpa [cI] using hx
      exact key .tO u' (.pointer none) (fun t e=>by cases e) (fun e=>by cases e) hu Kb rfl (by rw[hx];rfl)
     ·rename_i b aC q u' hu Kb;obtain rfl:=aN hv;have hx:=h.cL x;rw[hu] at hx;obtain⟨⟨y,hy,ho⟩,_⟩:=hx;obtain rfl:a.eval x=y:=by simpa using hy
      refine key (.ptr b aC q) u' (a.eval x) (fun t e=>by cases e) (fun e=>by cases e) hu Kb rfl ?_;generalize a.eval x=y at ho⊢;cases y<;>first|rfl|(simp[Value.oneCell'] at ho)
     ·rename_i f c u' hu Kb;obtain rfl:=aN hv;have hx:=h.cL x;rw[hu] at hx;obtain⟨arr,hx,_,_⟩:=hx;obtain hx:a.eval x=_:=by simpa using hx
      exact key (.fn f c) u' _ (fun t e=>by cases e) (fun e=>by cases e) hu Kb rfl (by rw[hx];rfl)
     ·cases hv
theorem Pc(hc:gA P cx){t:TypeId}{nb n:Nat}{parts:Array (Nat×Operand)}(h:dB B N γ σ a w)(hd:∀k,d=some k→k<N)
  (hr:(D8 cx nb d t n parts.toList σ).run=some σ'):p6 P B N γ σ a w d (Instr.buildSlice t n (parts.map fun(i,x)=>(i,a.eval x))) σ':=by
 unfold D8 at hr;split at hr
 case h_2=>cases hr
 rename_i k e v he hv;obtain⟨hb,kW⟩:=aD hr;simp only[dW] at hb;obtain⟨⟨hn,h0⟩,CC⟩:=hb;obtain rfl:=gz hn;have h0':0<parts.toList.length:=by simpa using h0
 have af8:parts.toList.length≤64:=KV CC;obtain⟨k1,k2⟩:=Bk hc he;obtain⟨_,hs,z,hz,_⟩:=hc.u9 _ k2;obtain⟨ie,i1,i2⟩:∃ie,P.info? e=some ie∧ie.size=1:=by
  have:=hs w;cases hi:P.info? e with
  | none=>simp[Go.sizeOf,typeInfo,hi] at this
  | some ie=>simp[Go.sizeOf,typeInfo,hi] at this;exact⟨ie,rfl,this⟩
 obtain⟨z',i3⟩:∃z',ie.zero=some z':=by
  have:=hz w;cases hi:ie.zero with
  | none=>simp[zeroValue,typeInfo,i1,hi] at this
  | some z'=>exact⟨z',rfl⟩
 obtain⟨aC,bF,hr2⟩:=eE kW;obtain rfl:=aN hr2;obtain⟨vals,f1,f2⟩:=Sa (place:=fun i=>some (i*ie.size,ie.size)) (fun j=>by rw[i2];simp) h (k:=0) (cells:=(Array.range (parts.toList.length*ie.size)).map (z'.cells[· % z'.cells.size]!)) (by simp[i2]) hv;have hrun:=run_buildSlice w t e parts.toList.length (parts.map fun(i,x)=>(i,a.eval x)) _ ie z' k1 i1 i3 (by rw[i2];omega) (by rw[i2];omega) (by rw[T6];exact f1);obtain⟨m1,m2⟩:=h.ok.newVar (b:=nb+k) (v:=v) (tid:=0) bF (cs:=((((Array.range (parts.toList.length*ie.size)).map (z'.cells[· % z'.cells.size]!)).toList.take 0)++vals).toArray) e (.inl rfl) (by simpa using f2);refine⟨_,_,_,hrun,h.step m2 m1 (hd k rfl) ?_,m2⟩;refine⟨⟨_,rfl,rfl⟩,iP (bL _ _) rfl ⟨by simp,w.heap.size,0,by simp[bT],by omega,by omega,by omega,_,_,rfl,by simp,.inr ?_⟩⟩;simp[cP]
theorem Jd(hc:gA P cx){t:TypeId}{e:Ty}{nb k:Nat}(h:dB B N γ σ a w)(hd:k<N)(hT:find cx.T t=some (.slice e))
  (hr:(σ.aQ (nb+k) (.data (.slice e) ([]:List e.den)) 0 true fun aC σ=>.ret (σ.put k (.whole (nb+k) aC))).run=some σ') :
  p6 P B N γ σ a w (some k) (Instr.buildSlice t 0 #[]) σ':=by
 obtain⟨gd,f1,f2,f3,f4⟩:=(hc.T _ _ hT).slice;obtain⟨ie,ze,e1,e2,e3,e4⟩:=f2.info;obtain⟨aC,bF,hr2⟩:=eE hr;obtain rfl:=aN hr2;have hrun:(Instr.buildSlice t 0 #[]).run P w=.ok (.slice (some ⟨w.heap.size,0,none⟩) 0 0) (w.alloc (.cells #[] gd)):=by
  simp[Instr.buildSlice,run_underlying f1,Go.sizeOf,typeInfo,zeroValue,e1,e3,newRow,Instr.fill];have hz:(Array.map (fun x:Nat=>(default:Value)) (Array.range 0))=#[]:=by simp[Array.range]
  rw[hz]
 obtain⟨n1,n2⟩:=h.ok.R1 (w':=w.alloc (.cells #[] gd)) (b:=nb+k) (e:=e) (l:=([]:List e.den)) (tid:=0) (aC:=aC) (cap:=0) bF f4
  ((xw.refl _ _).alloc h.ok.base _) (cS w _) (heap_alloc_new w _) (Ax _ _) (.inl rfl) (cU _) (rT _) (by simp) (fun i z hz=>by cases hz)
 refine⟨_,_,_,hrun,h.step n2 n1 hd ?_,n2⟩;exact⟨⟨_,rfl,rfl⟩,iP (bL _ _) rfl ⟨e,0,rfl,rfl,.inr ⟨w.heap.size,0,by simp[bT],rfl⟩⟩⟩
end
end Go.Ge
namespace Go.Ge
open RowKit
section
variable {P:Program} {B:tJ} {N:Nat} {γ:Gh} {σ σ':St} {a:Act} {w w':World} {d:Option Nat} {cx:Ctx}
theorem FY:(4294967296:Nat)≤maxLen:=by decide
theorem G6{n:Nat}(h:fits (n:Int)=true):n≤4294967296:=by simp[fits] at h;omega
theorem CV{gd:TypeId}{ie:TypeInfo}(hb:I6 P gd=true)(hi:P.info? gd=some ie):ie.bytes≤32768:=by
 unfold I6 at hb;rw[hi] at hb;exact KV hb
theorem AA{mem:Nat→Option Box}{b cap blk:Nat}{bx:Box}{e:Ty}{n:Nat}(bO:bx.buf=true)(hrow:bx.row=some (e,n)) :
  cI (bT γ b (some (blk,cap))) (cQ mem b bx) w' (.whole b bx.aC) .val [.slice (some ⟨blk,0,none⟩) n cap] :=
 ⟨⟨_,rfl,rfl⟩,iP (bL _ _) rfl ⟨e,n,bO,hrow,.inr ⟨blk,cap,by simp[bT],rfl⟩⟩⟩
theorem Lc(hc:gA P cx){t:TypeId}{nb k:Nat}{e:Ty}{x y:Operand}{kl kc:IntKind}{l c:Int}(h:dB B N γ σ a w)(hd:k<N)(hT:find cx.T t=some (.slice e))
  (hx:cL σ x=.data (.int kl) l) (hy:cL σ y=.data (.int kc) c) (hin:inside 0 l c=true) (hf:fits c=true)
  (hr:(σ.aQ (nb+k) (.data (.slice e) (CI l e.zero)) 0 true fun aC σ=>.ret (σ.put k (.whole (nb+k) aC))).run=some σ') :
  p6 P B N γ σ a w (some k) (Instr.makeSlice t (a.eval x) (a.eval y)) σ':=by
 obtain⟨aC,bF,hr2⟩:=eE hr;obtain rfl:=aN hr2;obtain⟨_,h0,h1⟩:=jQ hin;have an2:c≤4294967296:=by simpa [fits] using hf
 have hvx:=h.cL x;have hvy:=h.cL y;rw[hx] at hvx;rw[hy] at hvy;obtain⟨ex,_⟩:=vM hvx;obtain⟨ey,_⟩:=vM hvy;obtain⟨gd,f1,f2,f3,f4⟩:=(hc.T _ _ hT).slice;obtain⟨ie,ze,e1,e2,e3,e4⟩:=f2.info;have hb:=CV f3 e1;have hbytes:(ie.bytes:Int)*c≤281474976710656:=by
  have:(ie.bytes:Int)*c≤32768*c:=Int.mul_le_mul_of_nonneg_right (by omega) (by omega);omega
 have hrun:=run_make (P:=P) w t gd ie ze f1 e1 e3 kl kc l c h0 h1 hbytes (by omega);have hcells:(madeCells ze.cells (c.toNat*ie.size)).toList=fB (.arr c.toNat e):=by rw[e2];exact xA e4 f4 _
 have hlen:(CI l e.zero).length=l.toNat:=by simp[CI]
 obtain⟨m1,m2⟩:=h.ok.R1 (w':=w.alloc (.cells (madeCells ze.cells (c.toNat*ie.size)) gd)) (b:=nb+k) (e:=e) (l:=CI l e.zero) (tid:=0) (aC:=aC) (cap:=c.toNat) bF f4
  ((xw.refl _ _).alloc h.ok.base _) (cS w _) (heap_alloc_new w _) (Ax _ _) (.inl rfl) (by rw[hlen];omega) (by have:=FY;omega)
  (by rw[e2];exact size_madeCells _ _) (fun i z hz=>by
   rw[hcells];have hz':(List.replicate l.toNat e.zero)[i]?=some z:=hz;rw[acy] at hz';split at hz'
   ·rename_i hi;obtain rfl:e.zero=z:=by simpa using hz'
    have:=fu (fB e) c.toNat i (by omega);rw[en] at this;rw[show fB (.arr c.toNat e)=(List.replicate c.toNat (fB e)).flatten from rfl,this];exact oZ _ _ _
   ·cases hz')
 refine⟨_,_,_,by rw[ex,ey];exact hrun,h.step m2 m1 hd ?_,m2⟩;have:=AA (γ:=γ) (w':=w.alloc (.cells (madeCells ze.cells (c.toNat*ie.size)) gd)) (mem:=σ.mem) (b:=nb+k) (cap:=c.toNat) (blk:=w.heap.size)
  (bx:={ val:=.data (.slice e) (CI l e.zero),tid:=0,buf:=true,ro:=false,lk:=false,aC }) (e:=e) (n:=l.toNat) rfl (by rw[←hlen];rfl)
 exact this
theorem Sc(b:UInt8):IntKind.u8.min≤((b.toNat:Int))∧((b.toNat:Int))≤IntKind.u8.max:=u8_in b
theorem Sd(l:List Int):(⟨(bt l).toArray⟩:ByteArray)=strOfNums l:=rfl
theorem aaB{I:Nat→Nat→Prop}{l:List Int}{v:Value}{src dst e:TypeId}(h:CS w I (.int .u8) l v)(hs:P.underlying src=some (.slice e))(he:P.underlying e=some (.int .u8))(hd:P.underlying dst=some .string) :
  (convert src dst v).run P w=.ok (.string ⟨(bt l).toArray⟩) w∧l.length≤maxLen:=by
 rcases h with ⟨rfl,base,cap,r1,r2,r3⟩|⟨blk,off,cap,r1,r2,r3,r4⟩
 ·rcases r3 with rfl|⟨blk,off,rfl⟩
  ·rw[r1];refine⟨?_,rT _⟩;cases base with
   | none=>exact run_convert_bytes_nil w src e hs he 0 0 dst hd
   | some ad =>
     rw[run_convert_bytes_string w src dst e _ _ _ hs he hd];have hl:(loadCells ad 0).run P w=.ok #[] w:=run_loadCells_list (P:=P) w ad [] (fun j v hv=>by cases hv);simp[Conv.bytesToString,Sem.run_bind,hl,bt];rfl
  ·rw[r1];refine⟨?_,rT _⟩;exact run_convert_bytes_arg w src e hs he blk off 0 cap [] rfl (fun i hi=>by omega) dst hd
 ·rw[r1];refine⟨?_,gY r2 r3⟩;rw[Sd];refine run_convert_bytes_arg w src e hs he blk off l.length cap l rfl (fun i hi=>?_) dst hd;obtain⟨es,g1,g2,g3⟩:=r4 i l[i] (kL hi);obtain⟨rfl,_⟩:=g3;have:=g2 0 _ rfl;simp only[Ty.size,EV,An] at this;rw[this];simp[List.getD,kL hi]
theorem Je(l:List Int):(bt l).length=l.length:=by simp[bt]
theorem bytesRow_at{s:List UInt8}{cap i:Nat}{b:UInt8}(hb:s[i]?=some b):((bytesRow ⟨s.toArray⟩ cap).toList.drop (i*1)).take 1=[.int .u8 (b.toNat:Int)]:=by
 have hi:=(List.getElem?_eq_some_iff.1 hb).1;apply O2;intro j;rw[gN];split
 ·rename_i hj;obtain rfl:j=0:=by omega
  rw[nW];simp only[bytesRow,EV,An,TV,T6];rw[TM (by simpa using hi)];simp[hb]
 ·rename_i hj;rw[TN (by simp;omega)]
theorem Pd(s:ByteArray){cap:Nat}(h:s.size≤cap):(bytesRow s cap).size=cap:=by
 simp only[bytesRow,acQ,Array.size_map,Array.size_replicate];have:s.data.size=s.size:=rfl;omega
theorem MS(hc:gA P cx){nb k:Nat}{src dst:TypeId}{x:Operand}{s:List UInt8}(h:dB B N γ σ a w)(hd:k<N)(hs:find cx.T src=some .str)(hd':find cx.T dst=some (.slice (.int .u8)))
  (hx:cL σ x=.data .str s) (hr:(σ.aQ (nb+k) (.data (.slice (.int .u8)) (ay s)) 0 true fun aC σ=>.ret (σ.put k (.whole (nb+k) aC))).run=some σ') :
  p6 P B N γ σ a w (some k) (convert src dst (a.eval x)) σ':=by
 have hv:=h.cL x;rw[hx] at hv;obtain⟨ex,hl⟩:=zD hv;obtain⟨aC,bF,jP⟩:=eE hr;obtain rfl:=aN jP;obtain⟨gd,f1,f2,f3,f4⟩:=(hc.T _ _ hd').slice;have hrun:=run_bytes_of_string (P:=P) w src dst gd ⟨s.toArray⟩ (hc.T _ _ hs).str f1 f2.int;have hsz:(⟨s.toArray⟩:ByteArray).size=s.length:=by simp[ByteArray.size]
 rw[hsz] at hrun;have hge:=grownCap_ge w s.length 0 gd;have hle:=grownCap_le_maxLen w s.length 0 gd hl;have hrs:=Pd ⟨s.toArray⟩ (cap:=grownCap w s.length 0 gd) (by rw[hsz];exact hge);have hlen:(ay s).length=s.length:=by simp[ay]
 generalize hcap:grownCap w s.length 0 gd=cap at *;obtain⟨m1,m2⟩:=h.ok.R1 (b:=nb+k) (e:=.int .u8) (l:=(ay s:List Int)) (tid:=0) (aC:=aC) (cap:=cap)
  (w':=w.drew.alloc (.cells (bytesRow ⟨s.toArray⟩ cap) gd ((bytesRow ⟨s.toArray⟩ cap).size,(bytesRow ⟨s.toArray⟩ cap).size+1)))
  bF (by decide) ((xw.refl B w).drew.alloc h.ok.base _) (cS w.drew _) (heap_alloc_new w.drew _) ⟨fun o ho hh=>by omega,fun he=>by cases he⟩ (.inl rfl) (gY (O4 hlen) hge) hle
  (by rw[hrs];exact(EV _).symm) (fun i z hz=>by
   have hz':(ay s)[i]?=some z:=hz;simp only[ay,KY] at hz';cases hb:s[i]? with
   | none=>rw[hb] at hz';cases hz'
   | some b =>
     rw[hb] at hz';obtain rfl:(b.toNat:Int)=z:=aN hz';exact⟨bytesRow_at (cap:=cap) hb,Sc b⟩)
 refine⟨_,_,_,by rw[ex];exact hrun,h.step m2 m1 hd ?_,m2⟩;have:=AA (γ:=γ) (mem:=σ.mem) (b:=nb+k) (cap:=cap) (blk:=w.heap.size)
  (bx:={ val:=.data (.slice (.int .u8)) (ay s),tid:=0,buf:=true,ro:=false,lk:=false,aC }) (e:=.int .u8) (n:=s.length)
  (w':=w.drew.alloc (.cells (bytesRow ⟨s.toArray⟩ cap) gd ((bytesRow ⟨s.toArray⟩ cap).size,(bytesRow ⟨s.toArray⟩ cap).size+1))) rfl (by rw[←hlen];rfl)
 exact this
theorem G7(hc:gA P cx){nb:Nat}{src dst:TypeId}{x:Operand}(h:dB B N γ σ a w)(hd:∀k,d=some k→k<N)(hr:(iI cx nb d src dst (cL σ x) σ).run=some σ') :
  p6 P B N γ σ a w d (convert src dst (a.eval x)) σ':=by
 have hv:=h.cL x;unfold iI at hr;split at hr
 ·rename_i ks k kx n hs hd' hx;rw[hx] at hv;obtain⟨ex,_⟩:=vM hv;obtain rfl:=aN hr;refine bU h hd (x:=.int k (k.wrap n)) ?_ (mkInt (ga _ _));rw[ex];simp[convert,run_underlying (hc.T _ _ hs).int,run_underlying (hc.T _ _ hd').int,Conv.intToInt]
 ·rename_i s hs hd' hx;rw[hx] at hv;obtain rfl:=aN hr;obtain⟨ex,hl⟩:=zD hv;refine bU h hd (x:=a.eval x) ?_ hv;rw[ex];simp[convert,run_underlying (hc.T _ _ hs).str,run_underlying (hc.T _ _ hd').str]
 ·rename_i s hs hd' hx;split at hr
  ·rename_i k;obtain⟨hf,hr2⟩:=cF hr;exact MS hc h (hd k rfl) hs hd' hx hr2
  ·exact absurd hr (by intro k;cases k)
 ·rename_i x0 hs hd';split at hr
  ·rename_i l hl;obtain rfl:=aN hr;obtain⟨gd,f1,f2,f3,f4⟩:=(hc.T _ _ hs).slice;obtain⟨r1,r2⟩:=aaB (dst:=dst) (tU h.ok hv hl) f1 f2.int (hc.T _ _ hd').str;refine bU h hd r1 ⟨_,⟨rfl,?_⟩,rfl⟩;exact gY (O4 (Je l)) r2
  ·exact absurd hr (by intro k;cases k)
 ·exact absurd hr (by intro k;cases k)
end
end Go.Ge
namespace Go.Ge
open RowKit
section
variable {P:Program} {B:tJ} {N:Nat} {γ:Gh} {σ σ':St} {a:Act} {w w':World} {d:Option Nat} {cx:Ctx}
def fD(w:World)(I:Nat→Nat→Prop)(e:Ty)(l:List e.den)(cs:List Value):Prop :=
 ∀(i:Nat) (x:e.den),l[i]?=some x→bN w I e x ((cs.drop (i*e.size)).take e.size)
theorem pg{α:Type}{a b:List α}{i s:Nat}(h:(i+1)*s≤a.length):((a++b).drop (i*s)).take s=(a.drop (i*s)).take s:=by
 rw[CF] at h;rw[aah (by omega),aai (by rw[qV];omega)]
theorem fD.append{I:Nat→Nat→Prop}{e:Ty}{l m:List e.den}{c1 c2 rest:List Value}(h1:fD w I e l c1)(h2:fD w I e m c2)(hl1:c1.length=l.length*e.size)(LY:c2.length=m.length*e.size) :
  fD w I e (l++m) (c1++c2++rest):=by
 intro i x hx;rw[TO] at hx;split at hx
 ·rename_i hi;have hm:(i+1)*e.size≤l.length*e.size:=gM _ hi;rw[pZ,pg (by omega)];exact h1 i x hx
 ·rename_i hi;have hj:i-l.length<m.length:=(List.getElem?_eq_some_iff.1 hx).1;have hm:(i-l.length+1)*e.size≤m.length*e.size:=gM _ hj;have e1:i*e.size=c1.length+(i-l.length)*e.size:=by rw[hl1,←iw];congr 1;omega
  rw[pZ,e1,←zw,EG,pg (by omega)];exact h2 _ x hx
theorem fD.front{I:Nat→Nat→Prop}{e:Ty}{l:List e.den}{cs:List Value}{n:Nat}(h:fD w I e l cs)(hn:l.length*e.size≤n)(hc:n≤cs.length):fD w I e l (cs.take n):=by
 intro i x hx;have hi:i<l.length:=(List.getElem?_eq_some_iff.1 hx).1;have hm:(i+1)*e.size≤l.length*e.size:=gM _ hi;have:(((cs.take n)++cs.drop n).drop (i*e.size)).take e.size=((cs.take n).drop (i*e.size)).take e.size:=pg (by rw[cW];omega);rw[←this,CE];exact h i x hx
theorem aga{I:Nat→Nat→Prop}{e:Ty}{m:List e.den}{v:Value}{tx t0 e':TypeId}(hk0:(∃e',P.underlying tx=some (.slice e'))∨P.underlying tx=some .string)(hk:P.underlying t0=some (.slice e'))(h:CS w I e m v) :
  ∃news,Src P e.size tx v m.length news w∧fD w I e m news:=by
 suffices ∃news,Src P e.size t0 v m.length news w∧fD w I e m news by
  obtain⟨news,n1,n2⟩:=this;exact⟨news,⟨hk0,n1.len,n1.cells,n1.cellsD,n1.newsLen,n1.one⟩,n2⟩
 rcases h with ⟨rfl,base,cap,r1,r2,r3⟩|⟨blk,off,cap,r1,r2,r3,r4⟩
 ·refine⟨[],?_,fun i x hx=>by cases hx⟩;rcases r3 with rfl|⟨blk,off,rfl⟩
  ·rw[r1];cases base with
   | none=>exact Src.ofNil w hk 0
   | some ad=>exact Src.ofSlice w hk ad 0 0 [] (by simp) (fun j u hj=>by cases hj) (fun u hu=>by cases hu)
  ·rw[r1];exact Src.ofSlice w hk _ 0 cap [] (by simp) (fun j u hj=>by cases hj) (fun u hu=>by cases hu)
 ·obtain⟨news,n1,n2,n3,n4⟩:=FW (w:=w) r4;refine⟨news,?_,n4⟩;rw[r1];exact Src.ofSlice w hk _ m.length cap news n1 (fun j u hj=>by rw[addr_add];exact n2 j u hj) n3
theorem agb{I:Nat→Nat→Prop}{s:List UInt8}{tx:TypeId}(hk:(∃e',P.underlying tx=some (.slice e'))∨P.underlying tx=some .string) :
  ∃news,Src P 1 tx (.string ⟨s.toArray⟩) (ay s).length news w∧fD w I (.int .u8) (ay s:List Int) news:=by
 have hlen:(ay s).length=(⟨s.toArray⟩:ByteArray).size:=by simp[ay,ByteArray.size]
 refine⟨byteCells ⟨s.toArray⟩,by rw[hlen];exact⟨hk,fun _=>rfl,firstCells_string _ w,firstCells_string _ w.drew,by rw[byteCells_length,EV],fun u hu=>by
  obtain⟨_,_,rfl⟩:=List.mem_map.1 hu;rfl⟩,fun i x hx=>?_⟩
 have hx':(ay s)[i]?=some x:=hx;simp only[ay,KY] at hx';cases hb:s[i]? with
 | none=>rw[hb] at hx';cases hx'
 | some b =>
   rw[hb] at hx';obtain rfl:(b.toNat:Int)=x:=aN hx';refine⟨?_,Sc b⟩;apply O2;intro j;rw[gN];split
   ·rename_i hj;obtain rfl:j=0:=by simp[Ty.size] at hj;exact hj
    rw[nW];simp[byteCells,Ty.size,hb]
   ·rename_i hj;rw[TN (by simp[Ty.size] at hj⊢;omega)]
theorem CW{I:Nat→Nat→Prop}{t tx ty gd:TypeId}{e:Ty}{l m:List e.den}{base:Option Addr}{sCap:Nat}{olds news:List Value}{x:Value}(ht:P.underlying t=some (.slice gd))(he:Den P e gd)(hb:I6 P gd=true)
  (hold:(Builtin.firstCells e.size l.length (.slice base l.length sCap)).run P w.drew=.ok olds.toArray w.drew) (hol:olds.length=l.length*e.size) (ho:fD w I e l olds)
  (hs:Src P e.size tx x m.length news w) (hn:fD w I e m news) (hg:sCap<l.length+m.length) (hf:l.length+m.length≤4294967296) :
  ∃(cap:Nat) (cells:Array Value),(Builtin.append_ #[t,tx] ty #[.slice base l.length sCap,x]).run P w=.ok (.slice (some ⟨w.heap.size,0,none⟩) (l.length+m.length) cap) (w.drew.alloc (.cells cells gd)) ∧
   l.length+m.length≤cap∧cap≤maxLen∧cells.size=cap*e.size∧fD w I e (l++m) cells.toList:=by
 obtain⟨ie,ze,e1,e2,e3,e4⟩:=he.info;have hby:=CV hb e1;have hfit:=growslice_fits (need:=l.length+m.length) (old:=sCap) (bytes:=ie.bytes) hg (by
  have:(l.length+m.length)*ie.bytes≤4294967296*32768:=Nat.mul_le_mul hf hby;omega)
 have hrun:=run_append_grow_src (P:=P) w t tx ty gd ie ze ht e1 e3 base l.length sCap olds (by rw[e2];exact hold) x m.length news (by rw[e2];exact hs) hg (by omega) hfit;have hge:=grownCap_ge w (l.length+m.length) sCap gd;have hle:=grownCap_le_maxLen w (l.length+m.length) sCap gd (by have:=FY;omega);have hzl:ze.cells.size=e.size:=by rw[←en e,←e4];simp
 refine⟨_,_,hrun,hge,hle,?_,?_⟩
 ·have hnl:=hs.newsLen;have hsz:(Builtin.zeroCells ze.cells (grownCap w (l.length+m.length) sCap gd-(l.length+m.length))).size=(grownCap w (l.length+m.length) sCap gd-(l.length+m.length))*e.size:=by
   simp[Builtin.zeroCells,hzl]
  rw[acQ,hsz];simp only[KX,iO,hol,hnl];rw[←iw,←iw]
  congr 1;omega
 ·rw[TV];exact ho.append hn hol hs.newsLen
theorem bK.grow{mem:Nat→Option Box}(h:bK B γ mem w){b:Nat}{bx:Box}(hb:mem b=some bx){e:Ty}{l l':List e.den}(bO:bx.buf=true)(hval:bx.val=.data (.slice e) l){blk cap:Nat}(hl:γ.loc b=some (blk,cap))
  {cur cur':Array Value} {t:TypeId} {fr:Nat×Nat} (hg:w.heap[blk]?=some (.cells cur t fr)) (MG:ThB e cur fr) (jb:bx.tid=0∨t=bx.tid) (hs:cur'.size=cur.size) (hsame:∀o,o<l.length*e.size→cur'[o]?=cur[o]?)
  (he:0<e.size) (hle:l.length≤l'.length) (hcap:l'.length≤cap) (hmax:cap≤maxLen) (hsz:cur.size=cap*e.size) (hel:fD w γ.I e l' cur'.toList) :
  let iJ:Box:={ bx with val:=.data (.slice e) l',aC:=bx.aC+1 }
  bK B γ (cQ mem b iJ) (w.setRow blk cur')∧Ext B γ mem w γ (cQ mem b iJ) (w.setRow blk cur'):=by
 intro iJ;have hf:=h.fresh b blk cap (by rw[hb];simp) hl;have hblk:=setRow_heap w blk cur cur' t fr hg;have zC:∀i,i≠blk→(w.setRow blk cur').heap[i]?=w.heap[i]?:=fun i hi=>setRow_other w blk i cur' (fun e=>hi e);have hrow:=Box.dZ bO hval;have hx:Ext B γ mem w γ (cQ mem b iJ) (w.setRow blk cur') :=
  { below:=⟨rfl,rfl,rfl,by simp,fun i hi=>zC i (fun e=>hi (by rw[e];exact hf.1))⟩
    I:=fun _ _ x=>x
    sg:=fun _ _ x=>.inl x
    cells:=fun c o x=>by
     by_cases e':c=blk
     ·subst e';have:=(h.sep b bx c cap o hb hl x).2 bO e l.length hrow;rw[cell_of_heap hblk,cell_of_heap hg];exact hsame o this
     ·exact dF (zC c e')
    boxes:=fun c cx hc=>by
     by_cases e':c=b
     ·subst e';obtain rfl:cx=bx:=aN (hc.symm.trans hb);exact⟨iJ,bL _ _,Nat.le_succ _,fun k=>absurd k (by simp[iJ])⟩
     ·exact⟨cx,by rw[aR _ e'];exact hc,cU _,fun _=>⟨rfl,rfl,rfl⟩⟩ }
 refine⟨?_,hx⟩;exact
  { bp:=h.GV hx
    base:=by have:=h.base;simpa using this
    boxes:=fun c cx hc=>by
     by_cases e':c=b
     ·subst e';rw[bL] at hc;obtain rfl:=aN hc;unfold cR;simp only[iJ,bO];exact⟨e,l',rfl,he,.inr ⟨blk,cap,cur',t,fr,hl,hblk,MG.same hs,jb,hcap,hmax,by rw[hs];exact hsz,fun i x hi=>bN.mono hx.I hx.cells (hel i x hi)⟩⟩
     ·rw[aR _ e'] at hc;refine(h.boxes c cx hc).keep hx rfl fun dX k' hl'=>zC dX fun e2=>e' ?_;subst e2;exact h.inj c b dX k' cap (by rw[hc];simp) (by rw[hb];simp) hl' hl
    inj:=fun c d dX k1 k2 hc hd h1 h2=>h.inj c d dX k1 k2 (by
     by_cases e:c=b
     ·subst e;rw[hb];simp
     ·rwa [aR _ e] at hc) (by
     by_cases e:d=b
     ·subst e;rw[hb];simp
     ·rwa [aR _ e] at hd) h1 h2
    fresh:=fun c dX k' hc h1=>by
     have:=h.fresh c dX k' (by
      by_cases e:c=b
      ·subst e;rw[hb];simp
      ·rwa [aR _ e] at hc) h1
     exact⟨this.1,by simpa using this.2⟩
    we:=fun dX off hi=>by have:=h.we dX off hi;simpa using this
    sep:=fun c cx dX k' off hc h1 hi=>by
     by_cases e':c=b
     ·subst e';rw[bL] at hc;obtain rfl:=aN hc;obtain⟨s1,s2⟩:=h.sep c bx dX k' off hb h1 hi;refine⟨s1,fun _ u n hr=>?_⟩;have hr2:iJ.row=some (e,l'.length):=Box.dZ (bx:=iJ) bO rfl;rw[hr2] at hr;obtain⟨rfl,rfl⟩:=e9 (aN hr);have:=s2 bO e l.length hrow;exact GI this (gM _ hle)
     ·rw[aR _ e'] at hc;exact h.sep c cx dX k' off hc h1 hi }
theorem ads(hm:bK B γ σ.mem w){e:Ty}{m:List e.den}{x:aS}{v:Value}{tx t0 e':TypeId}(hk0:(∃e',P.underlying tx=some (.slice e'))∨P.underlying tx=some .string)(hk:P.underlying t0=some (.slice e'))
  (hv:cI γ σ.mem w x .val [v]) (h:xk e σ x=some m):∃news,Src P e.size tx v m.length news w∧fD w γ.I e m news:=by
 unfold xk at h;split at h
 ·rename_i t;obtain⟨q,hq⟩:=mC h;subst q;subst hq;obtain⟨ev,_⟩:=zD hv;rw[ev];exact agb hk0
 ·exact aga hk0 hk (tU hm hv h)
theorem Bm{α:Type}{c:Bool}{t:Tree α}{y:α}(h:(bif c then .fail else t).run=some y):c=false∧t.run=some y:=by
 cases c with
 | true=>cases h
 | false=>exact⟨rfl,h⟩
theorem sj{base:Option Addr}{t tx ty gd:TypeId}{size:Nat}{x:Value}{news:List Value}(ht:P.underlying t=some (.slice gd))(hsz:(Go.sizeOf gd).run P w=.ok size w)(hs:Src P size tx x 0 news w) :
  (Builtin.append_ #[t,tx] ty #[.slice base 0 0,x]).run P w=.ok (.slice base 0 0) w:=by
 cases base with
 | none=>rcases hs.kind with ⟨e',hk⟩|hk<;>simp[Builtin.append_,run_underlying ht,run_underlying hk,hsz,hs.len,hs.cells]
 | some ad =>
   have hn:news=[]:=by have:=hs.newsLen;simpa using this
   subst hn;rcases hs.kind with ⟨e',hk⟩|hk<;>simp[Builtin.append_,run_underlying ht,run_underlying hk,hsz,hs.len,hs.cells,storeCells]
theorem EN(size:Nat)(base:Option Addr):(Builtin.firstCells size 0 (.slice base 0 0)).run P w=.ok #[] w:=by
 cases base with
 | none=>exact run_firstCells_none w size 0 0 0
 | some ad=>exact run_firstCells_some w size 0 ad 0 0 [] (by simp) (fun j v hj=>by cases hj)
theorem lW{t tx ty gd:TypeId}{size:Nat}{x:Value}{news:List Value}{n sLen sCap blk:Nat}{cur:Array Value}{tt:TypeId}{fr:Nat×Nat}(ht:P.underlying t=some (.slice gd))(hsz:(Go.sizeOf gd).run P w=.ok size w)
  (hs:Src P size tx x n news w) (hg:w.heap[blk]?=some (.cells cur tt fr)) (MG:nw cur fr) (hroom:sLen+n≤sCap) (hle:sLen*size+news.length≤cur.size) :
  (Builtin.append_ #[t,tx] ty #[.slice (some ⟨blk,0,none⟩) sLen sCap,x]).run P w=.ok (.slice (some ⟨blk,0,none⟩) (sLen+n) sCap) (w.setRow blk (splice cur.toList (sLen*size) news).toArray):=by
 have hst:=cZ (P:=P) blk (sLen*size) tt fr news 0 cur w hg MG (by omega) hs.one;simp only[An] at hst;rcases hs.kind with ⟨e',hk⟩|hk<;>simp[Builtin.append_,run_underlying ht,run_underlying hk,hsz,hs.len,hroom,hs.cells,addr_add,hst]
theorem FZ{cs es:List Value}{k o:Nat}(h:o<k)(hk:k≤cs.length):(splice cs k es)[o]?=cs[o]?:=by
 rw[splice,pZ,TM (by rw[cW];omega),gN,bu h]
theorem Jf(hc:gA P cx){nb:Nat}{t tx ty:TypeId}{s x:Operand}(h:dB B N γ σ a w)(hd:∀k,d=some k→k<N)(hk0:(∃e',P.underlying tx=some (.slice e'))∨P.underlying tx=some .string)
  (hr:(iZ cx nb d t (cL σ s) (cL σ x) σ).run=some σ'):p6 P B N γ σ a w d (Builtin.append_ #[t,tx] ty #[a.eval s,a.eval x]) σ':=by
 have hvs:=h.cL s;have hvx:=h.cL x;unfold iZ at hr;split at hr
 case h_2=>exact absurd hr (by intro k;cases k)
 rename_i _ _ k e hT;obtain⟨gd,f1,f2,f3,f4⟩:=(hc.T _ _ hT).slice;have hsz:=f2.sizeOf w;split at hr
 case h_2=>exact absurd hr (by intro k;cases k)
 rename_i m hm;have hm:xk e σ (cL σ x)=some m:=hm;obtain⟨news,n1,n2⟩:=ads h.ok hk0 f1 hvx hm;split at hr
 ·rename_i hs;rw[hs] at hvs;obtain hes:a.eval s=_:=by simpa [cI] using hvs
  obtain⟨hf,hr2⟩:=cF hr;have hf:m.length≤4294967296:=G6 hf;obtain⟨aC,bF,jP⟩:=eE hr2;obtain rfl:=aN jP;rw[hes];rcases TX m.length with h0|h0
  ·obtain rfl:m=[]:=List.length_eq_zero_iff.1 h0;obtain⟨m1,m2⟩:=h.ok.MJ (b:=nb+k) (tid:=0) bF f4;refine⟨_,_,_,sj f1 hsz n1,h.step m2 m1 (hd k rfl) ?_,m2⟩;exact⟨⟨_,rfl,rfl⟩,iP (bL _ _) rfl ⟨e,0,rfl,rfl,.inl ⟨by simp[bT],rfl⟩⟩⟩
  ·obtain⟨cap,cells,g1,g2,g3,g4,g5⟩:=CW (I:=γ.I) (ty:=ty) (l:=([]:List e.den)) (base:=none) (sCap:=0) (olds:=[]) f1 f2 f3 (by simpa using run_firstCells_none w.drew e.size 0 0 0) (by simp) (fun i x hx=>by cases hx) n1 n2
    (by simpa using h0) (by simpa using hf)
   simp only[ig,ym,zu] at g1 g2 g5;obtain⟨m1,m2⟩:=h.ok.R1 (b:=nb+k) (e:=e) (l:=m) (tid:=0) (aC:=aC) (cap:=cap) bF f4 ((xw.refl B w).drew.alloc h.ok.base _) (cS w.drew _) (heap_alloc_new w.drew _) (Ax _ _) (.inl rfl) g2 g3 g4 g5;refine⟨_,_,_,g1,h.step m2 m1 (hd k rfl) ?_,m2⟩;exact AA (bx:={ val:=.data (.slice e) m,tid:=0,buf:=true,ro:=false,lk:=false,aC }) (e:=e) (n:=m.length) rfl rfl
 ·rename_i b aC hs;rw[hs] at hvs;split at hr
  case h_2=>exact absurd hr (by intro k;cases k)
  rename_i bx l hb hl;obtain⟨iJ,hb',bF,bO,oW⟩:∃bx,σ.mem b=some bx∧bx.aC=aC∧bx.buf=true∧bx.val=.data (.slice e) l:=by
   rcases ob hl with q|⟨q,_⟩|⟨b',WZ,iJ,q,h1,h2,h3,h4⟩|⟨_,_,_,_,_,q,_⟩
   ·cases q
   ·cases q
   ·cases q;exact⟨iJ,h1,h2,h3,h4⟩
   ·cases q
  obtain rfl:bx=iJ:=aN (hb.symm.trans hb')
  ·obtain⟨hlk,kW⟩:=Bm hr;obtain⟨hf,hr2⟩:=cF kW;obtain rfl:=aN hr2;have hf:l.length+m.length≤4294967296:=by
    have:fits (((l.length+m.length:Nat)):Int)=true:=by rw[←hf];simp[plus,len]
    exact G6 this
   have jb:bx.tid=0∨gd=bx.tid:=by
    simp only[Al,WK] at hlk;have h2:=hlk.2;unfold ahW at h2;simp only[zv] at h2;rcases h2 with h2|h2
    ·exact .inl (gz h2)
    ·split at h2
     ·rename_i e' he';have:=hc.els _ _ he';rw[f1] at this;have h4:gd=e':=by injection this with this;injection this
      exact .inr (h4.trans (gz h2))
     ·cases h2
   subst bF;obtain⟨e2,n2',g1,g2,g3⟩:=bC hb rfl hvs.2;rw[Box.dZ bO oW] at g2;obtain⟨rfl,rfl⟩:=e9 (aN g2);have jt:=h.ok.boxes b bx hb;rw[cR,bO] at jt;obtain⟨e3,l3,q1,q2,q3⟩:=jt;rw[oW] at q1;cases q1;have Xa:(app (α:=e.den) l m).length=l.length+m.length:=iO;rcases g3 with ⟨g3,g4⟩|⟨blk,cap,g3,g4⟩
   ·obtain hes:a.eval s=_:=by simpa using g4
    have hl0:l=[]:=by
     rcases q3 with ⟨_,q3⟩|⟨blk,cap,cur,tid,fr,q3,_⟩
     ·exact q3
     ·rw[g3] at q3;cases q3
    subst hl0;rw[hes];rcases TX m.length with h0|h0
    ·obtain rfl:m=[]:=List.length_eq_zero_iff.1 h0;have tK:cR (bT γ b none) (cQ σ.mem b { bx with val:=.data (.slice e) ([]:List e.den),aC:=bx.aC+1 }) w b { bx with val:=.data (.slice e) ([]:List e.den),aC:=bx.aC+1 }:=by
      unfold cR;simp only[bO];exact⟨e,[],rfl,f4,.inl ⟨by simp[bT],rfl⟩⟩
     have QO:∀dM,σ.mem b=some dM→dM.aC<bx.aC+1:=fun dM h0=>by rw[hb] at h0;obtain rfl:=aN h0;omega
     have m1:=h.ok.add (L:=none) QO (xw.refl B w) (fun _ _=>rfl) (fun blk k e=>by cases e) tK;have m2:=wB (L:=none) h.ok (bx:={ bx with val:=.data (.slice e) ([]:List e.den),aC:=bx.aC+1 }) QO (xw.refl B w) (fun _ _=>rfl);refine⟨_,_,_,sj f1 hsz n1,h.step m2 m1 (hd k rfl) ?_,m2⟩;exact⟨⟨_,rfl,rfl⟩,iP (bL _ _) rfl ⟨e,0,bO,Box.dZ (bx:={ bx with val:=.data (.slice e) ([]:List e.den),aC:=bx.aC+1 }) bO rfl,.inl ⟨by simp[bT],rfl⟩⟩⟩
    ·obtain⟨cap,cells,j1,j2,j3,j4,j5⟩:=CW (I:=γ.I) (ty:=ty) (l:=([]:List e.den)) (base:=none) (sCap:=0) (olds:=[]) f1 f2 f3 (by simpa using EN (w:=w.drew) e.size none) (by simp) (fun i x hx=>by cases hx) n1 n2
      (by simpa using h0) (by simpa using hf)
     have QO:∀dM,σ.mem b=some dM→dM.aC<bx.aC+1:=fun dM h0=>by rw[hb] at h0;obtain rfl:=aN h0;omega
     have hw:xw B w (w.drew.alloc (.cells cells gd)):=(xw.refl B w).drew.alloc h.ok.base _;have m2:=wB (L:=some (w.heap.size,cap)) h.ok (bx:={ bx with val:=.data (.slice e) (app (α:=e.den) [] m),aC:=bx.aC+1 }) QO hw (cS w.drew _);have tK:cR (bT γ b (some (w.heap.size,cap))) (cQ σ.mem b { bx with val:=.data (.slice e) (app (α:=e.den) [] m),aC:=bx.aC+1 }) (w.drew.alloc (.cells cells gd)) b { bx with val:=.data (.slice e) (app (α:=e.den) [] m),aC:=bx.aC+1 }:=by
      unfold cR;simp only[bO];exact⟨e,_,rfl,f4,.inr ⟨w.heap.size,cap,cells,gd,(0,0),by simp[bT],heap_alloc_new w.drew _,Ax _ _,jb,by rw[Xa];exact j2,j3,j4,fun i x hi=>bN.mono m2.I m2.cells (j5 i x hi)⟩⟩
     have m1:=h.ok.add (L:=some (w.heap.size,cap)) QO hw (cS w.drew _) (fun blk k e=>by obtain⟨rfl,rfl⟩:=e9 (aN e);exact⟨cU _,(Array.getElem?_eq_some_iff.1 (heap_alloc_new w.drew _)).1⟩) tK;refine⟨_,_,_,j1,h.step m2 m1 (hd k rfl) ?_,m2⟩;exact AA (bx:={ bx with val:=.data (.slice e) (app (α:=e.den) [] m),aC:=bx.aC+1 }) (e:=e) (n:=List.length (α:=e.den) []+m.length) bO (by rw[←Xa];exact Box.dZ (bx:={ bx with val:=.data (.slice e) (app (α:=e.den) [] m),aC:=bx.aC+1 }) bO rfl)
   ·obtain hes:a.eval s=_:=by simpa using g4
    rw[hes];rcases q3 with ⟨q3,_⟩|⟨dX,cap',cur,tid,fr,q3,q4,q5,ajK,q6,q7,q8,q9⟩
    ·rw[g3] at q3;cases q3
    rw[g3] at q3;obtain⟨rfl,rfl⟩:=e9 (aN q3);have hcl:cur.toList.length=cap*e.size:=by simpa using q8
    have hlc:l.length*e.size≤cap*e.size:=gM _ q6;rcases xe cap (l.length+m.length) with hgt|hle
    ·have hfc:=run_firstCells_some (P:=P) w.drew e.size l.length ⟨blk,0,none⟩ l.length cap (cur.toList.take (l.length*e.size)) (by rw[cW];omega) (fun j v hj=>by
      rw[addr_add];show w.cell? ⟨blk,0+j,none⟩=some v
      rw[cell_of_heap q4];rw[gN] at hj;split at hj
      ·simpa using hj
      ·cases hj)
     obtain⟨cap2,cells,j1,j2,j3,j4,j5⟩:=CW (I:=γ.I) (ty:=ty) (l:=l) (base:=some ⟨blk,0,none⟩) (sCap:=cap) f1 f2 f3 hfc (by rw[cW];omega) (fD.front q9 (cU _) (by omega)) n1 n2 hgt hf;have QO:∀dM,σ.mem b=some dM→dM.aC<bx.aC+1:=fun dM h0=>by rw[hb] at h0;obtain rfl:=aN h0;omega
     have hw:xw B w (w.drew.alloc (.cells cells gd)):=(xw.refl B w).drew.alloc h.ok.base _;have m2:=wB (L:=some (w.heap.size,cap2)) h.ok (bx:={ bx with val:=.data (.slice e) (app (α:=e.den) l m),aC:=bx.aC+1 }) QO hw (cS w.drew _);have tK:cR (bT γ b (some (w.heap.size,cap2))) (cQ σ.mem b { bx with val:=.data (.slice e) (app (α:=e.den) l m),aC:=bx.aC+1 }) (w.drew.alloc (.cells cells gd)) b { bx with val:=.data (.slice e) (app (α:=e.den) l m),aC:=bx.aC+1 }:=by
      unfold cR;simp only[bO];exact⟨e,_,rfl,f4,.inr ⟨w.heap.size,cap2,cells,gd,(0,0),by simp[bT],heap_alloc_new w.drew _,Ax _ _,jb,by rw[Xa];exact j2,j3,j4,fun i x hi=>bN.mono m2.I m2.cells (j5 i x hi)⟩⟩
     have m1:=h.ok.add (L:=some (w.heap.size,cap2)) QO hw (cS w.drew _) (fun blk k e=>by obtain⟨rfl,rfl⟩:=e9 (aN e);exact⟨cU _,(Array.getElem?_eq_some_iff.1 (heap_alloc_new w.drew _)).1⟩) tK;refine⟨_,_,_,j1,h.step m2 m1 (hd k rfl) ?_,m2⟩;exact AA (bx:={ bx with val:=.data (.slice e) (app (α:=e.den) l m),aC:=bx.aC+1 }) (e:=e) (n:=l.length+m.length) bO (by rw[←Xa];exact Box.dZ (bx:={ bx with val:=.data (.slice e) (app (α:=e.den) l m),aC:=bx.aC+1 }) bO rfl)
    ·have hnl:=n1.newsLen;have hmul:(l.length+m.length)*e.size≤cap*e.size:=gM _ hle;rw[iw] at hmul;have hlen:l.length*e.size+news.length≤cur.toList.length:=by rw[hnl,hcl];exact hmul
     have hrun:=lW (P:=P) (t:=t) (tx:=tx) (ty:=ty) (sCap:=cap) f1 hsz n1 q4 q5.th hle (by simpa using hlen);have adq:(splice cur.toList (l.length*e.size) news).toArray.size=cur.size:=by have:=bS hlen;simpa using this
     obtain⟨m1,m2⟩:=h.ok.grow hb bO oW g3 q4 q5 ajK (cur':=(splice cur.toList (l.length*e.size) news).toArray) (l':=app (α:=e.den) l m) adq (fun o ho=>by
      have:=FZ (es:=news) ho (by omega:l.length*e.size≤cur.toList.length);simpa using this) f4 (by rw[Xa];omega) (by rw[Xa];exact hle) q7 q8 (by
      have:=(fD.front q9 (cU _) (by omega:l.length*e.size≤cur.toList.length)).append (rest:=cur.toList.drop (l.length*e.size+news.length)) n2 (by rw[cW];omega) hnl;exact this)
     refine⟨_,_,γ,hrun,h.step m2 m1 (hd k rfl) ?_,m2⟩;exact⟨⟨_,rfl,rfl⟩,iP (bL _ _) rfl ⟨e,l.length+m.length,bO,by rw[←Xa];exact Box.dZ (bx:={ bx with val:=.data (.slice e) (app (α:=e.den) l m),aC:=bx.aC+1 }) bO rfl,.inr ⟨blk,cap,g3,rfl⟩⟩⟩
 ·exact absurd hr (by intro k;cases k)
end
end Go.Ge
namespace Go.Ge
open RowKit
def ju(w:World)(I:Nat→Nat→Prop):(A:Ty)→A.den→List Value→Prop
 | .pair t r,x,vs=>∃cs rest,vs=cM t cs::rest∧bN w I t x.1 cs∧ju w I r x.2 rest
 | .unit,_,vs=>vs=[]
 | _,_,_=>False
def oe(w:World)(I:Nat→Nat→Prop)(R:Ty)(y:R.den)(v:Value):Prop:=cI ⟨I,fun _=>none⟩ (fun _=>none) w (xh R y) .val [v]
structure Holds (P:Program) (G:jN) (f:Nat) (c:dA):Prop where
 body:∃fn code,P.funcs[f]?=some fn∧(fn.name == "runtime.NumGoroutine")=false∧fn.body=some code
 calls:∀(I:Nat→Nat→Prop) (w:World) (args:Array Value) (x:c.A.den) (y:c.R.den),(∀b o,I b o→b<w.heap.size)→I5 G w→ju w I c.A x args.toList→c.spec x=some y →
  Calls P f args w fun e w'=>∃v I',e=.returned v∧Below w.heap.size w w'∧(∀b o,I b o→I' b o)∧(∀b o,I' b o→b<w'.heap.size)∧(∀b o,I' b o→¬I b o→w.heap.size≤b)∧oe w' I' c.R y v
def MT(P:Program)(G:jN)(name:String)(c:dA):Prop :=
 ∀(I:Nat→Nat→Prop) (w:World) (v:Value) (xs:List Value) (x:c.A.den) (y:c.R.den),(∀b o,I b o→b<w.heap.size)→I5 G w→ju w I c.A x (v::xs)→c.spec x=some y →
  ∃f u,(callMethod v name xs.toArray).run P w=(callFunc f (u::xs).toArray).run P w∧(∃fn code,P.funcs[f]?=some fn∧(fn.name == "runtime.NumGoroutine")=false∧fn.body=some code) ∧
  Calls P f (u::xs).toArray w fun e w'=>∃v I',e=.returned v∧Below w.heap.size w w'∧(∀b o,I b o→I' b o)∧(∀b o,I' b o→b<w'.heap.size)∧(∀b o,I' b o→¬I b o→w.heap.size≤b)∧oe w' I' c.R y v
theorem bK.far{B:tJ}{γ:Gh}{mem:Nat→Option Box}{w w':World}(h:bK B γ mem w)(hw:Below w.heap.size w w'){I':Nat→Nat→Prop}(hI:∀b o,γ.I b o→I' b o)(ah2:∀b o,I' b o→b<w'.heap.size)
  (hnew:∀b o,I' b o→¬γ.I b o→w.heap.size≤b):bK B ⟨I',γ.loc⟩ mem w'∧Ext B γ mem w ⟨I',γ.loc⟩ mem w':=by
 have hx:Ext B γ mem w ⟨I',γ.loc⟩ mem w' :=
  { below:=.of ⟨hw.os,hw.tape,hw.output,hw.size,fun k hk=>hw.block k (GI hk h.base)⟩
    I:=hI
    sg:=fun b o x=>by
     by_cases hi:γ.I b o
     ·exact .inl hi
     ·exact .inr (.inl (gY h.base (hnew b o x hi)))
    cells:=fun b o hi=>dF (hw.block b (h.we b o hi))
    boxes:=fun b bx hb=>⟨bx,hb,cU _,fun _=>⟨rfl,rfl,rfl⟩⟩ }
 refine⟨?_,hx⟩;exact
  { bp:=h.GV hx
    base:=gY h.base hw.size
    boxes:=fun b bx hb=>(h.boxes b bx hb).keep hx rfl fun blk k hl=>hw.block blk (h.fresh b blk k (by rw[hb];simp) hl).2
    inj:=h.inj
    fresh:=fun b blk k hb hl=>by have:=h.fresh b blk k hb hl;exact⟨this.1,GI this.2 hw.size⟩
    we:=ah2
    sep:=fun b bx blk k off hb hl hi=>by
     by_cases hi0:γ.I blk off
     ·exact h.sep b bx blk k off hb hl hi0
     ·have h1:=hnew blk off hi hi0;have h2:=(h.fresh b blk k (by rw[hb];simp) hl).2;omega }
theorem aaC{w:World}{γ γ':Gh}{mem mem':Nat→Option Box}(hI:∀b o,γ.I b o→γ'.I b o):∀{R:Ty} {y:R.den} {vs:List Value},cI γ mem w (CK R y) .many vs→cI γ' mem' w (CK R y) .many vs:=by
 intro R;induction R with
 | pair t r Mw ihr =>
   intro y vs h;obtain⟨v,rest,h0,⟨cs,h1,h2⟩,h3⟩:=h;exact⟨v,rest,h0,⟨cs,bN.mono hI (fun _ _ _=>rfl) h1,h2⟩,ihr h3⟩
 | _=>intro y vs h;exact h
theorem G8(R:Ty)(y:R.den):(∃t,∃q:R=.pair t .unit,xh R y=.data t (show(Ty.pair t .unit).den from q▸y).1)∨xh R y=.FQ (CK R y):=by
 cases R with
 | pair t r =>
   cases r with
   | unit=>exact .inl ⟨t,rfl,rfl⟩
   | _=>exact .inr rfl
 | _=>exact .inr rfl
theorem oe.rep{w:World}{I:Nat→Nat→Prop}{R:Ty}{y:R.den}{v:Value}(h:oe w I R y v){γ:Gh}{mem:Nat→Option Box}(hI:∀b o,I b o→γ.I b o):cI γ mem w (xh R y) .val [v]:=by
 unfold oe at h;rcases G8 R y with ⟨t,q,hq⟩|hq
 ·rw[hq] at h⊢;obtain⟨cs,h1,h2⟩:=h;exact⟨cs,bN.mono hI (fun _ _ _=>rfl) h1,h2⟩
 ·rw[hq] at h⊢;obtain⟨arr,h1,h2⟩:=h;exact⟨arr,h1,aaC hI h2⟩
theorem MU{w w':World}{γ γ':Gh}{mem mem':Nat→Option Box}:∀{R:Ty} {y:R.den} {vs:List Value},R.flat=true→cI γ mem w (CK R y) .many vs→cI γ' mem' w' (CK R y) .many vs:=by
 intro R;induction R with
 | pair t r Mw ihr =>
   intro y vs hf h;simp only[Ty.flat,dW] at hf;obtain⟨v,rest,h0,⟨cs,h1,h2⟩,h3⟩:=h;exact⟨v,rest,h0,⟨cs,bN.flat hf.1 h1,h2⟩,ihr hf.2 h3⟩
 | _=>intro y vs hf h;exact h
theorem oe.flat{w w':World}{I:Nat→Nat→Prop}{R:Ty}{y:R.den}{v:Value}(h:oe w I R y v){γ:Gh}{mem:Nat→Option Box}(hf:R.flat=true):cI γ mem w' (xh R y) .val [v]:=by
 unfold oe at h;rcases G8 R y with ⟨t,q,hq⟩|hq
 ·rw[hq] at h⊢;subst q;simp only[Ty.flat,dW] at hf;obtain⟨cs,h1,h2⟩:=h;exact⟨cs,bN.flat hf.1 h1,h2⟩
 ·rw[hq] at h⊢;obtain⟨arr,h1,h2⟩:=h;exact⟨arr,h1,MU hf h2⟩
section
variable {P:Program} {B:tJ} {N:Nat} {γ:Gh} {σ σ':St} {a:Act} {w w':World} {d:Option Nat} {cx:Ctx}
theorem CS.alJ{I I':Nat→Nat→Prop}{e:Ty}{l:List e.den}{v:Value}(h:CS w I e l v)(hI:∀b o,I b o→I' b o)(hc:∀blk off cap,v=.slice (some ⟨blk,off,none⟩) l.length cap→l≠[]→∀o,I' blk o) :
  bN w I' (.slice e) l [v]:=by
 rcases h with ⟨rfl,base,cap,r1,r2,r3⟩|⟨blk,off,cap,r1,r2,r3,r4⟩
 ·rcases r3 with rfl|⟨blk,off,rfl⟩
  ·exact .inl ⟨⟨base,by rw[r1]⟩,rfl⟩
  ·exact .inr ⟨blk,off,cap,by rw[r1];rfl,rT _,r2,fun i x hx=>by cases hx⟩
 ·refine .inr ⟨blk,off,cap,by rw[r1],r2,r3,fun i x hx=>?_⟩;obtain⟨es,g1,g2,g3⟩:=r4 i x hx;exact⟨es,g1,fun j c hj=>⟨g2 j c hj,hc blk off cap r1 (fun e=>by rw[e] at hx;cases hx) _⟩,bN.mono hI (fun _ _ _=>rfl) g3⟩
theorem Se(hm:bK B γ σ.mem w){e:Ty}{v:aS}{l:List e.den}{blk off n cap:Nat}(hv:cI γ σ.mem w v .val [.slice (some ⟨blk,off,none⟩) n cap])(hl:gZ e σ v=some l)(hne:l≠[]) :
  (∃q,v=.data (.slice e) q)∨(B.has blk∧blk<w.heap.size):=by
 rcases ob hl with rfl|⟨rfl,rfl⟩|⟨b,aC,bx,rfl,hb,bF,bO,oW⟩|⟨b,aC,lo,n',bx,rfl,hb,bF,LY⟩
 ·exact .inl ⟨_,rfl⟩
 ·exact absurd rfl hne
 ·obtain⟨e',k,g1,g2,g3⟩:=bC hb bF hv.2;rcases g3 with ⟨g3,g4⟩|⟨dX,cap',g3,g4⟩
  ·exfalso;have jt:=hm.boxes b bx hb;rw[cR,bO] at jt;obtain⟨e3,l3,q1,q2,q3⟩:=jt;rw[oW] at q1;cases q1;rcases q3 with ⟨_,q3⟩|⟨_,_,_,_,_,q3,_⟩
   ·exact hne q3
   ·rw[g3] at q3;cases q3
  ·have q1:blk=dX:=by
    have:=zq g4;injection this with q1 _ _
    injection q1 with q1
    injection q1
   subst q1;exact .inr (hm.fresh b blk cap' (by rw[hb];simp) g3)
 ·obtain⟨e',k,g2,g3,g4,g5,base,cap',g6,g7,g8,gF,g9⟩:=bC hb bF hv.2;have g6':=zq g6;rcases g9 with g9|⟨dX,c,g9,g10⟩
  ·exfalso;apply hne;rcases LY with ⟨_,l0,_,rfl⟩|⟨_,k0,l0,_,rfl⟩<;>simp[sub,g9]
  ·injection g6' with q1 _ _
   rw[g10] at q1;injection q1 with q1
   injection q1 with q1 _
   subst q1;exact .inr (hm.fresh b blk c (by rw[hb];simp) g9)
theorem F0(hm:bK B γ σ.mem w){I':Nat→Nat→Prop}(hI:∀b o,γ.I b o→I' b o)(WA:∀b o,B.has b→b<w.heap.size→I' b o):∀{v:aS} {t:Ty} {x:t.den} {cs:List Value},
  cI γ σ.mem w v .cells cs→tF σ t v=some x→bN w I' t x cs:=by
 have sl:∀{v:aS} {e:Ty} {l:List e.den} {cs:List Value},dn v=1→(∀c,cI γ σ.mem w v .cells [c]→cI γ σ.mem w v .val [c])→(∀t x,v≠.data t x)→cI γ σ.mem w v .cells cs→gZ e σ v=some l→bN w I' (.slice e) l cs:=by
  intro v e l cs h1 hval hnd hc hl;obtain⟨c,rfl⟩:=J7 hc h1;have hv:=hval c hc;refine(tU hm hv hl).alJ hI fun blk off cap e0 hne o=>?_;subst e0;rcases Se hm hv hl hne with ⟨q,hq⟩|⟨h2,h3⟩
  ·exact absurd hq (hnd _ _)
  ·exact WA blk o h2 h3
 intro v;induction v with
 | data u y =>
   intro t x cs hc hl;have key:(∃q:u=t,x=q▸y):=by
    cases t with
    | slice e =>
      rcases ob (show gZ e σ (.data u y)=some x from hl) with g|⟨g,_⟩|⟨_,_,_,g,_⟩|⟨_,_,_,_,_,g,_⟩
      ·injection g with g1 g2;subst g1;exact⟨rfl,(eq_of_heq g2).symm⟩
      ·cases g
      ·cases g
      ·cases g
    | _=>exact Ty.lT hl
   obtain⟨q,hq⟩:=key;subst q;subst hq;exact bN.mono hI (fun _ _ _=>rfl) hc
 | mix p q W4 Uv =>
   intro t x cs hc hl;cases t with
   | pair s r =>
     obtain⟨c1,c2,rfl,h1,h2⟩:=hc;obtain⟨y,z,hp,hq,rfl⟩:=G3 hl;exact⟨c1,c2,rfl,W4 h1 hp,Uv h2 hq⟩
   | slice e=>exact absurd hl (by intro k;cases k)
   | _=>cases hl
 | qd =>
   intro t x cs hc hl;cases t with
   | slice e=>exact sl (v:=.qd) rfl (fun c k=>k) (fun _ _=>by simp) hc hl
   | _=>cases hl
 | whole b aC =>
   intro t x cs hc hl;cases t with
   | slice e=>exact sl (v:=.whole b aC) rfl (fun c k=>k) (fun _ _=>by simp) hc hl
   | _=>cases hl
 | part b aC lo n =>
   intro t x cs hc hl;cases t with
   | slice e=>exact sl (v:=.part b aC lo n) rfl (fun c k=>k) (fun _ _=>by simp) hc hl
   | _=>cases hl
 | u7 =>
   intro t x cs hc hl;obtain rfl:cs=[.nilIface]:=hc;exact(rC hl).1 _ _
 | _ =>
   intro t x cs hc hl;cases t with
   | slice e=>exact absurd hl (by intro k;cases k)
   | _=>cases hl
theorem MV(hm:bK B γ σ.mem w){I':Nat→Nat→Prop}(hI:∀b o,γ.I b o→I' b o)(WA:∀b o,B.has b→b<w.heap.size→I' b o){v:aS}{t:Ty}{x:t.den}{val:Value}
  (hv:cI γ σ.mem w v .val [val]) (hl:tF σ t v=some x):∃cs,bN w I' t x cs∧val=cM t cs:=by
 have one:∀{v:aS},cI γ σ.mem w v .cells [val]→(∃e,t=.slice e)→tF σ t v=some x→∃cs,bN w I' t x cs∧val=cM t cs:=by
  intro v hc he hl;obtain⟨e,rfl⟩:=he;exact⟨[val],F0 hm hI WA hc hl,rfl⟩
 cases v with
 | data u y =>
   obtain⟨cs,h1,h2⟩:=eu.1 hv;have hc:=F0 hm hI WA (v:=.data u y) (cs:=cs) h1 hl;refine⟨cs,hc,?_⟩;rw[h2];have:u.isAgg=t.isAgg:=by
    cases t with
    | slice e =>
      rcases ob (show gZ e σ (.data u y)=some x from hl) with g|⟨g,_⟩|⟨_,_,_,g,_⟩|⟨_,_,_,_,_,g,_⟩
      ·injection g with g1 g2;rw[g1]
      ·cases g
      ·cases g
      ·cases g
    | _=>obtain⟨q,_⟩:=Ty.lT hl;rw[q]
   unfold cM;rw[this]
 | mix p q =>
   obtain⟨c1,c2,e1,h1,h2⟩:=hv;obtain rfl:val=_:=by simpa using e1
   have hc:=F0 hm hI WA (v:=.mix p q) (cs:=c1++c2) ⟨c1,c2,rfl,h1,h2⟩ hl;refine⟨_,hc,?_⟩;cases t with
   | pair s r=>rfl
   | slice e=>exact absurd hl (by intro k;cases k)
   | _=>cases hl
 | qd=>cases t with
   | slice e=>exact one hv ⟨e,rfl⟩ hl
   | _=>cases hl
 | whole b aC=>cases t with
   | slice e=>exact one hv ⟨e,rfl⟩ hl
   | _=>cases hl
 | part b aC lo n=>cases t with
   | slice e=>exact one hv ⟨e,rfl⟩ hl
   | _=>cases hl
 | u7 =>
   have hv:[val]=[Value.nilIface]:=hv;obtain rfl:val=.nilIface:=by simpa using hv
   exact⟨[.nilIface],(rC hl).1 _ _,(rC hl).2.2.1.symm⟩
 | _=>cases t with
   | slice e=>exact absurd hl (by intro k;cases k)
   | _=>cases hl
def nx(γ:Gh)(mem:Nat→Option Box)(w:World)(vs:List aS)(xs:List Value):Prop:=xs.length=vs.length∧∀(i:Nat) v x,vs[i]?=some v→xs[i]?=some x→cI γ mem w v .val [x]
theorem nx.cons{mem:Nat→Option Box}{v:aS}{vs:List aS}{xs:List Value}(h:nx γ mem w (v::vs) xs):∃x r,xs=x::r∧cI γ mem w v .val [x]∧nx γ mem w vs r:=by
 cases xs with
 | nil=>cases h.1
 | cons x r=>exact⟨x,r,rfl,h.2 0 v x rfl rfl,by simpa using h.1,fun i v' x' h1 h2=>h.2 (i+1) v' x' h1 h2⟩
theorem nx.ext{mem mem':Nat→Option Box}{γ':Gh}{vs:List aS}{xs:List Value}(h:nx γ mem w vs xs)(hx:Ext B γ mem w γ' mem' w'):nx γ' mem' w' vs xs:=⟨h.1,fun i v x h1 h2=>(h.2 i v x h1 h2).ext hx⟩
theorem Pe(hm:bK B γ σ.mem w){I':Nat→Nat→Prop}(hI:∀b o,γ.I b o→I' b o)(WA:∀b o,B.has b→b<w.heap.size→I' b o):∀{A:Ty} {x:A.den} {vs:List aS} {xs:List Value},
  nx γ σ.mem w vs xs→jo σ A vs=some x→ju w I' A x xs:=by
 intro A;induction A with
 | pair t r Mw ihr =>
   intro x vs xs h hl;cases vs with
   | nil=>cases hl
   | cons v vs =>
     obtain⟨y,rest,rfl,h1,h2⟩:=h.cons;simp only[jo] at hl;split at hl
     ·rename_i p q hp hq;obtain rfl:=aN hl;obtain⟨cs,c1,c2⟩:=MV hm hI WA h1 hp;exact⟨cs,rest,by rw[c2],c1,ihr h2 hq⟩
     ·cases hl
 | unit =>
   intro x vs xs h hl;cases vs with
   | nil=>exact List.length_eq_zero_iff.1 h.1
   | cons v vs=>cases hl
 | _=>intro x vs xs h hl;cases vs<;>cases hl
theorem ju.mono{I I':Nat→Nat→Prop}(hI:∀b o,I b o→I' b o)(hw:∀b o,I b o→w'.cell? ⟨b,o,none⟩=w.cell? ⟨b,o,none⟩):∀{A:Ty} {x:A.den} {xs:List Value},ju w I A x xs→ju w' I' A x xs:=by
 intro A;induction A with
 | pair t r Mw ihr=>intro x xs h;obtain⟨cs,rest,h0,h1,h2⟩:=h;exact⟨cs,rest,h0,bN.mono hI hw h1,ihr h2⟩
 | _=>intro x xs h;exact h
theorem uy:∀{A:Ty} {x:A.den} {vs:List aS} {xs:List Value} {σ σ':St} {γ:Gh},dB B N γ σ a w→nx γ σ.mem w vs xs→lU σ A vs=some (x,σ') →
  ∃γ',dB B N γ' σ' a w∧Ext B γ σ.mem w γ' σ'.mem w∧ju w γ'.I A x xs:=by
 intro A;induction A with
 | pair t r Mw ihr =>
   intro x vs xs σ σ' γ h hv hl;cases vs with
   | nil=>cases hl
   | cons v vs =>
     obtain⟨y,rest,rfl,h1,h2⟩:=hv.cons;simp only[lU] at hl;split at hl
     ·rename_i p σ1 hp;split at hl
      ·rename_i q σ2 hq;obtain⟨rfl,rfl⟩:=e9 (aN hl);obtain⟨jC,s1,s2,cs,c1,c2⟩:=oc h h1 hp;obtain c2:y=_:=by simpa using c2
       obtain⟨I9,t1,t2,t3⟩:=ihr s1 (h2.ext s2) hq;exact⟨I9,t1,s2.trans t2,cs,rest,by rw[c2],bN.mono t2.I t2.cells c1,t3⟩
      ·cases hl
     ·cases hl
 | unit =>
   intro x vs xs σ σ' γ h hv hl;cases vs with
   | nil=>obtain⟨rfl,rfl⟩:=e9 (aN hl);exact⟨γ,h,Ext.refl _ _ _ _,List.length_eq_zero_iff.1 hv.1⟩
   | cons v vs=>cases hl
 | _=>intro x vs xs σ σ' γ h hv hl;cases vs<;>cases hl
def adt(w:World)(I:Nat→Nat→Prop)(t:Ty)(x:t.den)(blk:Nat):Prop:=∃cur tid fr,w.heap[blk]?=some (.cells cur tid fr)∧nw cur fr∧bN w I t x cur.toList
def zF(w:World)(I:Nat→Nat→Prop):(U:Ty)→U.den→List Nat→Prop
 | .pair t U,u,bs=>∃blk r,bs=blk::r∧adt w I t u.1 blk∧zF w I U u.2 r
 | .unit,_,bs=>bs=[]
 | _,_,_=>False
def Uz(w:World)(I:Nat→Nat→Prop):List Bool→(A U:Ty)→A.den→List Value→List Nat→Prop
 | [],A,U,_,vs,bs=>A=.unit∧U=.unit∧vs=[]∧bs=[]
 | false::ps,A,U,x,vs,bs=>match A,x with
   | .pair t A,x=>∃cs rest,vs=cM t cs::rest∧bN w I t x.1 cs∧Uz w I ps A U x.2 rest bs
   | _,_=>False
 | true::ps,A,U,x,vs,bs=>match U with
   | .pair _ U=>∃blk rest r,vs=.pointer (some ⟨blk,0,none⟩)::rest∧bs=blk::r∧Uz w I ps A U x rest r
   | _=>False
structure p7 (P:Program) (G:jN) (f:Nat) (c:EJ):Prop where
 body:∃fn code,P.funcs[f]?=some fn∧(fn.name == "runtime.NumGoroutine")=false∧fn.body=some code
 calls:∀(I:Nat→Nat→Prop) (w:World) (args:Array Value) (bs:List Nat) (x:c.A.den) (u:c.U.den) (y:c.R.den×c.U.den),(∀b o,I b o→b<w.heap.size)→I5 G w→(∀b Q,G b Q→b∉bs)→Uz w I c.ps c.A c.U x args.toList bs→zF w I c.U u bs→bs.Nodup →
  (∀blk∈bs,∀o,¬I blk o)→c.spec (x,u)=some y →
  Calls P f args w fun e w'=>∃v I',e=.returned v∧xw ⟨w.heap.size,(·∈bs),G⟩ w w'∧(∀b o,I b o→I' b o)∧(∀b o,I' b o→b<w'.heap.size)∧(∀b o,I' b o→¬I b o→w.heap.size≤b)∧oe w' I' c.R y.1 v∧zF w' I' c.U y.2 bs
structure yo (og:Option Nat) (w w':World):Prop where
 os:w'.os=w.os
 tape:w'.tape=w.tape
 output:w'.output=w.output
 size:w.heap.size≤w'.heap.size
 block:∀k,k<w.heap.size→og≠some k→w'.heap[k]?=w.heap[k]?
 cell:∀k o,k<w.heap.size→w'.cell? ⟨k,o,none⟩=w.cell? ⟨k,o,none⟩
def yF(w:World)(I:Nat→Nat→Prop)(e:Ty)(l:List e.den)(L:Option (Nat×Nat))(v:Value):Prop :=
 (L=none∧l=[]∧v=.slice none 0 0)∨∃blk cap cur tid fr,L=some (blk,cap)∧v=.slice (some ⟨blk,0,none⟩) l.length cap∧w.heap[blk]?=some (.cells cur tid fr)∧ThB e cur fr ∧
  l.length≤cap∧cap≤maxLen∧cur.size=cap*e.size∧(∀o,¬I blk o)∧∀(i:Nat) (x:e.den),l[i]?=some x→bN w I e x ((cur.toList.drop (i*e.size)).take e.size)
structure lX (w:World) (I:Nat→Nat→Prop) (X:Nat→Prop) (w':World) (I':Nat→Nat→Prop):Prop where
 below:xw ⟨w.heap.size,X,Bh⟩ w w'
 held:∀b o,I b o→I' b o
 we:∀b o,I' b o→b<w'.heap.size
 sg:∀b o,I' b o→¬I b o→w.heap.size≤b
def jc(P:Program)(f:Nat):Spc→Prop
 | .chk T=>(∃fn code,P.funcs[f]?=some fn∧(fn.name == "runtime.NumGoroutine")=false∧fn.body=some code) ∧
  ∀(w:World) (b:Nat) (p v:Value) (fr:Nat×Nat),w.heap[b]?=some (.cells #[p,v] T fr)→¬(fr.1≤0∧0<fr.2)→(p=.pointer none∨p=.pointer (some ⟨b,0,none⟩)) →
   Calls P f #[.pointer (some ⟨b,0,none⟩)] w fun e w'=>e=.returned (.tuple #[])∧(w'=w∨w'=w.setRow b #[.pointer (some ⟨b,0,none⟩),v])
 | .str T E=>(∃fn code,P.funcs[f]?=some fn∧(fn.name == "runtime.NumGoroutine")=false∧fn.body=some code) ∧
  ∀(w:World) (b:Nat) (p v:Value) (fr:Nat×Nat) (l:List UInt8) (og:Option Nat),w.heap[b]?=some (.cells #[p,v] T fr) →
   ((og=none∧v=.slice none 0 0∧l=[])∨∃(g cap:Nat) (cur:Array Value) (fr':Nat×Nat),og=some g∧v=.slice (some ⟨g,0,none⟩) l.length cap∧w.heap[g]?=some (.cells cur E fr')∧l.length≤cap∧cap≤maxLen∧cur.size=cap∧∀(j:Nat) (x:UInt8),l[j]?=some x→cur[j]?=some (Value.int .u8 x.toNat)) →
   Calls P f #[.pointer (some ⟨b,0,none⟩)] w fun e w'=>e=.returned (.string ⟨l.toArray⟩)∧yo og w w'
 | .clone e=>(∃fn code,P.funcs[f]?=some fn∧(fn.name == "runtime.NumGoroutine")=false∧fn.body=some code) ∧
  ∀(I:Nat→Nat→Prop) (w:World) (args:Array Value) (l:List e.den),(∀b o,I b o→b<w.heap.size)→ju w I (.pair (.slice e) .unit) (l,()) args.toList→fits (len l)=true →
   Calls P f args w fun q w'=>∃v I' L,q=.returned v∧lX w I (fun _=>False) w' I'∧yF w' I' e l L v∧∀blk c,L=some (blk,c)→w.heap.size≤blk
 | .own e A res spec=>(∃fn code,P.funcs[f]?=some fn∧(fn.name == "runtime.NumGoroutine")=false∧fn.body=some code) ∧
  ∀(I:Nat→Nat→Prop) (w:World) (args:Array Value) (v:Value) (rest:List Value) (l l':List e.den) (L:Option (Nat×Nat)) (x:A.den),(∀b o,I b o→b<w.heap.size)→args.toList=v::rest→yF w I e l L v→ju w I A x rest→spec l x=some l' →
   Calls P f args w fun q w'=>∃I',lX w I (fun k=>∃c,L=some (k,c)) w' I' ∧
    match res with
    | true=>∃v' L',q=.returned v'∧yF w' I' e l' L' v'∧∀blk c,L'=some (blk,c)→(∃c,L=some (blk,c))∨w.heap.size≤blk
    | false=>q=.returned (.tuple #[])∧l'.length=l.length∧yF w' I' e l' L v
structure rD (P:Program) (G:jN) (cx:Ctx):Prop where
 cT:∀f c,find cx.cT f=some c→Holds P G f c
 bA:∀f c,find cx.bA f=some c→p7 P G f c
 WL:∀f s,find cx.WL f=some s→jc P f s
 inv:∀name c,Uf cx.inv name=some c→MT P G name c
def Refs(γ:Gh)(mem:Nat→Option Box):(U:Ty)→U.den→List Nat→List Nat→Prop
 | .pair t U,u,ns,bs=>∃b r blk q bx k,ns=b::r∧bs=blk::q∧b∉r∧mem b=some bx∧bx.buf=false∧bx.lk=false∧(bx.ro=false∧bx.tid=0)∧bx.val=.data t u.1∧γ.loc b=some (blk,k)∧Refs γ mem U u.2 r q
 | .unit,_,ns,bs=>ns=[]∧bs=[]
 | _,_,_,_=>False
theorem UA{l:List Nat}{t:Nat}:dD l t=true↔t∈l:=by
 induction l with
 | nil=>simp[dD]
 | cons i r ih =>
   simp only[dD,zv,IQ,ih];constructor
   ·rintro(h|h)
    ·exact .inl (gz h)
    ·exact .inr h
   ·rintro(h|h)
    ·subst h;exact .inl (by simp)
    ·exact .inr h
theorem Refs.MW{mem:Nat→Option Box}:∀{U:Ty} {u:U.den} {ns bs:List Nat},Refs γ mem U u ns bs→∀blk∈bs,∃b bx k,b∈ns∧mem b=some bx∧bx.ro=false∧γ.loc b=some (blk,k):=by
 intro U;induction U with
 | pair t U Mw Xb =>
   intro u ns bs h blk hb;obtain⟨b,r,dX,q,bx,k,rfl,rfl,h1,h2,h3,h4,h5,h6,h7,h8⟩:=h;rcases List.mem_cons.1 hb with rfl|hb
   ·exact⟨b,bx,k,nX ..,h2,h5.1,h7⟩
   ·obtain⟨b',iJ,k',g1,g2⟩:=Xb h8 blk hb;exact⟨b',iJ,k',qU _ g1,g2⟩
 | unit=>intro u ns bs h blk hb;rw[h.2] at hb;cases hb
 | _=>intro u ns bs h;exact h.elim
theorem Refs.nodup{mem:Nat→Option Box}(hm:bK B γ mem w):∀{U:Ty} {u:U.den} {ns bs:List Nat},Refs γ mem U u ns bs→bs.Nodup:=by
 intro U;induction U with
 | pair t U Mw Xb =>
   intro u ns bs h;obtain⟨b,r,blk,q,bx,k,rfl,rfl,h1,h2,h3,h4,h5,h6,h7,h8⟩:=h;rw[List.nodup_cons];refine⟨fun hq=>?_,Xb h8⟩;obtain⟨b',iJ,k',g1,g2,g3,g4⟩:=h8.MW blk hq;have:=hm.inj b b' blk k k' (by rw[h2];simp) (by rw[g2];simp) h7 g4;subst this;exact h1 g1
 | unit=>intro u ns bs h;rw[h.2];exact Zd
 | _=>intro u ns bs h;exact h.elim
theorem Refs.val{mem:Nat→Option Box}{w':World}{I':Nat→Nat→Prop}:∀{U:Ty} {u y:U.den} {ns bs:List Nat},Refs γ mem U u ns bs→zF w' I' U y bs→∀{c:Nat} {v:aS},rV U y ns c=some v →
  ∃(t:Ty) (x z:t.den) (bx:Box) (blk k:Nat),mem c=some bx∧bx.buf=false∧bx.lk=false∧(bx.ro=false∧bx.tid=0)∧bx.val=.data t x∧v=.data t z∧γ.loc c=some (blk,k)∧blk∈bs∧adt w' I' t z blk:=by
 intro U;induction U with
 | pair t U Mw Xb =>
   intro u y ns bs h ha c v hv;obtain⟨b,r,blk,q,bx,k,rfl,rfl,h1,h2,h3,h4,h5,h6,h7,h8⟩:=h;obtain⟨dX,q',e1,a1,a2⟩:=ha;obtain⟨rfl,rfl⟩:=ac2 e1;simp only[rV] at hv;cases hb:Nat.beq c b with
   | true =>
     rw[hb] at hv;obtain rfl:=gz hb;exact⟨t,u.1,y.1,bx,blk,k,h2,h3,h4,h5,h6,(aN hv).symm,h7,nX ..,a1⟩
   | false =>
     rw[hb] at hv;obtain⟨t',x',z',iJ,dX,k',g1,g2,g3,g4,g5,g6,g7,g8,g9⟩:=Xb h8 a2 hv;exact⟨t',x',z',iJ,dX,k',g1,g2,g3,g4,g5,g6,g7,qU _ g8,g9⟩
 | unit=>intro u y ns bs h ha c v hv;cases hv
 | _=>intro u y ns bs h;exact h.elim
theorem Refs.adu{mem:Nat→Option Box}:∀{U:Ty} {u y:U.den} {ns bs:List Nat},Refs γ mem U u ns bs→∀blk∈bs,∃b v bx k,rV U y ns b=some v∧mem b=some bx∧bx.ro=false∧γ.loc b=some (blk,k):=by
 intro U;induction U with
 | pair t U Mw Xb =>
   intro u y ns bs h blk hb;obtain⟨b,r,dX,q,bx,k,rfl,rfl,h1,h2,h3,h4,h5,h6,h7,h8⟩:=h;rcases List.mem_cons.1 hb with rfl|hb
   ·exact⟨b,.data t y.1,bx,k,by simp[rV],h2,h5.1,h7⟩
   ·obtain⟨b',v',iJ,k',g1,g2⟩:=Xb (y:=y.2) h8 blk hb;refine⟨b',?_⟩;simp only[rV];cases hq:Nat.beq b' b with
    | true =>
      obtain rfl:=gz hq;exact⟨.data t y.1,iJ,k',rfl,g2⟩
    | false=>exact⟨v',iJ,k',g1,g2⟩
 | unit=>intro u y ns bs h blk hb;rw[h.2] at hb;cases hb
 | _=>intro u y ns bs h;exact h.elim
theorem vg{U:Ty}{y:U.den}{ns:List Nat}{σ:St}{c:Nat}:(wz U y ns σ).mem c=match rV U y ns c with|some v=>(match σ.mem c with|some bx=>some { bx with val:=v }|none=>none)|none=>σ.mem c:=rfl
theorem bK.refs(h:bK B γ σ.mem w){U:Ty}{u y:U.den}{ns bs:List Nat}(hr:Refs γ σ.mem U u ns bs){G:jN}(hw:xw ⟨w.heap.size,(·∈bs),G⟩ w w'){I':Nat→Nat→Prop}(hI:∀b o,γ.I b o→I' b o)(ah2:∀b o,I' b o→b<w'.heap.size)
  (hnew:∀b o,I' b o→¬γ.I b o→w.heap.size≤b) (ha:zF w' I' U y bs) :
  bK B ⟨I',γ.loc⟩ (wz U y ns σ).mem w'∧Ext B γ σ.mem w ⟨I',γ.loc⟩ (wz U y ns σ).mem w':=by
 have hsame:∀k,k<w.heap.size→k∉bs→w'.heap[k]?=w.heap[k]?:=fun k hk hb=>hw.block k fun q=>by
  rcases q with q|q
  ·have:w.heap.size≤k:=q;omega
  ·exact hb q
 have hown:∀blk∈bs,B.has blk∧blk<w.heap.size:=fun blk hb=>by
  obtain⟨b,bx,k,g1,g2,g3,g4⟩:=hr.MW blk hb;exact h.fresh b blk k (by rw[g2];simp) g4
 have hfree:∀blk∈bs,∀o,¬γ.I blk o:=fun blk hb o hi=>by
  obtain⟨b,bx,k,g1,g2,g3,g4⟩:=hr.MW blk hb;have:=(h.sep b bx blk k o g2 g4 hi).1;rw[g3] at this;cases this
 have ah3:∀k,¬B.has k→k<w.heap.size:=fun k hk=>T4 fun q=>hk (.inl (gY h.base q));have hne:∀c,(wz U y ns σ).mem c≠none→σ.mem c≠none:=by
  intro c hc hq;apply hc;rw[vg,hq];split<;>rfl
 have hx:Ext B γ σ.mem w ⟨I',γ.loc⟩ (wz U y ns σ).mem w' :=
  { below:=⟨hw.os,hw.tape,hw.output,hw.size,fun k hk=>hsame k (ah3 k hk) fun hb=>hk (hown k hb).1⟩
    I:=hI
    sg:=fun b o x=>by
     by_cases hi:γ.I b o
     ·exact .inl hi
     ·exact .inr (.inl (gY h.base (hnew b o x hi)))
    cells:=fun b o hi=>dF (hsame b (h.we b o hi) fun hb=>hfree b hb o hi)
    boxes:=fun c cx hc=>by
     rw[vg,hc];cases hv:rV U y ns c with
     | none=>exact⟨cx,rfl,cU _,fun _=>⟨rfl,rfl,rfl⟩⟩
     | some v =>
       obtain⟨t,x,z,bx,blk,k,g1,g2,g3,g4,g5,g6,g7,g8,g9⟩:=hr.val ha hv;rw[hc] at g1;obtain rfl:=aN g1;refine⟨_,rfl,cU _,fun _=>⟨rfl,rfl,?_⟩⟩;subst g6;unfold Box.row;simp only[g2,g5];cases t<;>rfl }
 refine⟨?_,hx⟩;exact
  { bp:=h.GV hx
    base:=gY h.base hw.size
    boxes:=fun c cx hc=>by
     rw[vg] at hc;cases hv:rV U y ns c with
     | none =>
       rw[hv] at hc;replace hc:σ.mem c=some cx:=hc;refine(h.boxes c cx hc).keep hx rfl fun blk k hl=>?_;refine hsame blk (h.fresh c blk k (by rw[hc];simp) hl).2 fun hb=>?_;obtain⟨b,v,bx,k',g1,g2,g3,g4⟩:=hr.adu (y:=y) blk hb;have:=h.inj c b blk k k' (by rw[hc];simp) (by rw[g2];simp) hl g4;subst this;rw[hv] at g1;cases g1
     | some v =>
       obtain⟨t,x,z,bx,blk,k,g1,g2,g3,g4,g5,g6,g7,g8,g9⟩:=hr.val ha hv;rw[hv,g1] at hc;obtain rfl:=aN hc;obtain⟨cur,tid,fr,j1,j2,j3⟩:=g9;unfold cR;simp only[g2];subst g6;exact⟨blk,k,cur,tid,fr,g7,j1,j2,.inl g4.2,j3⟩
    inj:=fun c d blk k k' hc hd=>h.inj c d blk k k' (hne c hc) (hne d hd)
    fresh:=fun c blk k hc hl=>by have:=h.fresh c blk k (hne c hc) hl;exact⟨this.1,GI this.2 hw.size⟩
    we:=ah2
    sep:=fun c cx blk k off hc hl hi=>by
     obtain⟨cx0,hc0,hro,hrow,bO⟩:∃cx0,σ.mem c=some cx0∧cx.ro=cx0.ro∧cx.row=cx0.row∧cx.buf=cx0.buf:=by
      have hc1:=hc;rw[vg] at hc;cases hv:rV U y ns c with
      | none=>rw[hv] at hc;exact⟨cx,hc,rfl,rfl,rfl⟩
      | some v =>
        obtain⟨t,x,z,bx,dX,k',g1,g2,g3,g4,g5,g6,g7,g8,g9⟩:=hr.val ha hv;rw[hv,g1] at hc;obtain rfl:=aN hc;refine⟨bx,g1,rfl,?_,rfl⟩;subst g6;unfold Box.row;simp only[g2,g5];cases t<;>rfl
     by_cases hi0:γ.I blk off
     ·have:=h.sep c cx0 blk k off hc0 hl hi0;exact⟨by rw[hro];exact this.1,fun hb e n hr'=>this.2 (by rw[←bO];exact hb) e n (by rw[←hrow];exact hr')⟩
     ·have h1:=hnew blk off hi hi0;have h2:=(h.fresh c blk k (by rw[hc0];simp) hl).2;omega }
theorem aaE{mem:Nat→Option Box}{t:Ty}{v:aS}{x:t.den}{val:Value}(hv:cI γ mem w v .val [val])(h:toD t v=some x):∃cs,bN w γ.I t x cs∧val=cM t cs:=by
 unfold toD at h;split at h
 ·rename_i u y;obtain⟨q,hq⟩:=Ty.lT h;subst q;subst hq;exact eu.1 hv
 ·split at h
  ·rename_i e;obtain rfl:=aN h;obtain rfl:val=_:=by simpa [cI] using hv
   exact⟨[.slice none 0 0],.inl ⟨⟨none,rfl⟩,rfl⟩,rfl⟩
  ·cases h
 ·cases h
theorem UB{t:Ty}{v:aS}{x:t.den}(h:toS t v=some x):v=.data t x:=by
 unfold toS at h;split at h
 ·obtain⟨q,hq⟩:=Ty.lT h;subst q;subst hq;rfl
 ·cases h
theorem Pf(hm:bK B γ σ.mem w):∀{ps:List Bool} {A U:Ty} {vs:List aS} {xs:List Value} {x:A.den} {u:U.den} {ns:List Nat},nx γ σ.mem w vs xs→ur σ ps A U vs=some (x,u,ns) →
  ∃bs,Uz w γ.I ps A U x xs bs∧Refs γ σ.mem U u ns bs∧zF w γ.I U u bs:=by
 intro ps;induction ps with
 | nil =>
   intro A U vs xs x u ns hv h;cases A<;>first|(cases h;done)|skip
   cases U<;>first|(cases h;done)|skip
   cases vs with
   | cons v r=>cases h
   | nil =>
     obtain⟨rfl,q⟩:=e9 (aN h);obtain⟨rfl,rfl⟩:=e9 q;have hx:xs=[]:=by have:=hv.1;simpa using this
     exact⟨[],⟨rfl,rfl,hx,rfl⟩,⟨rfl,rfl⟩,rfl⟩
 | cons p ps ih =>
   intro A U vs xs x u ns hv h;cases p with
   | false =>
     cases A<;>first|(cases h;done)|skip
     rename_i t A;cases vs with
     | nil=>cases h
     | cons v r =>
       simp only[ur] at h;split at h
       ·rename_i x1 y1 u1 ns1 h1 h2;obtain⟨rfl,q⟩:=e9 (aN h);obtain⟨rfl,rfl⟩:=e9 q;obtain⟨val,rest,rfl,g1,g2⟩:=hv.cons;obtain⟨bs,k1,k2,k3⟩:=ih g2 h2;obtain⟨cs,c1,c2⟩:=aaE g1 h1;exact⟨bs,⟨cs,rest,by rw[c2],c1,k1⟩,k2,k3⟩
       ·cases h
   | true =>
     cases U<;>first|(cases h;done)|skip
     rename_i t U;cases vs with
     | nil=>cases h
     | cons v0 r =>
     cases v0<;>first|(cases h;done)|skip
     rename_i b aC pth;cases pth with
     | cons _ _=>cases h
     | nil =>
     simp only[ur] at h;split at h
     case h_2=>cases h
     rename_i bx hb;cases hcd:(Nat.beq bx.aC aC&&!bx.buf&&!bx.lk&&!bx.ro&&Nat.beq bx.tid 0) with
     | false=>rw[hcd] at h;cases h
     | true =>
       rw[hcd] at h;simp only[dW,nq] at hcd;obtain⟨⟨⟨⟨bF,bO⟩,hlk⟩,hro⟩,ht0⟩:=hcd;have ht0:=gz ht0;have bF:=gz bF;simp only[gp] at h;split at h
       case h_2=>cases h
       rename_i x1 y1 u1 ns1 h1 h2;cases hmn:dD ns1 b with
       | true=>rw[hmn] at h;cases h
       | false =>
         rw[hmn] at h;obtain⟨rfl,q⟩:=e9 (aN h);obtain⟨rfl,rfl⟩:=e9 q;obtain⟨val,rest,rfl,g1,g2⟩:=hv.cons;obtain⟨bs,k1,k2,k3⟩:=ih g2 h2;obtain⟨blk,k,j1,j2⟩:=bC hb bF g1.2;have j2:=zq j2;simp only[cP] at j2;have hval:=UB h1;have jt:=hm.boxes b bx hb;unfold cR at jt;rw[bO] at jt;obtain⟨dX,cap,cur,tid,fr,a1,a2,a3,jb,a4⟩:=jt;rw[j1] at a1;obtain⟨rfl,rfl⟩:=e9 (aN a1);rw[hval] at a4;have ah4:b∉ns1:=fun hq=>by rw[UA.2 hq] at hmn;cases hmn
         exact⟨blk::bs,⟨blk,rest,bs,by rw[j2],rfl,k1⟩,⟨b,ns1,blk,bs,bx,k,rfl,rfl,ah4,hb,bO,hlk,⟨hro,ht0⟩,hval,j1,k2⟩,blk,bs,rfl,⟨cur,tid,fr,a2,a3,a4⟩,k3⟩
end
end Go.Ge
