/- A ghost interpreter of the model's code, and that it tells the truth: part 4. It says of a function of plain data what a call of it comes to. -/
import Derived.Test.YtdpbdiikloedbaaGreatDoorGeC
import Derived.Great.BuildSlice
import Derived.Laws.IdiomStrings
import Derived.Laws.BytesArg
import Derived.Laws.MakeOwn
import Derived.Deep.AppendSrc
set_option linter.unusedVariables false
set_option linter.unusedSimpArgs false
set_option linter.unusedSectionVars false
namespace Go.Ge
open RowKit
def UI(γ:Gh)(blk:Nat):Gh:={ γ with I:=fun b o=>γ.I b o∨b=blk }
theorem bp.ad8{B:qq}{γ:Gh}{mem:Nat→Option bE}{w:World}(h:bp B γ mem w)(cs:Array Value)(t':TypeId) :
  bp B (UI γ w.heap.size) mem (w.alloc (.cells cs t'))∧Ext B γ mem w (UI γ w.heap.size) mem (w.alloc (.cells cs t')):=by
 have hx:Ext B γ mem w (UI γ w.heap.size) mem (w.alloc (.cells cs t')) :=
  { below:=(va.refl _ _).alloc h.base _
    I:=fun _ _ x=>.inl x
    pE:=fun blk o x=>by
     rcases x with x|x
     ·exact .inl x
     ·exact .inr (.inl (by rw[x];exact h.base))
    cells:=fun blk o x=>cH (cu w _ blk (h.tN blk o x))
    boxes:=fun b bx hb=>⟨bx,hb,mq _,fun _=>⟨rfl,rfl,rfl⟩⟩ }
 refine⟨?_,hx⟩;have hsz:(w.alloc (.cells cs t')).heap.size=w.heap.size+1:=by simp
 exact
  { aH:=h.EX hx
    base:=by rw[hsz];exact Nat.le_succ_of_le h.base
    boxes:=fun b bx hb=>(h.boxes b bx hb).keep hx rfl fun blk k hl=>cu w _ blk (h.fresh b blk k (by rw[hb];simp) hl).2
    inj:=h.inj
    fresh:=fun b blk k hb hl=>by have:=h.fresh b blk k hb hl;exact⟨this.1,by rw[hsz];omega⟩
    tN:=fun blk off hi=>by
     rw[hsz];rcases hi with hi|hi
     ·have:=h.tN blk off hi;omega
     ·omega
    sep:=fun b bx blk k off hb hl hi=>by
     rcases hi with hi|hi
     ·exact h.sep b bx blk k off hb hl hi
     ·have:=(h.fresh b blk k (by rw[hb];simp) hl).2;omega }
theorem LF(off:Nat):∀(l:List Value) (k:Nat) (cells:Array Value),off+k+l.length≤cells.size →
  (l.zipIdx k).foldl (fun cs (x:Value×Nat)=>cs.setIfInBounds (off+x.2) x.1) cells=(splice cells.toList (off+k) l).toArray
 | [],k,cells,h=>by simp[splice]
 | v::r,k,cells,h=>by
   simp only[List.zipIdx_cons,List.foldl_cons];rw[LF off r (k+1) _ (by simp at h⊢;omega)];have e:=list_seg_step cells.toList (off+k) v r (by simp at h⊢;omega)
   congr 1
   simpa [splice,adm,AR] using e
theorem Cq{place:Nat→Option (Nat×Nat)}{cells:Array Value}{i off size:Nat}{v:Value}{rest:List (Nat×Value)}(hp:place i=some (off,size))(hs:v.cells.toList.length=size)
  (hle:off+size≤cells.size):Instr.fill place cells ((i,v)::rest)=Instr.fill place (splice cells.toList off v.cells.toList).toArray rest:=by
 have hs':v.cells.size=size:=by simpa using hs
 have hc:(v.cells.size≠size||off+v.cells.size > cells.size)=false:=by
  simp only[CK,abU];constructor
  ·simp[hs']
  ·omega
 simp only[Instr.fill,hp];rw[hc];simp only[Uo,G1]
 congr 1
 rw[←Array.foldl_toList,Array.toList_zipIdx];have:=LF off v.cells.toList 0 cells (by rw[hs];omega);simpa using this
theorem UJ{w:World}{I:Nat→Nat→Prop}{u:Ty}{y:u.den}{es:List Value}(he:bt w I u y es):∀{t:Ty} {x x':t.den} {cs:List Value} {k o:Nat},
  bt w I t x cs→ja t k=some o→Lg t x k u y=some x'→bt w I t x' (splice cs o es)∧o+es.length≤cs.length:=by
 intro t;induction t with
 | pair a b jm lG =>
   intro x x' cs k o h ho hp;obtain⟨c1,c2,rfl,h1,h2⟩:=h;cases k with
   | zero =>
     simp only[ja,uq] at ho;subst ho;simp only[Lg] at hp;split at hp
     ·rename_i y' hy;obtain⟨q,hq⟩:=Ty.jU hy;subst q;subst hq;obtain rfl:=aG hp;have hl:es.length=c1.length:=by rw[he.length,h1.length]
      refine⟨⟨es,c2,?_,he,h2⟩,by rw[uV];omega⟩;simp only[splice,Uq,Up,uW];rw[hl,CL]
     ·cases hp
   | succ k =>
     simp only[ja] at ho;cases hb:ja b k with
     | none=>rw[hb] at ho;cases ho
     | some o' =>
       rw[hb] at ho;simp only[K9,uq] at ho;simp only[Lg] at hp;split at hp
       ·rename_i z hz;obtain rfl:=aG hp;obtain⟨r1,r2⟩:=lG h2 hb hz;have hl:=h1.length;refine⟨⟨c1,splice c2 o' es,?_,h1,r1⟩,by rw[uV];omega⟩;subst ho;rw[←hl];simp only[splice];first
         | (rw[abR,qm,qm,AR,←ye,CL];simp[qm];done)
         | (rw[Wp o' c1.length,abR,qm,qm,AR,←ye,CL];simp[qm])
       ·cases hp
 | _=>intro x x' cs k o h ho;cases k<;>simp[ja] at ho
theorem JM:∀{t:Ty} {k:Nat} {u:Ty},uX t k=some u→∃o,ja t k=some o:=by
 intro t;induction t with
 | pair a b jm lG =>
   intro k u h;cases k with
   | zero=>exact⟨0,rfl⟩
   | succ k =>
     obtain⟨o,ho⟩:=lG (show uX b k=some u from h);simp only[ja,ho];exact⟨_,rfl⟩
 | _=>intro k u h;cases k<;>cases h
section
variable {P:Program} {B:qq} {N:Nat} {γ:Gh} {σ σ':St} {a:Act} {w:World} {d:Option Nat} {cx:Ctx}
theorem Hj{place:Nat→Option (Nat×Nat)}{t:Ty}(hpl:∀k u o,uX t k=some u→ja t k=some o→place k=some (o,u.size)) :
  ∀{parts:List (Nat×Operand)} {x x':t.den} {cells:Array Value} {σ σ':St} {γ:Gh},cF B N γ σ a w→bt w γ.I t x cells.toList→fT σ t x parts=some (x',σ') →
   ∃cells' γ',Instr.fill place cells (parts.map fun p=>(p.1,a.eval p.2))=some cells'∧cF B N γ' σ' a w∧Ext B γ σ.mem w γ' σ'.mem w∧bt w γ'.I t x' cells'.toList:=by
 intro parts;induction parts with
 | nil =>
   intro x x' cells σ σ' γ h hx hb;obtain⟨rfl,rfl⟩:=ec (aG hb);exact⟨cells,γ,rfl,h,Ext.refl _ _ _ _,hx⟩
 | cons p r ih =>
   obtain⟨k,o⟩:=p;intro x x' cells σ σ' γ h hx hb;simp only[fT] at hb;split at hb
   ·rename_i u hu;split at hb
    ·rename_i y σ1 hg;split at hb
     ·rename_i x1 hx1;obtain⟨ij,s1,s2,cs,c1,c2⟩:=lN h (h.cc o) hg;obtain hval:a.eval o=_:=by simpa using c2
      have YI:(a.eval o).cells.toList=cs:=by rw[hval];exact rC c1
      obtain⟨off,hoff⟩:=JM hu;obtain⟨r1,r2⟩:=UJ c1 (bt.mono s2.I s2.cells hx) hoff hx1;have hsz:=c1.length;obtain⟨cells',Hi,k1,k2,k3,k4⟩:=ih (cells:=(splice cells.toList off cs).toArray) s1 (by simpa using r1) hb;refine⟨cells',Hi,?_,k2,s2.trans k3,k4⟩;simp only[PF];rw[Cq (hpl k u off hu hoff) (by rw[YI];exact hsz) (by rw[hsz] at r2;simpa using r2),YI];exact k1
     ·cases hb
    ·cases hb
   ·cases hb
theorem Ap{n:Nat}{e:Ty}{place:Nat→Option (Nat×Nat)}(hpl:∀k,place k=some (k*e.size,e.size)) :
  ∀{parts:List (Nat×Operand)} {l l':List e.den} {cells:Array Value} {σ σ':St} {γ:Gh},cF B N γ σ a w→bt w γ.I (.arr n e) l cells.toList→fK σ e l parts=some (l',σ') →
   ∃cells' γ',Instr.fill place cells (parts.map fun p=>(p.1,a.eval p.2))=some cells'∧cF B N γ' σ' a w∧Ext B γ σ.mem w γ' σ'.mem w∧bt w γ'.I (.arr n e) l' cells'.toList:=by
 intro parts;induction parts with
 | nil =>
   intro l l' cells σ σ' γ h hx hb;obtain⟨rfl,rfl⟩:=ec (aG hb);exact⟨cells,γ,rfl,h,Ext.refl _ _ _ _,hx⟩
 | cons p r ih =>
   obtain⟨k,o⟩:=p;intro l l' cells σ σ' γ h hx hb;simp only[fK] at hb;split at hb
   ·rename_i y σ1 hg;cases hlt:Nat.blt k l.length with
    | false=>rw[hlt] at hb;cases hb
    | true =>
      rw[hlt] at hb;simp only[fy] at hb;have hlt':k<l.length:=by simpa using hlt
      obtain⟨ij,s1,s2,cs,c1,c2⟩:=lN h (h.cc o) hg;obtain hval:a.eval o=_:=by simpa using c2
      have YI:(a.eval o).cells.toList=cs:=by rw[hval];exact rC c1
      obtain⟨j1,j2,j3⟩:=bt.mono s2.I s2.cells hx;have j1':l.length=n:=j1;have hsz:=c1.length;have hm:(k+1)*e.size≤n*e.size:=sS _ (by omega);rw[A3] at hm;have hle:k*e.size+cs.length≤cells.toList.length:=by rw[hsz,j2];exact hm
      have hnew:bt w ij.I (.arr n e) (l.set k y) (splice cells.toList (k*e.size) cs) :=
       ⟨(@List.length_set _ l _ _).trans j1,by rw[bA hle];exact j2,Lu j1' (by rw[j2];exact mq _) j3 (by omega) c1⟩
      obtain⟨cells',Hi,k1,k2,k3,k4⟩:=ih (cells:=(splice cells.toList (k*e.size) cs).toArray) s1 (by simpa using hnew) hb;refine⟨cells',Hi,?_,k2,s2.trans k3,k4⟩;simp only[PF];rw[Cq (hpl k) (by rw[YI];exact hsz) (by rw[hsz] at hle;simpa using hle),YI];exact k1
   ·cases hb
theorem oY.places{t:Ty}:∀{off:Nat} {fs:List Field},oY P t off fs→∃places:List (Nat×Nat),fs.mapM (fun f=>(P.info? f.type).map fun i=>(f.offset,i.size))=some places ∧
  ∀k u o,uX t k=some u→ja t k=some o→places[k]?=some (off+o,u.size):=by
 induction t with
 | pair a b jm lG =>
   intro off fs h;obtain⟨f,r,rfl,h1,h2,h3,h4,h5⟩:=h.cons;obtain⟨pl,p1,p2⟩:=lG h5;obtain⟨i,z,i1,i2,_⟩:=h3.info;refine⟨(f.offset,i.size)::pl,by simp[i1,p1],fun k u o hu ho=>?_⟩;cases k with
   | zero =>
     simp only[uX,ja,uq] at hu ho;subst hu ho;simp[h1,i2]
   | succ k =>
     simp only[uX,ja] at hu ho;cases hb:ja b k with
     | none=>rw[hb] at ho;cases ho
     | some o' =>
       rw[hb] at ho;simp only[K9,uq] at ho;have:=p2 k u o' hu hb;rw[YT,this]
       congr 2;omega
 | unit =>
   intro off fs h;cases fs with
   | nil=>exact⟨[],rfl,fun k u o hu=>by cases k<;>cases hu⟩
   | cons f r=>simp[oY,eF] at h
 | _=>intro off fs h;cases fs<;>simp[oY,eF] at h
theorem II{mem:Nat→Option bE}:∀{fs:List mw} {v:aO},rB fs=some v→b6 γ mem w v .cells (Lq fs):=by
 intro fs;induction fs with
 | nil=>intro v h;obtain rfl:=aG h;rfl
 | cons f r ih =>
   intro v h;cases f with
   | dat t =>
     simp only[rB] at h;split at h
     ·rename_i u hu;obtain rfl:=aG h;exact⟨_,_,rfl,mB _ _ t,ih hu⟩
     ·cases h
   | buf e i =>
     simp only[rB] at h;split at h
     ·rename_i u hu;obtain rfl:=aG h;exact⟨[.slice none 0 0],_,rfl,rfl,ih hu⟩
     ·cases h
   | one =>
     simp only[rB] at h;split at h
     ·rename_i u hu;obtain rfl:=aG h;exact⟨[.pointer none],_,rfl,rfl,ih hu⟩
     ·cases h
   | self=>cases h
theorem Bg{place:Nat→Option (Nat×Nat)}{fs:List mw}(hpl:∀k o f,zj fs k=some o→fs[k]?=some f→place k=some (o,f.size))(h:cF B N γ σ a w) :
  ∀{parts:List (Nat×Operand)} {v v':aO} {cells:Array Value},b6 γ σ.mem w v .cells cells.toList→lI σ fs v parts=some v' →
   ∃cells',Instr.fill place cells (parts.map fun p=>(p.1,a.eval p.2))=some cells'∧b6 γ σ.mem w v' .cells cells'.toList:=by
 intro parts;induction parts with
 | nil=>intro v v' cells hv hb;obtain rfl:=aG hb;exact⟨cells,rfl,hv⟩
 | cons p r ih =>
   obtain⟨k,x⟩:=p;intro v v' cells hv hb;simp only[lI] at hb;split at hb
   case h_2=>cases hb
   rename_i o t y0 o' f hf ho hfs;cases hc:Nat.beq o o'&&Nat.beq t.size f.size with
   | false=>rw[hc] at hb;cases hb
   | true =>
     rw[hc] at hb;simp only[fy] at hb;simp only[dW] at hc;obtain rfl:=fu hc.1;have hsz:=fu hc.2;split at hb
     case h_2=>cases hb
     rename_i y hy;split at hb
     case h_2=>cases hb
     rename_i v1 hv1;have hx:b6 γ σ.mem w (cc σ x) .cells (a.eval x).cells.toList:=(h.cc x).mC (fun u e=>by rw[e] at hy;cases hy) (fun e=>by rw[e] at hy;cases hy);have hyr:bt w γ.I t y (a.eval x).cells.toList:=KU hy hx;obtain⟨b1,_⟩:=Hh hv hf;have b1':o+t.size≤cells.toList.length:=b1;have hl:(a.eval x).cells.toList.length=t.size:=hyr.length;have hn:=Lt (f:=fun _=>.ret (.data t y)) hv hf (fun z hz=>by obtain rfl:=aG hz;exact hyr) hv1 hl;obtain⟨cells',k1,k2⟩:=ih (cells:=(splice cells.toList o (a.eval x).cells.toList).toArray) (by simpa using hn) hb;refine⟨cells',?_,k2⟩;simp only[PF];rw[Cq (hpl k o f ho hfs) (by rw[hl];exact hsz) (by rw[←hsz];simpa using b1')];exact k1
theorem JN(hc:eW P cx){t:TypeId}{fs:List mw}{z0 p q:aO}{parts:Array (Nat×Operand)}(h:cF B N γ σ a w)(hd:∀k,d=some k→k<N)(hO:find cx.qn t=some fs)
  (hz0:rB fs=some z0) (hb:lI σ fs z0 parts.toList=some (.mix p q)) :
  mV P B N γ σ a w d (Instr.build t (parts.map fun(i,x)=>(i,a.eval x))) (σ.aP d (.mix p q)):=by
 have hB:=hc.qn _ _ hO;simp only[Lr,dW] at hB;obtain⟨h1,h2⟩:=hB;obtain⟨i,z,i1,i2,i3,i4⟩:=jc h2;split at h1
 case h_2=>cases h1
 rename_i gs hg;obtain⟨pl,p1,p2⟩:=EZ h1;obtain⟨cells',k1,c1,c2,e1,e2,e3⟩:=Bg (place:=fun k=>pl.toArray[k]?) (fun k o f ho hf=>by have:=p2 k o f ho hf;simpa using this) h
  (v:=z0) (cells:=z.cells) (by rw[i4];exact II hz0) hb
 have hrun:(Instr.build t (parts.map fun(i,x)=>(i,a.eval x))).run P w=.ok (.agg cells') w:=by
  refine run_build w t _ _ ?_;unfold Program.built;simp only[i1,hg,i3,p1];simpa using k1
 exact bC h hd hrun ⟨c1,c2,by rw[←e1],e2,e3⟩
theorem Hl(hc:eW P cx){t:TypeId}{fs:List mw}{z0:aO}{u:Ty.unit.den}{parts:Array (Nat×Operand)}(h:cF B N γ σ a w)(hd:∀k,d=some k→k<N)(hO:find cx.qn t=some fs)
  (hz0:rB fs=some z0) (hb:lI σ fs z0 parts.toList=some (.data .unit u)) :
  mV P B N γ σ a w d (Instr.build t (parts.map fun(i,x)=>(i,a.eval x))) (σ.aP d (.data .unit ())):=by
 have hB:=hc.qn _ _ hO;simp only[Lr,dW] at hB;obtain⟨h1,h2⟩:=hB;obtain⟨i,z,i1,i2,i3,i4⟩:=jc h2;split at h1
 case h_2=>cases h1
 rename_i gs hg;obtain⟨pl,p1,p2⟩:=EZ h1;obtain⟨cells',k1,k2⟩:=Bg (place:=fun k=>pl.toArray[k]?) (fun k o f ho hf=>by have:=p2 k o f ho hf;simpa using this) h
  (v:=z0) (cells:=z.cells) (by rw[i4];exact II hz0) hb
 have hrun:(Instr.build t (parts.map fun(i,x)=>(i,a.eval x))).run P w=.ok (.agg cells') w:=by
  refine run_build w t _ _ ?_;unfold Program.built;simp only[i1,hg,i3,p1];simpa using k1
 have e:cells'.toList=[]:=k2;exact bC h hd hrun ⟨[],rfl,by rw[show cells'=#[] from RV e];rfl⟩
theorem D7(hc:eW P cx){t:TypeId}{u v:Ty}{parts:Array (Nat×Operand)}{x:(Ty.pair u v).den}(h:cF B N γ σ a w)(hd:∀k,d=some k→k<N)(hT:find cx.T t=some (.pair u v))
  (hb:fT σ (.pair u v) (Ty.pair u v).zero parts.toList=some (x,σ')) :
  mV P B N γ σ a w d (Instr.build t (parts.map fun(i,x)=>(i,a.eval x))) (σ'.aP d (.data (.pair u v) x)):=by
 have hD:=hc.T _ _ hT;obtain⟨fs,f1,f2,_⟩:=hD.pair;obtain⟨pl,p1,p2⟩:=f2.places;obtain⟨i,z,i1,i2,i3,i4⟩:=hD.info;obtain⟨cells',γ',k1,k2,k3,k4⟩:=Hj (place:=fun k=>pl.toArray[k]?) (fun k u o hu ho=>by have:=p2 k u o hu ho;simpa using this) h
  (x:=(Ty.pair u v).zero) (cells:=z.cells) (by rw[i4];exact mB w γ.I _) hb
 have hrun:(Instr.build t (parts.map fun(i,x)=>(i,a.eval x))).run P w=.ok (.agg cells') w:=by
  refine run_build w t _ _ ?_;unfold Program.built;simp only[i1,f1,i3,p1];simpa using k1
 exact⟨_,_,γ',hrun,k2.ve hd ⟨_,k4,rfl⟩,by cases d<;>exact k3⟩
theorem E7(hc:eW P cx){t:TypeId}{n:Nat}{e:Ty}{parts:Array (Nat×Operand)}{l:List e.den}(h:cF B N γ σ a w)(hd:∀k,d=some k→k<N)(hT:find cx.T t=some (.arr n e))
  (hb:fK σ e (List.replicate n e.zero) parts.toList=some (l,σ')) :
  mV P B N γ σ a w d (Instr.build t (parts.map fun(i,x)=>(i,a.eval x))) (σ'.aP d (.data (.arr n e) l)):=by
 have hD:=hc.T _ _ hT;obtain⟨eT,f1,f2,f3⟩:=hD.arr;obtain⟨ie,ze,e1,e2,e3,e4⟩:=f2.info;obtain⟨i,z,i1,i2,i3,i4⟩:=hD.info;obtain⟨cells',γ',k1,k2,k3,k4⟩:=Ap (n:=n) (place:=fun k=>some (k*ie.size,ie.size)) (fun k=>by rw[e2]) h
  (l:=List.replicate n e.zero) (cells:=z.cells) (by rw[i4];exact mB w γ.I (.arr n e)) hb
 have hrun:(Instr.build t (parts.map fun(i,x)=>(i,a.eval x))).run P w=.ok (.agg cells') w:=by
  refine run_build w t _ _ ?_;unfold Program.built;simp only[i1,f1,i3,e1];simpa using k1
 exact⟨_,_,γ',hrun,k2.ve hd ⟨_,k4,rfl⟩,by cases d<;>exact k3⟩
theorem vg{e:Ty}{z:Value}(hz:z.cells.toList=ew e)(he:0<e.size)(n:Nat):(madeCells z.cells (n*e.size)).toList=ew (.arr n e):=by
 have hzl:z.cells.size=e.size:=by rw[←dy e,←hz];simp
 apply NA;intro j;have hlen:(ew (.arr n e)).length=n*e.size:=by rw[dy];rfl
 rcases yg j (n*e.size) with hj|hj
 ·have h1:(madeCells z.cells (n*e.size)).toList[j]?=some (z.cells[j % z.cells.size]!):=by simp[madeCells,hj]
  rw[h1];have hdiv:j / e.size<n:=by rw[Wh he];exact hj
  have hk:=ep (ew e) n (j / e.size) hdiv;rw[dy] at hk;have hmod:=A4 j he;have hkk:j / e.size*e.size+j % e.size=j:=by rw[RR];exact RP j e.size
  have h2:(ew (.arr n e))[j]?=(ew e)[j % e.size]?:=by
   conv=>rhs;rw[←hk]
   rw[uo,bG hmod,ni,hkk];rfl
  rw[h2,←hz,hzl];have hm:j % e.size<z.cells.size:=by omega
  simp[hm]
 ·rw[PB (by simp[madeCells];omega),PB (by omega)]
theorem PU{w:World}{I:Nat→Nat→Prop}{e:Ty}{n:Nat}{l:List e.den}{cells:Array Value}{t:TypeId}{blk:Nat}{fr:Nat×Nat}(h:bt w I (.arr n e) l cells.toList)(hg:w.heap[blk]?=some (.cells cells t fr))
  (hI:∀o,I blk o) (hn:n≤maxLen):bt w I (.slice e) l [.slice (some ⟨blk,0,none⟩) n n]:=by
 obtain⟨h1,h2,h3⟩:=h;have h1':l.length=n:=h1;refine .inr ⟨blk,0,n,by rw[←h1'],by rw[←h1'];exact mq _,hn,fun i x hx=>?_⟩;have hx':l[i]?=some x:=hx;have hi:i<n:=by have:=(List.getElem?_eq_some_iff.1 hx').1;omega
 have hr:=h3 i x hx';refine⟨_,hr.length,fun j c hj=>⟨?_,hI _⟩,hr⟩;rw[cell_of_heap hg];rw[uo] at hj;split at hj
 ·rw[ni] at hj;rw[uW];simpa using hj
 ·cases hj
theorem Ho(hc:eW P cx){t:TypeId}{n:Nat}{e:Ty}{parts:Array (Nat×Operand)}{l:List e.den}(h:cF B N γ σ a w)(hd:∀k,d=some k→k<N)(hT:find cx.T t=some (.slice e))
  (hn:Nat.ble (n*e.size) 65536=true) (hb:fK σ e (List.replicate n e.zero) parts.toList=some (l,σ')) :
  mV P B N γ σ a w d (Instr.buildSlice t n (parts.map fun(i,x)=>(i,a.eval x))) (σ'.aP d (.data (.slice e) l)):=by
 have hD:=hc.T _ _ hT;have hn:n*e.size≤65536:=JB hn;obtain⟨eT,f1,f2,f3,f4⟩:=hD.slice;obtain⟨ie,ze,e1,e2,e3,e4⟩:=f2.info;obtain⟨cells',γ',k1,k2,k3,k4⟩:=Ap (n:=n) (place:=fun k=>some (k*ie.size,ie.size)) (fun k=>by rw[e2]) h
  (l:=List.replicate n e.zero) (cells:=madeCells ze.cells (n*e.size)) (by rw[vg e4 f4];exact mB w γ.I (.arr n e)) hb
 obtain⟨m1,m2⟩:=k2.ok.ad8 cells' eT;have hrun:(Instr.buildSlice t n (parts.map fun(i,x)=>(i,a.eval x))).run P w=.ok (.slice (some ⟨w.heap.size,0,none⟩) n n) (w.alloc (.cells cells' eT)):=by
  have hk1:Instr.fill (fun i=>some (i*ie.size,ie.size)) (madeCells ze.cells (n*ie.size)) (parts.map fun(i,x)=>(i,a.eval x)).toList=some cells':=by rw[e2] at k1⊢;simpa using k1
  by_cases h0:n*ie.size=0
  ·have hz0:madeCells ze.cells (n*ie.size)=#[]:=by rw[h0];simp[madeCells]
   rw[hz0] at hk1;simp only[RO] at hk1;simp[Instr.buildSlice,run_underlying f1,Go.sizeOf,typeInfo,zeroValue,e1,e3,h0,newRow];have hz:(Array.map (fun x:Nat=>(default:Value)) (Array.range 0))=#[]:=by simp[Array.range]
   rw[hz,hk1];rfl
  ·exact run_buildSlice w t eT n _ cells' ie ze f1 e1 e3 (by rw[e2];omega) h0 hk1
 refine⟨_,_,_,hrun,k2.aP m2 m1 hd (v:=.data (.slice e) l) ⟨[.slice (some ⟨w.heap.size,0,none⟩) n n],?_,rfl⟩,by cases d<;>exact k3.trans m2⟩;refine PU (bt.mono m2.I m2.cells k4) (heap_alloc_new w _) (fun o=>.inr rfl) ?_;have:n*1≤n*e.size:=Nat.mul_le_mul_left _ f4;have:(65536:Nat)≤maxLen:=by decide
 omega
theorem PV{α:Type}{l r:List α}{c:α}{j:Nat}(h:l.length=j):(l++([c]++r)).take (j+1)=l++[c]:=by
 subst h;rw[List.take_append,Ny (by omega)];simp
theorem PW{place:Nat→Option (Nat×Nat)}(hpl:∀k,place k=some (k,1))(h:cF B N γ σ a w) :
  ∀{parts:List (Nat×Operand)} {k:Nat} {v:aO} {cells:Array Value},cells.size=k+parts.length→A7 σ k parts=some v →
   ∃vals:List Value,Instr.fill place cells (parts.map fun p=>(p.1,a.eval p.2))=some (cells.toList.take k++vals).toArray∧b6 γ σ.mem w v .cells vals:=by
 intro parts;induction parts with
 | nil =>
   intro k v cells hs hv;obtain rfl:=aG hv;refine⟨[],?_,rfl⟩;have:cells.toList.take k=cells.toList:=Ny (by simp only[vS,yf] at hs;simp[hs]);rw[this];simp[Instr.fill]
 | cons p r ih =>
   obtain⟨j,x⟩:=p;intro k v cells hs hv;simp only[A7] at hv;cases hj:Nat.beq j k with
   | false=>rw[hj] at hv;cases hv
   | true =>
     rw[hj] at hv;simp only[fy] at hv;obtain rfl:=fu hj;simp only[o7] at hs;have key:∀(u u':aO) (c:Value),(∀t,u≠.D1 t)→u≠.undef→cc σ x=u→A7 σ (j+1) r=some u'→v=.mix u u'→(a.eval x).cells.toList=[c] →
       ∃vals:List Value,Instr.fill place cells (((j,x)::r).map fun p=>(p.1,a.eval p.2))=some (cells.toList.take j++vals).toArray∧b6 γ σ.mem w v .cells vals:=by
      intro u u' c h1 h2 hu Nw hv' hcell;have hx:=h.cc x;rw[hu] at hx;have hx':=hx.mC h1 (fun e=>absurd e h2);have hlen:(splice cells.toList j [c]).length=cells.toList.length:=bA (by simp;omega);obtain⟨vals,k1,k2⟩:=ih (k:=j+1) (cells:=(splice cells.toList j [c]).toArray) (by simp only[JC,hlen,Un];omega) Nw;have ht:(splice cells.toList j [c]).take (j+1)=cells.toList.take j++[c]:=by
       have:(cells.toList.take j).length=j:=by rw[o6,Un];omega
       simp only[splice];rw[qm,PV this]
      refine⟨c::vals,?_,?_⟩
      ·simp only[PF];rw[Cq (hpl j) (by rw[hcell];rfl) (by omega),hcell,k1];rw[ht];simp
      ·rw[hv'];exact⟨[c],vals,rfl,by rw[hcell] at hx';exact hx',k2⟩
     split at hv
     ·rename_i u' hu Nw;obtain rfl:=aG hv;have hx:=h.cc x;rw[hu] at hx;obtain hx:a.eval x=_:=by simpa [b6] using hx
      exact key .qL u' (.pointer none) (fun t e=>by cases e) (fun e=>by cases e) hu Nw rfl (by rw[hx];rfl)
     ·rename_i b aA q u' hu Nw;obtain rfl:=aG hv;have hx:=h.cc x;rw[hu] at hx;obtain⟨⟨y,hy,ho⟩,_⟩:=hx;obtain rfl:a.eval x=y:=by simpa using hy
      refine key (.ptr b aA q) u' (a.eval x) (fun t e=>by cases e) (fun e=>by cases e) hu Nw rfl ?_;generalize a.eval x=y at ho⊢;cases y<;>first|rfl|(simp[Value.oneCell'] at ho)
     ·rename_i f c u' hu Nw;obtain rfl:=aG hv;have hx:=h.cc x;rw[hu] at hx;obtain⟨arr,hx,_,_⟩:=hx;obtain hx:a.eval x=_:=by simpa using hx
      exact key (.fn f c) u' _ (fun t e=>by cases e) (fun e=>by cases e) hu Nw rfl (by rw[hx];rfl)
     ·cases hv
theorem NJ(hc:eW P cx){t:TypeId}{nb n:Nat}{parts:Array (Nat×Operand)}(h:cF B N γ σ a w)(hd:∀k,d=some k→k<N)
  (hr:(Cm cx nb d t n parts.toList σ).run=some σ'):mV P B N γ σ a w d (Instr.buildSlice t n (parts.map fun(i,x)=>(i,a.eval x))) σ':=by
 unfold Cm at hr;split at hr
 case h_2=>cases hr
 rename_i k e v he hv;obtain⟨hb,jC⟩:=aB hr;simp only[dW] at hb;obtain⟨⟨hn,h0⟩,ZM⟩:=hb;obtain rfl:=fu hn;have h0':0<parts.toList.length:=by simpa using h0
 have ace:parts.toList.length≤64:=JB ZM;obtain⟨k1,k2⟩:=zq hc he;obtain⟨_,hs,z,hz,_⟩:=hc.oX _ k2;obtain⟨ie,i1,i2⟩:∃ie,P.info? e=some ie∧ie.size=1:=by
  have:=hs w;cases hi:P.info? e with
  | none=>simp[Go.sizeOf,typeInfo,hi] at this
  | some ie=>simp[Go.sizeOf,typeInfo,hi] at this;exact⟨ie,rfl,this⟩
 obtain⟨z',i3⟩:∃z',ie.zero=some z':=by
  have:=hz w;cases hi:ie.zero with
  | none=>simp[zeroValue,typeInfo,i1,hi] at this
  | some z'=>exact⟨z',rfl⟩
 obtain⟨aA,bh,hr2⟩:=dI jC;obtain rfl:=aG hr2;obtain⟨vals,f1,f2⟩:=PW (place:=fun i=>some (i*ie.size,ie.size)) (fun j=>by rw[i2];simp) h (k:=0) (cells:=(Array.range (parts.toList.length*ie.size)).map (z'.cells[· % z'.cells.size]!)) (by simp[i2]) hv;have hrun:=run_buildSlice w t e parts.toList.length (parts.map fun(i,x)=>(i,a.eval x)) _ ie z' k1 i1 i3 (by rw[i2];omega) (by rw[i2];omega) (by rw[RO];exact f1);obtain⟨m1,m2⟩:=h.ok.newVar (b:=nb+k) (v:=v) (tid:=0) bh (cs:=((((Array.range (parts.toList.length*ie.size)).map (z'.cells[· % z'.cells.size]!)).toList.take 0)++vals).toArray) e (.inl rfl) (by simpa using f2);refine⟨_,_,_,hrun,h.step m2 m1 (hd k rfl) ?_,m2⟩;refine⟨⟨_,rfl,rfl⟩,gC (bq _ _) rfl ⟨by simp,w.heap.size,0,by simp[bB],by omega,by omega,by omega,_,_,rfl,by simp,.inr ?_⟩⟩;simp[ck]
theorem Hp(hc:eW P cx){t:TypeId}{e:Ty}{nb k:Nat}(h:cF B N γ σ a w)(hd:k<N)(hT:find cx.T t=some (.slice e))
  (hr:(σ.aL (nb+k) (.data (.slice e) ([]:List e.den)) 0 true fun aA σ=>.ret (σ.put k (.whole (nb+k) aA))).run=some σ') :
  mV P B N γ σ a w (some k) (Instr.buildSlice t 0 #[]) σ':=by
 obtain⟨eT,f1,f2,f3,f4⟩:=(hc.T _ _ hT).slice;obtain⟨ie,ze,e1,e2,e3,e4⟩:=f2.info;obtain⟨aA,bh,hr2⟩:=dI hr;obtain rfl:=aG hr2;have hrun:(Instr.buildSlice t 0 #[]).run P w=.ok (.slice (some ⟨w.heap.size,0,none⟩) 0 0) (w.alloc (.cells #[] eT)):=by
  simp[Instr.buildSlice,run_underlying f1,Go.sizeOf,typeInfo,zeroValue,e1,e3,newRow,Instr.fill];have hz:(Array.map (fun x:Nat=>(default:Value)) (Array.range 0))=#[]:=by simp[Array.range]
  rw[hz]
 obtain⟨n1,n2⟩:=h.ok.PM (w':=w.alloc (.cells #[] eT)) (b:=nb+k) (e:=e) (l:=([]:List e.den)) (tid:=0) (aA:=aA) (cap:=0) bh f4
  ((va.refl _ _).alloc h.ok.base _) (cu w _) (heap_alloc_new w _) (yw _ _) (.inl rfl) (mq _) (w9 _) (by simp) (fun i z hz=>by cases hz)
 refine⟨_,_,_,hrun,h.step n2 n1 hd ?_,n2⟩;exact⟨⟨_,rfl,rfl⟩,gC (bq _ _) rfl ⟨e,0,rfl,rfl,.inr ⟨w.heap.size,0,by simp[bB],rfl⟩⟩⟩
end
end Go.Ge
namespace Go.Ge
open RowKit
section
variable {P:Program} {B:qq} {N:Nat} {γ:Gh} {σ σ':St} {a:Act} {w w':World} {d:Option Nat} {cx:Ctx}
theorem D8:(4294967296:Nat)≤maxLen:=by decide
theorem E8{n:Nat}(h:fits (n:Int)=true):n≤4294967296:=by simp[fits] at h;omega
theorem Bh{eT:TypeId}{ie:TypeInfo}(hb:Hf P eT=true)(hi:P.info? eT=some ie):ie.bytes≤32768:=by
 unfold Hf at hb;rw[hi] at hb;exact JB hb
theorem yz{mem:Nat→Option bE}{b cap blk:Nat}{bx:bE}{e:Ty}{n:Nat}(bu:bx.buf=true)(hrow:bx.row=some (e,n)) :
  b6 (bB γ b (some (blk,cap))) (cl mem b bx) w' (.whole b bx.aA) .val [.slice (some ⟨blk,0,none⟩) n cap] :=
 ⟨⟨_,rfl,rfl⟩,gC (bq _ _) rfl ⟨e,n,bu,hrow,.inr ⟨blk,cap,by simp[bB],rfl⟩⟩⟩
theorem JO(hc:eW P cx){t:TypeId}{nb k:Nat}{e:Ty}{x y:Operand}{kl kc:IntKind}{l c:Int}(h:cF B N γ σ a w)(hd:k<N)(hT:find cx.T t=some (.slice e))
  (hx:cc σ x=.data (.int kl) l) (hy:cc σ y=.data (.int kc) c) (hin:inside 0 l c=true) (hf:fits c=true)
  (hr:(σ.aL (nb+k) (.data (.slice e) (jV l e.zero)) 0 true fun aA σ=>.ret (σ.put k (.whole (nb+k) aA))).run=some σ') :
  mV P B N γ σ a w (some k) (Instr.makeSlice t (a.eval x) (a.eval y)) σ':=by
 obtain⟨aA,bh,hr2⟩:=dI hr;obtain rfl:=aG hr2;obtain⟨_,h0,h1⟩:=iE hin;have aji:c≤4294967296:=by simpa [fits] using hf
 have hvx:=h.cc x;have hvy:=h.cc y;rw[hx] at hvx;rw[hy] at hvy;obtain⟨ex,_⟩:=sW hvx;obtain⟨ey,_⟩:=sW hvy;obtain⟨eT,f1,f2,f3,f4⟩:=(hc.T _ _ hT).slice;obtain⟨ie,ze,e1,e2,e3,e4⟩:=f2.info;have hb:=Bh f3 e1;have hbytes:(ie.bytes:Int)*c≤281474976710656:=by
  have:(ie.bytes:Int)*c≤32768*c:=Int.mul_le_mul_of_nonneg_right (by omega) (by omega);omega
 have hrun:=run_make (P:=P) w t eT ie ze f1 e1 e3 kl kc l c h0 h1 hbytes (by omega);have hcells:(madeCells ze.cells (c.toNat*ie.size)).toList=ew (.arr c.toNat e):=by rw[e2];exact vg e4 f4 _
 have hlen:(jV l e.zero).length=l.toNat:=by simp[jV]
 obtain⟨m1,m2⟩:=h.ok.PM (w':=w.alloc (.cells (madeCells ze.cells (c.toNat*ie.size)) eT)) (b:=nb+k) (e:=e) (l:=jV l e.zero) (tid:=0) (aA:=aA) (cap:=c.toNat) bh f4
  ((va.refl _ _).alloc h.ok.base _) (cu w _) (heap_alloc_new w _) (yw _ _) (.inl rfl) (by rw[hlen];omega) (by have:=D8;omega)
  (by rw[e2];exact size_madeCells _ _) (fun i z hz=>by
   rw[hcells];have Xz:(List.replicate l.toNat e.zero)[i]?=some z:=hz;rw[abS] at Xz;split at Xz
   ·rename_i hi;obtain rfl:e.zero=z:=by simpa using Xz
    have:=ep (ew e) c.toNat i (by omega);rw[dy] at this;rw[show ew (.arr c.toNat e)=(List.replicate c.toNat (ew e)).flatten from rfl,this];exact mB _ _ _
   ·cases Xz)
 refine⟨_,_,_,by rw[ex,ey];exact hrun,h.step m2 m1 hd ?_,m2⟩;have:=yz (γ:=γ) (w':=w.alloc (.cells (madeCells ze.cells (c.toNat*ie.size)) eT)) (mem:=σ.mem) (b:=nb+k) (cap:=c.toNat) (blk:=w.heap.size)
  (bx:={ val:=.data (.slice e) (jV l e.zero),tid:=0,buf:=true,ro:=false,lk:=false,aA }) (e:=e) (n:=l.toNat) rfl (by rw[←hlen];rfl)
 exact this
theorem PX(b:UInt8):IntKind.u8.min≤((b.toNat:Int))∧((b.toNat:Int))≤IntKind.u8.max:=u8_in b
theorem PY(l:List Int):(⟨(aT l).toArray⟩:ByteArray)=strOfNums l:=rfl
theorem XA{I:Nat→Nat→Prop}{l:List Int}{v:Value}{src dst e:TypeId}(h:Be w I (.int .u8) l v)(hs:P.underlying src=some (.slice e))(he:P.underlying e=some (.int .u8))(hd:P.underlying dst=some .string) :
  (convert src dst v).run P w=.ok (.string ⟨(aT l).toArray⟩) w∧l.length≤maxLen:=by
 rcases h with ⟨rfl,base,cap,r1,r2,r3⟩|⟨blk,off,cap,r1,r2,r3,r4⟩
 ·rcases r3 with rfl|⟨blk,off,rfl⟩
  ·rw[r1];refine⟨?_,w9 _⟩;cases base with
   | none=>exact run_convert_bytes_nil w src e hs he 0 0 dst hd
   | some ad =>
     rw[run_convert_bytes_string w src dst e _ _ _ hs he hd];have hl:(loadCells ad 0).run P w=.ok #[] w:=run_loadCells_list (P:=P) w ad [] (fun j v hv=>by cases hv);simp[Conv.bytesToString,Sem.run_bind,hl,aT];rfl
  ·rw[r1];refine⟨?_,w9 _⟩;exact run_convert_bytes_arg w src e hs he blk off 0 cap [] rfl (fun i hi=>by omega) dst hd
 ·rw[r1];refine⟨?_,jl r2 r3⟩;rw[PY];refine run_convert_bytes_arg w src e hs he blk off l.length cap l rfl (fun i hi=>?_) dst hd;obtain⟨es,g1,g2,g3⟩:=r4 i l[i] (ru hi);obtain⟨rfl,_⟩:=g3;have:=g2 0 _ rfl;simp only[Ty.size,NC,yf] at this;rw[this];simp[List.getD,ru hi]
theorem Hq(l:List Int):(aT l).length=l.length:=by simp[aT]
theorem bytesRow_at{s:List UInt8}{cap i:Nat}{b:UInt8}(hb:s[i]?=some b):((bytesRow ⟨s.toArray⟩ cap).toList.drop (i*1)).take 1=[.int .u8 (b.toNat:Int)]:=by
 have hi:=(List.getElem?_eq_some_iff.1 hb).1;apply NA;intro j;rw[uo];split
 ·rename_i hj;obtain rfl:j=0:=by omega
  rw[ni];simp only[bytesRow,NC,yf,YW,RO];rw[Um (by simpa using hi)];simp[hb]
 ·rename_i hj;rw[PB (by simp;omega)]
theorem NK(s:ByteArray){cap:Nat}(h:s.size≤cap):(bytesRow s cap).size=cap:=by
 simp only[bytesRow,Zd,Array.size_map,Array.size_replicate];have:s.data.size=s.size:=rfl;omega
theorem LG(hc:eW P cx){nb k:Nat}{src dst:TypeId}{x:Operand}{s:List UInt8}(h:cF B N γ σ a w)(hd:k<N)(hs:find cx.T src=some .str)(hd':find cx.T dst=some (.slice (.int .u8)))
  (hx:cc σ x=.data .str s) (hr:(σ.aL (nb+k) (.data (.slice (.int .u8)) (az s)) 0 true fun aA σ=>.ret (σ.put k (.whole (nb+k) aA))).run=some σ') :
  mV P B N γ σ a w (some k) (convert src dst (a.eval x)) σ':=by
 have hv:=h.cc x;rw[hx] at hv;obtain⟨ex,hl⟩:=xo hv;obtain⟨aA,bh,iD⟩:=dI hr;obtain rfl:=aG iD;obtain⟨eT,f1,f2,f3,f4⟩:=(hc.T _ _ hd').slice;have hrun:=run_bytes_of_string (P:=P) w src dst eT ⟨s.toArray⟩ (hc.T _ _ hs).str f1 f2.int;have hsz:(⟨s.toArray⟩:ByteArray).size=s.length:=by simp[ByteArray.size]
 rw[hsz] at hrun;have hge:=grownCap_ge w s.length 0 eT;have hle:=grownCap_le_maxLen w s.length 0 eT hl;have hrs:=NK ⟨s.toArray⟩ (cap:=grownCap w s.length 0 eT) (by rw[hsz];exact hge);have hlen:(az s).length=s.length:=by simp[az]
 generalize hcap:grownCap w s.length 0 eT=cap at *;obtain⟨m1,m2⟩:=h.ok.PM (b:=nb+k) (e:=.int .u8) (l:=(az s:List Int)) (tid:=0) (aA:=aA) (cap:=cap)
  (w':=w.drew.alloc (.cells (bytesRow ⟨s.toArray⟩ cap) eT ((bytesRow ⟨s.toArray⟩ cap).size,(bytesRow ⟨s.toArray⟩ cap).size+1)))
  bh (by decide) ((va.refl B w).drew.alloc h.ok.base _) (cu w.drew _) (heap_alloc_new w.drew _) ⟨fun o ho hh=>by omega,fun he=>by cases he⟩ (.inl rfl) (jl (NB hlen) hge) hle
  (by rw[hrs];exact(NC _).symm) (fun i z hz=>by
   have Xz:(az s)[i]?=some z:=hz;simp only[az,RI] at Xz;cases hb:s[i]? with
   | none=>rw[hb] at Xz;cases Xz
   | some b =>
     rw[hb] at Xz;obtain rfl:(b.toNat:Int)=z:=aG Xz;exact⟨bytesRow_at (cap:=cap) hb,PX b⟩)
 refine⟨_,_,_,by rw[ex];exact hrun,h.step m2 m1 hd ?_,m2⟩;have:=yz (γ:=γ) (mem:=σ.mem) (b:=nb+k) (cap:=cap) (blk:=w.heap.size)
  (bx:={ val:=.data (.slice (.int .u8)) (az s),tid:=0,buf:=true,ro:=false,lk:=false,aA }) (e:=.int .u8) (n:=s.length)
  (w':=w.drew.alloc (.cells (bytesRow ⟨s.toArray⟩ cap) eT ((bytesRow ⟨s.toArray⟩ cap).size,(bytesRow ⟨s.toArray⟩ cap).size+1))) rfl (by rw[←hlen];rfl)
 exact this
theorem E9(hc:eW P cx){nb:Nat}{src dst:TypeId}{x:Operand}(h:cF B N γ σ a w)(hd:∀k,d=some k→k<N)(hr:(gx cx nb d src dst (cc σ x) σ).run=some σ') :
  mV P B N γ σ a w d (convert src dst (a.eval x)) σ':=by
 have hv:=h.cc x;unfold gx at hr;split at hr
 ·rename_i ks k kx n hs hd' hx;rw[hx] at hv;obtain⟨ex,_⟩:=sW hv;obtain rfl:=aG hr;refine bC h hd (x:=.int k (k.wrap n)) ?_ (mkInt (eR _ _));rw[ex];simp[convert,run_underlying (hc.T _ _ hs).int,run_underlying (hc.T _ _ hd').int,Conv.intToInt]
 ·rename_i s hs hd' hx;rw[hx] at hv;obtain rfl:=aG hr;obtain⟨ex,hl⟩:=xo hv;refine bC h hd (x:=a.eval x) ?_ hv;rw[ex];simp[convert,run_underlying (hc.T _ _ hs).str,run_underlying (hc.T _ _ hd').str]
 ·rename_i s hs hd' hx;split at hr
  ·rename_i k;obtain⟨hf,hr2⟩:=bY hr;exact LG hc h (hd k rfl) hs hd' hx hr2
  ·exact absurd hr (by intro k;cases k)
 ·rename_i x0 hs hd';split at hr
  ·rename_i l hl;obtain rfl:=aG hr;obtain⟨eT,f1,f2,f3,f4⟩:=(hc.T _ _ hs).slice;obtain⟨r1,r2⟩:=XA (dst:=dst) (qQ h.ok hv hl) f1 f2.int (hc.T _ _ hd').str;refine bC h hd r1 ⟨_,⟨rfl,?_⟩,rfl⟩;exact jl (NB (Hq l)) r2
  ·exact absurd hr (by intro k;cases k)
 ·exact absurd hr (by intro k;cases k)
end
end Go.Ge
namespace Go.Ge
open RowKit
section
variable {P:Program} {B:qq} {N:Nat} {γ:Gh} {σ σ':St} {a:Act} {w w':World} {d:Option Nat} {cx:Ctx}
def eA(w:World)(I:Nat→Nat→Prop)(e:Ty)(l:List e.den)(cs:List Value):Prop :=
 ∀(i:Nat) (x:e.den),l[i]?=some x→bt w I e x ((cs.drop (i*e.size)).take e.size)
theorem mD{α:Type}{a b:List α}{i s:Nat}(h:(i+1)*s≤a.length):((a++b).drop (i*s)).take s=(a.drop (i*s)).take s:=by
 rw[A3] at h;rw[RE (by omega),ad0 (by rw[w8];omega)]
theorem eA.append{I:Nat→Nat→Prop}{e:Ty}{l m:List e.den}{c1 c2 rest:List Value}(h1:eA w I e l c1)(h2:eA w I e m c2)(hl1:c1.length=l.length*e.size)(KP:c2.length=m.length*e.size) :
  eA w I e (l++m) (c1++c2++rest):=by
 intro i x hx;rw[RH] at hx;split at hx
 ·rename_i hi;have hm:(i+1)*e.size≤l.length*e.size:=sS _ hi;rw[qm,mD (by omega)];exact h1 i x hx
 ·rename_i hi;have hj:i-l.length<m.length:=(List.getElem?_eq_some_iff.1 hx).1;have hm:(i-l.length+1)*e.size≤m.length*e.size:=sS _ hj;have e1:i*e.size=c1.length+(i-l.length)*e.size:=by rw[hl1,←gi];congr 1;omega
  rw[qm,e1,←ye,CL,mD (by omega)];exact h2 _ x hx
theorem eA.front{I:Nat→Nat→Prop}{e:Ty}{l:List e.den}{cs:List Value}{n:Nat}(h:eA w I e l cs)(hn:l.length*e.size≤n)(hc:n≤cs.length):eA w I e l (cs.take n):=by
 intro i x hx;have hi:i<l.length:=(List.getElem?_eq_some_iff.1 hx).1;have hm:(i+1)*e.size≤l.length*e.size:=sS _ hi;have:(((cs.take n)++cs.drop n).drop (i*e.size)).take e.size=((cs.take n).drop (i*e.size)).take e.size:=mD (by rw[o6];omega);rw[←this,RG];exact h i x hx
theorem acg{I:Nat→Nat→Prop}{e:Ty}{m:List e.den}{v:Value}{tx t0 e':TypeId}(hk0:(∃e',P.underlying tx=some (.slice e'))∨P.underlying tx=some .string)(hk:P.underlying t0=some (.slice e'))(h:Be w I e m v) :
  ∃news,Src P e.size tx v m.length news w∧eA w I e m news:=by
 suffices ∃news,Src P e.size t0 v m.length news w∧eA w I e m news by
  obtain⟨news,n1,n2⟩:=this;exact⟨news,⟨hk0,n1.len,n1.cells,n1.cellsD,n1.newsLen,n1.one⟩,n2⟩
 rcases h with ⟨rfl,base,cap,r1,r2,r3⟩|⟨blk,off,cap,r1,r2,r3,r4⟩
 ·refine⟨[],?_,fun i x hx=>by cases hx⟩;rcases r3 with rfl|⟨blk,off,rfl⟩
  ·rw[r1];cases base with
   | none=>exact Src.ofNil w hk 0
   | some ad=>exact Src.ofSlice w hk ad 0 0 [] (by simp) (fun j u hj=>by cases hj) (fun u hu=>by cases hu)
  ·rw[r1];exact Src.ofSlice w hk _ 0 cap [] (by simp) (fun j u hj=>by cases hj) (fun u hu=>by cases hu)
 ·obtain⟨news,n1,n2,n3,n4⟩:=D6 (w:=w) r4;refine⟨news,?_,n4⟩;rw[r1];exact Src.ofSlice w hk _ m.length cap news n1 (fun j u hj=>by rw[addr_add];exact n2 j u hj) n3
theorem ach{I:Nat→Nat→Prop}{s:List UInt8}{tx:TypeId}(hk:(∃e',P.underlying tx=some (.slice e'))∨P.underlying tx=some .string) :
  ∃news,Src P 1 tx (.string ⟨s.toArray⟩) (az s).length news w∧eA w I (.int .u8) (az s:List Int) news:=by
 have hlen:(az s).length=(⟨s.toArray⟩:ByteArray).size:=by simp[az,ByteArray.size]
 refine⟨byteCells ⟨s.toArray⟩,by rw[hlen];exact⟨hk,fun _=>rfl,firstCells_string _ w,firstCells_string _ w.drew,by rw[byteCells_length,NC],fun u hu=>by
  obtain⟨_,_,rfl⟩:=List.mem_map.1 hu;rfl⟩,fun i x hx=>?_⟩
 have hx':(az s)[i]?=some x:=hx;simp only[az,RI] at hx';cases hb:s[i]? with
 | none=>rw[hb] at hx';cases hx'
 | some b =>
   rw[hb] at hx';obtain rfl:(b.toNat:Int)=x:=aG hx';refine⟨?_,PX b⟩;apply NA;intro j;rw[uo];split
   ·rename_i hj;obtain rfl:j=0:=by simp[Ty.size] at hj;exact hj
    rw[ni];simp[byteCells,Ty.size,hb]
   ·rename_i hj;rw[PB (by simp[Ty.size] at hj⊢;omega)]
theorem Bi{I:Nat→Nat→Prop}{t tx ty eT:TypeId}{e:Ty}{l m:List e.den}{base:Option Addr}{sCap:Nat}{olds news:List Value}{x:Value}(ht:P.underlying t=some (.slice eT))(he:Den P e eT)(hb:Hf P eT=true)
  (hold:(Builtin.firstCells e.size l.length (.slice base l.length sCap)).run P w.drew=.ok olds.toArray w.drew) (hol:olds.length=l.length*e.size) (ho:eA w I e l olds)
  (hs:Src P e.size tx x m.length news w) (hn:eA w I e m news) (hg:sCap<l.length+m.length) (hf:l.length+m.length≤4294967296) :
  ∃(cap:Nat) (cells:Array Value),(Builtin.append_ #[t,tx] ty #[.slice base l.length sCap,x]).run P w=.ok (.slice (some ⟨w.heap.size,0,none⟩) (l.length+m.length) cap) (w.drew.alloc (.cells cells eT)) ∧
   l.length+m.length≤cap∧cap≤maxLen∧cells.size=cap*e.size∧eA w I e (l++m) cells.toList:=by
 obtain⟨ie,ze,e1,e2,e3,e4⟩:=he.info;have hby:=Bh hb e1;have hfit:=growslice_fits (need:=l.length+m.length) (old:=sCap) (bytes:=ie.bytes) hg (by
  have:(l.length+m.length)*ie.bytes≤4294967296*32768:=Nat.mul_le_mul hf hby;omega)
 have hrun:=run_append_grow_src (P:=P) w t tx ty eT ie ze ht e1 e3 base l.length sCap olds (by rw[e2];exact hold) x m.length news (by rw[e2];exact hs) hg (by omega) hfit;have hge:=grownCap_ge w (l.length+m.length) sCap eT;have hle:=grownCap_le_maxLen w (l.length+m.length) sCap eT (by have:=D8;omega);have hzl:ze.cells.size=e.size:=by rw[←dy e,←e4];simp
 refine⟨_,_,hrun,hge,hle,?_,?_⟩
 ·have hnl:=hs.newsLen;have hsz:(Builtin.zeroCells ze.cells (grownCap w (l.length+m.length) sCap eT-(l.length+m.length))).size=(grownCap w (l.length+m.length) sCap eT-(l.length+m.length))*e.size:=by
   simp[Builtin.zeroCells,hzl]
  rw[Zd,hsz];simp only[JC,uV,hol,hnl];rw[←gi,←gi]
  congr 1;omega
 ·rw[YW];exact ho.append hn hol hs.newsLen
theorem bp.grow{mem:Nat→Option bE}(h:bp B γ mem w){b:Nat}{bx:bE}(hb:mem b=some bx){e:Ty}{l l':List e.den}(bu:bx.buf=true)(hval:bx.val=.data (.slice e) l){blk cap:Nat}(hl:γ.loc b=some (blk,cap))
  {cur cur':Array Value} {t:TypeId} {fr:Nat×Nat} (hg:w.heap[blk]?=some (.cells cur t fr)) (Ls:ThB e cur fr) (gL:bx.tid=0∨t=bx.tid) (hs:cur'.size=cur.size) (hsame:∀o,o<l.length*e.size→cur'[o]?=cur[o]?)
  (he:0<e.size) (hle:l.length≤l'.length) (hcap:l'.length≤cap) (hmax:cap≤maxLen) (hsz:cur.size=cap*e.size) (hel:eA w γ.I e l' cur'.toList) :
  let gy:bE:={ bx with val:=.data (.slice e) l',aA:=bx.aA+1 }
  bp B γ (cl mem b gy) (w.setRow blk cur')∧Ext B γ mem w γ (cl mem b gy) (w.setRow blk cur'):=by
 intro gy;have hf:=h.fresh b blk cap (by rw[hb];simp) hl;have hblk:=setRow_heap w blk cur cur' t fr hg;have xk:∀i,i≠blk→(w.setRow blk cur').heap[i]?=w.heap[i]?:=fun i hi=>setRow_other w blk i cur' (fun e=>hi e);have hrow:=bE.dh bu hval;have hx:Ext B γ mem w γ (cl mem b gy) (w.setRow blk cur') :=
  { below:=⟨rfl,rfl,rfl,by simp,fun i hi=>xk i (fun e=>hi (by rw[e];exact hf.1))⟩
    I:=fun _ _ x=>x
    pE:=fun _ _ x=>.inl x
    cells:=fun c o x=>by
     by_cases e':c=blk
     ·subst e';have:=(h.sep b bx c cap o hb hl x).2 bu e l.length hrow;rw[cell_of_heap hblk,cell_of_heap hg];exact hsame o this
     ·exact cH (xk c e')
    boxes:=fun c cx hc=>by
     by_cases e':c=b
     ·subst e';obtain rfl:cx=bx:=aG (hc.symm.trans hb);exact⟨gy,bq _ _,Nat.le_succ _,fun k=>absurd k (by simp[gy])⟩
     ·exact⟨cx,by rw[aM _ e'];exact hc,mq _,fun _=>⟨rfl,rfl,rfl⟩⟩ }
 refine⟨?_,hx⟩;exact
  { aH:=h.EX hx
    base:=by have:=h.base;simpa using this
    boxes:=fun c cx hc=>by
     by_cases e':c=b
     ·subst e';rw[bq] at hc;obtain rfl:=aG hc;unfold cr;simp only[gy,bu];exact⟨e,l',rfl,he,.inr ⟨blk,cap,cur',t,fr,hl,hblk,Ls.same hs,gL,hcap,hmax,by rw[hs];exact hsz,fun i x hi=>bt.mono hx.I hx.cells (hel i x hi)⟩⟩
     ·rw[aM _ e'] at hc;refine(h.boxes c cx hc).keep hx rfl fun de k' hl'=>xk de fun e2=>e' ?_;subst e2;exact h.inj c b de k' cap (by rw[hc];simp) (by rw[hb];simp) hl' hl
    inj:=fun c d de k1 k2 hc hd h1 h2=>h.inj c d de k1 k2 (by
     by_cases e:c=b
     ·subst e;rw[hb];simp
     ·rwa [aM _ e] at hc) (by
     by_cases e:d=b
     ·subst e;rw[hb];simp
     ·rwa [aM _ e] at hd) h1 h2
    fresh:=fun c de k' hc h1=>by
     have:=h.fresh c de k' (by
      by_cases e:c=b
      ·subst e;rw[hb];simp
      ·rwa [aM _ e] at hc) h1
     exact⟨this.1,by simpa using this.2⟩
    tN:=fun de off hi=>by have:=h.tN de off hi;simpa using this
    sep:=fun c cx de k' off hc h1 hi=>by
     by_cases e':c=b
     ·subst e';rw[bq] at hc;obtain rfl:=aG hc;obtain⟨s1,s2⟩:=h.sep c bx de k' off hb h1 hi;refine⟨s1,fun _ u n hr=>?_⟩;have hr2:gy.row=some (e,l'.length):=bE.dh (bx:=gy) bu rfl;rw[hr2] at hr;obtain⟨rfl,rfl⟩:=ec (aG hr);have:=s2 bu e l.length hrow;exact DX this (sS _ hle)
     ·rw[aM _ e'] at hc;exact h.sep c cx de k' off hc h1 hi }
theorem ZN(hm:bp B γ σ.mem w){e:Ty}{m:List e.den}{x:aO}{v:Value}{tx t0 e':TypeId}(hk0:(∃e',P.underlying tx=some (.slice e'))∨P.underlying tx=some .string)(hk:P.underlying t0=some (.slice e'))
  (hv:b6 γ σ.mem w x .val [v]) (h:uZ e σ x=some m):∃news,Src P e.size tx v m.length news w∧eA w γ.I e m news:=by
 unfold uZ at h;split at h
 ·rename_i t;obtain⟨q,hq⟩:=ko h;subst q;subst hq;obtain⟨ev,_⟩:=xo hv;rw[ev];exact ach hk0
 ·exact acg hk0 hk (qQ hm hv h)
theorem zv{α:Type}{c:Bool}{t:Tree α}{y:α}(h:(bif c then .fail else t).run=some y):c=false∧t.run=some y:=by
 cases c with
 | true=>cases h
 | false=>exact⟨rfl,h⟩
theorem pG{base:Option Addr}{t tx ty eT:TypeId}{size:Nat}{x:Value}{news:List Value}(ht:P.underlying t=some (.slice eT))(hsz:(Go.sizeOf eT).run P w=.ok size w)(hs:Src P size tx x 0 news w) :
  (Builtin.append_ #[t,tx] ty #[.slice base 0 0,x]).run P w=.ok (.slice base 0 0) w:=by
 cases base with
 | none=>rcases hs.kind with ⟨e',hk⟩|hk<;>simp[Builtin.append_,run_underlying ht,run_underlying hk,hsz,hs.len,hs.cells]
 | some ad =>
   have hn:news=[]:=by have:=hs.newsLen;simpa using this
   subst hn;rcases hs.kind with ⟨e',hk⟩|hk<;>simp[Builtin.append_,run_underlying ht,run_underlying hk,hsz,hs.len,hs.cells,storeCells]
theorem CP(size:Nat)(base:Option Addr):(Builtin.firstCells size 0 (.slice base 0 0)).run P w=.ok #[] w:=by
 cases base with
 | none=>exact run_firstCells_none w size 0 0 0
 | some ad=>exact run_firstCells_some w size 0 ad 0 0 [] (by simp) (fun j v hj=>by cases hj)
theorem jY{t tx ty eT:TypeId}{size:Nat}{x:Value}{news:List Value}{n sLen sCap blk:Nat}{cur:Array Value}{tt:TypeId}{fr:Nat×Nat}(ht:P.underlying t=some (.slice eT))(hsz:(Go.sizeOf eT).run P w=.ok size w)
  (hs:Src P size tx x n news w) (hg:w.heap[blk]?=some (.cells cur tt fr)) (Ls:kU cur fr) (hroom:sLen+n≤sCap) (hle:sLen*size+news.length≤cur.size) :
  (Builtin.append_ #[t,tx] ty #[.slice (some ⟨blk,0,none⟩) sLen sCap,x]).run P w=.ok (.slice (some ⟨blk,0,none⟩) (sLen+n) sCap) (w.setRow blk (splice cur.toList (sLen*size) news).toArray):=by
 have hst:=cv (P:=P) blk (sLen*size) tt fr news 0 cur w hg Ls (by omega) hs.one;simp only[yf] at hst;rcases hs.kind with ⟨e',hk⟩|hk<;>simp[Builtin.append_,run_underlying ht,run_underlying hk,hsz,hs.len,hroom,hs.cells,addr_add,hst]
theorem D9{cs es:List Value}{k o:Nat}(h:o<k)(hk:k≤cs.length):(splice cs k es)[o]?=cs[o]?:=by
 rw[splice,qm,Um (by rw[o6];omega),uo,bG h]
theorem Hr(hc:eW P cx){nb:Nat}{t tx ty:TypeId}{s x:Operand}(h:cF B N γ σ a w)(hd:∀k,d=some k→k<N)(hk0:(∃e',P.underlying tx=some (.slice e'))∨P.underlying tx=some .string)
  (hr:(gJ cx nb d t (cc σ s) (cc σ x) σ).run=some σ'):mV P B N γ σ a w d (Builtin.append_ #[t,tx] ty #[a.eval s,a.eval x]) σ':=by
 have hvs:=h.cc s;have hvx:=h.cc x;unfold gJ at hr;split at hr
 case h_2=>exact absurd hr (by intro k;cases k)
 rename_i _ _ k e hT;obtain⟨eT,f1,f2,f3,f4⟩:=(hc.T _ _ hT).slice;have hsz:=f2.sizeOf w;split at hr
 case h_2=>exact absurd hr (by intro k;cases k)
 rename_i m hm;have hm:uZ e σ (cc σ x)=some m:=hm;obtain⟨news,n1,n2⟩:=ZN h.ok hk0 f1 hvx hm;split at hr
 ·rename_i hs;rw[hs] at hvs;obtain YK:a.eval s=_:=by simpa [b6] using hvs
  obtain⟨hf,hr2⟩:=bY hr;have hf:m.length≤4294967296:=E8 hf;obtain⟨aA,bh,iD⟩:=dI hr2;obtain rfl:=aG iD;rw[YK];rcases YY m.length with h0|h0
  ·obtain rfl:m=[]:=List.length_eq_zero_iff.1 h0;obtain⟨m1,m2⟩:=h.ok.Lv (b:=nb+k) (tid:=0) bh f4;refine⟨_,_,_,pG f1 hsz n1,h.step m2 m1 (hd k rfl) ?_,m2⟩;exact⟨⟨_,rfl,rfl⟩,gC (bq _ _) rfl ⟨e,0,rfl,rfl,.inl ⟨by simp[bB],rfl⟩⟩⟩
  ·obtain⟨cap,cells,g1,g2,g3,g4,g5⟩:=Bi (I:=γ.I) (ty:=ty) (l:=([]:List e.den)) (base:=none) (sCap:=0) (olds:=[]) f1 f2 f3 (by simpa using run_firstCells_none w.drew e.size 0 0 0) (by simp) (fun i x hx=>by cases hx) n1 n2
    (by simpa using h0) (by simpa using hf)
   simp only[vS,uW,Up] at g1 g2 g5;obtain⟨m1,m2⟩:=h.ok.PM (b:=nb+k) (e:=e) (l:=m) (tid:=0) (aA:=aA) (cap:=cap) bh f4 ((va.refl B w).drew.alloc h.ok.base _) (cu w.drew _) (heap_alloc_new w.drew _) (yw _ _) (.inl rfl) g2 g3 g4 g5;refine⟨_,_,_,g1,h.step m2 m1 (hd k rfl) ?_,m2⟩;exact yz (bx:={ val:=.data (.slice e) m,tid:=0,buf:=true,ro:=false,lk:=false,aA }) (e:=e) (n:=m.length) rfl rfl
 ·rename_i b aA hs;rw[hs] at hvs;split at hr
  case h_2=>exact absurd hr (by intro k;cases k)
  rename_i bx l hb hl;obtain⟨gy,hb',bh,bu,mj⟩:∃bx,σ.mem b=some bx∧bx.aA=aA∧bx.buf=true∧bx.val=.data (.slice e) l:=by
   rcases lM hl with q|⟨q,_⟩|⟨b',UC,gy,q,h1,h2,h3,h4⟩|⟨_,_,_,_,_,q,_⟩
   ·cases q
   ·cases q
   ·cases q;exact⟨gy,h1,h2,h3,h4⟩
   ·cases q
  obtain rfl:bx=gy:=aG (hb.symm.trans hb')
  ·obtain⟨hlk,jC⟩:=zv hr;obtain⟨hf,hr2⟩:=bY jC;obtain rfl:=aG hr2;have hf:l.length+m.length≤4294967296:=by
    have:fits (((l.length+m.length:Nat)):Int)=true:=by rw[←hf];simp[plus,len]
    exact E8 this
   have gL:bx.tid=0∨eT=bx.tid:=by
    simp only[CK,Xg] at hlk;have h2:=hlk.2;unfold ad2 at h2;simp only[EK] at h2;rcases h2 with h2|h2
    ·exact .inl (fu h2)
    ·split at h2
     ·rename_i e' he';have:=hc.els _ _ he';rw[f1] at this;have h4:eT=e':=by injection this with this;injection this
      exact .inr (h4.trans (fu h2))
     ·cases h2
   subst bh;obtain⟨e2,n2',g1,g2,g3⟩:=aV hb rfl hvs.2;rw[bE.dh bu mj] at g2;obtain⟨rfl,rfl⟩:=ec (aG g2);have ig:=h.ok.boxes b bx hb;rw[cr,bu] at ig;obtain⟨e3,l3,q1,q2,q3⟩:=ig;rw[mj] at q1;cases q1;have UK:(app (α:=e.den) l m).length=l.length+m.length:=uV;rcases g3 with ⟨g3,g4⟩|⟨blk,cap,g3,g4⟩
   ·obtain YK:a.eval s=_:=by simpa using g4
    have hl0:l=[]:=by
     rcases q3 with ⟨_,q3⟩|⟨blk,cap,cur,tid,fr,q3,_⟩
     ·exact q3
     ·rw[g3] at q3;cases q3
    subst hl0;rw[YK];rcases YY m.length with h0|h0
    ·obtain rfl:m=[]:=List.length_eq_zero_iff.1 h0;have qs:cr (bB γ b none) (cl σ.mem b { bx with val:=.data (.slice e) ([]:List e.den),aA:=bx.aA+1 }) w b { bx with val:=.data (.slice e) ([]:List e.den),aA:=bx.aA+1 }:=by
      unfold cr;simp only[bu];exact⟨e,[],rfl,f4,.inl ⟨by simp[bB],rfl⟩⟩
     have YL:∀cQ,σ.mem b=some cQ→cQ.aA<bx.aA+1:=fun cQ h0=>by rw[hb] at h0;obtain rfl:=aG h0;omega
     have m1:=h.ok.add (L:=none) YL (va.refl B w) (fun _ _=>rfl) (fun blk k e=>by cases e) qs;have m2:=uw (L:=none) h.ok (bx:={ bx with val:=.data (.slice e) ([]:List e.den),aA:=bx.aA+1 }) YL (va.refl B w) (fun _ _=>rfl);refine⟨_,_,_,pG f1 hsz n1,h.step m2 m1 (hd k rfl) ?_,m2⟩;exact⟨⟨_,rfl,rfl⟩,gC (bq _ _) rfl ⟨e,0,bu,bE.dh (bx:={ bx with val:=.data (.slice e) ([]:List e.den),aA:=bx.aA+1 }) bu rfl,.inl ⟨by simp[bB],rfl⟩⟩⟩
    ·obtain⟨cap,cells,j1,j2,j3,j4,j5⟩:=Bi (I:=γ.I) (ty:=ty) (l:=([]:List e.den)) (base:=none) (sCap:=0) (olds:=[]) f1 f2 f3 (by simpa using CP (w:=w.drew) e.size none) (by simp) (fun i x hx=>by cases hx) n1 n2
      (by simpa using h0) (by simpa using hf)
     have YL:∀cQ,σ.mem b=some cQ→cQ.aA<bx.aA+1:=fun cQ h0=>by rw[hb] at h0;obtain rfl:=aG h0;omega
     have hw:va B w (w.drew.alloc (.cells cells eT)):=(va.refl B w).drew.alloc h.ok.base _;have m2:=uw (L:=some (w.heap.size,cap)) h.ok (bx:={ bx with val:=.data (.slice e) (app (α:=e.den) [] m),aA:=bx.aA+1 }) YL hw (cu w.drew _);have qs:cr (bB γ b (some (w.heap.size,cap))) (cl σ.mem b { bx with val:=.data (.slice e) (app (α:=e.den) [] m),aA:=bx.aA+1 }) (w.drew.alloc (.cells cells eT)) b { bx with val:=.data (.slice e) (app (α:=e.den) [] m),aA:=bx.aA+1 }:=by
      unfold cr;simp only[bu];exact⟨e,_,rfl,f4,.inr ⟨w.heap.size,cap,cells,eT,(0,0),by simp[bB],heap_alloc_new w.drew _,yw _ _,gL,by rw[UK];exact j2,j3,j4,fun i x hi=>bt.mono m2.I m2.cells (j5 i x hi)⟩⟩
     have m1:=h.ok.add (L:=some (w.heap.size,cap)) YL hw (cu w.drew _) (fun blk k e=>by obtain⟨rfl,rfl⟩:=ec (aG e);exact⟨mq _,(Array.getElem?_eq_some_iff.1 (heap_alloc_new w.drew _)).1⟩) qs;refine⟨_,_,_,j1,h.step m2 m1 (hd k rfl) ?_,m2⟩;exact yz (bx:={ bx with val:=.data (.slice e) (app (α:=e.den) [] m),aA:=bx.aA+1 }) (e:=e) (n:=List.length (α:=e.den) []+m.length) bu (by rw[←UK];exact bE.dh (bx:={ bx with val:=.data (.slice e) (app (α:=e.den) [] m),aA:=bx.aA+1 }) bu rfl)
   ·obtain YK:a.eval s=_:=by simpa using g4
    rw[YK];rcases q3 with ⟨q3,_⟩|⟨de,cap',cur,tid,fr,q3,q4,q5,afk,q6,q7,q8,q9⟩
    ·rw[g3] at q3;cases q3
    rw[g3] at q3;obtain⟨rfl,rfl⟩:=ec (aG q3);have hcl:cur.toList.length=cap*e.size:=by simpa using q8
    have hlc:l.length*e.size≤cap*e.size:=sS _ q6;rcases yg cap (l.length+m.length) with hgt|hle
    ·have hfc:=run_firstCells_some (P:=P) w.drew e.size l.length ⟨blk,0,none⟩ l.length cap (cur.toList.take (l.length*e.size)) (by rw[o6];omega) (fun j v hj=>by
      rw[addr_add];show w.cell? ⟨blk,0+j,none⟩=some v
      rw[cell_of_heap q4];rw[uo] at hj;split at hj
      ·simpa using hj
      ·cases hj)
     obtain⟨cap2,cells,j1,j2,j3,j4,j5⟩:=Bi (I:=γ.I) (ty:=ty) (l:=l) (base:=some ⟨blk,0,none⟩) (sCap:=cap) f1 f2 f3 hfc (by rw[o6];omega) (eA.front q9 (mq _) (by omega)) n1 n2 hgt hf;have YL:∀cQ,σ.mem b=some cQ→cQ.aA<bx.aA+1:=fun cQ h0=>by rw[hb] at h0;obtain rfl:=aG h0;omega
     have hw:va B w (w.drew.alloc (.cells cells eT)):=(va.refl B w).drew.alloc h.ok.base _;have m2:=uw (L:=some (w.heap.size,cap2)) h.ok (bx:={ bx with val:=.data (.slice e) (app (α:=e.den) l m),aA:=bx.aA+1 }) YL hw (cu w.drew _);have qs:cr (bB γ b (some (w.heap.size,cap2))) (cl σ.mem b { bx with val:=.data (.slice e) (app (α:=e.den) l m),aA:=bx.aA+1 }) (w.drew.alloc (.cells cells eT)) b { bx with val:=.data (.slice e) (app (α:=e.den) l m),aA:=bx.aA+1 }:=by
      unfold cr;simp only[bu];exact⟨e,_,rfl,f4,.inr ⟨w.heap.size,cap2,cells,eT,(0,0),by simp[bB],heap_alloc_new w.drew _,yw _ _,gL,by rw[UK];exact j2,j3,j4,fun i x hi=>bt.mono m2.I m2.cells (j5 i x hi)⟩⟩
     have m1:=h.ok.add (L:=some (w.heap.size,cap2)) YL hw (cu w.drew _) (fun blk k e=>by obtain⟨rfl,rfl⟩:=ec (aG e);exact⟨mq _,(Array.getElem?_eq_some_iff.1 (heap_alloc_new w.drew _)).1⟩) qs;refine⟨_,_,_,j1,h.step m2 m1 (hd k rfl) ?_,m2⟩;exact yz (bx:={ bx with val:=.data (.slice e) (app (α:=e.den) l m),aA:=bx.aA+1 }) (e:=e) (n:=l.length+m.length) bu (by rw[←UK];exact bE.dh (bx:={ bx with val:=.data (.slice e) (app (α:=e.den) l m),aA:=bx.aA+1 }) bu rfl)
    ·have hnl:=n1.newsLen;have hmul:(l.length+m.length)*e.size≤cap*e.size:=sS _ hle;rw[gi] at hmul;have hlen:l.length*e.size+news.length≤cur.toList.length:=by rw[hnl,hcl];exact hmul
     have hrun:=jY (P:=P) (t:=t) (tx:=tx) (ty:=ty) (sCap:=cap) f1 hsz n1 q4 q5.th hle (by simpa using hlen);have ZK:(splice cur.toList (l.length*e.size) news).toArray.size=cur.size:=by have:=bA hlen;simpa using this
     obtain⟨m1,m2⟩:=h.ok.grow hb bu mj g3 q4 q5 afk (cur':=(splice cur.toList (l.length*e.size) news).toArray) (l':=app (α:=e.den) l m) ZK (fun o ho=>by
      have:=D9 (es:=news) ho (by omega:l.length*e.size≤cur.toList.length);simpa using this) f4 (by rw[UK];omega) (by rw[UK];exact hle) q7 q8 (by
      have:=(eA.front q9 (mq _) (by omega:l.length*e.size≤cur.toList.length)).append (rest:=cur.toList.drop (l.length*e.size+news.length)) n2 (by rw[o6];omega) hnl;exact this)
     refine⟨_,_,γ,hrun,h.step m2 m1 (hd k rfl) ?_,m2⟩;exact⟨⟨_,rfl,rfl⟩,gC (bq _ _) rfl ⟨e,l.length+m.length,bu,by rw[←UK];exact bE.dh (bx:={ bx with val:=.data (.slice e) (app (α:=e.den) l m),aA:=bx.aA+1 }) bu rfl,.inr ⟨blk,cap,g3,rfl⟩⟩⟩
 ·exact absurd hr (by intro k;cases k)
end
end Go.Ge
namespace Go.Ge
open RowKit
def gX(w:World)(I:Nat→Nat→Prop):(A:Ty)→A.den→List Value→Prop
 | .pair t r,x,vs=>∃cs rest,vs=bR t cs::rest∧bt w I t x.1 cs∧gX w I r x.2 rest
 | .unit,_,vs=>vs=[]
 | _,_,_=>False
def kV(w:World)(I:Nat→Nat→Prop)(R:Ty)(y:R.den)(v:Value):Prop:=b6 ⟨I,fun _=>none⟩ (fun _=>none) w (uY R y) .val [v]
structure Holds (P:Program) (G:fo) (f:Nat) (c:bO):Prop where
 body:∃fn code,P.funcs[f]?=some fn∧(fn.name == "runtime.NumGoroutine")=false∧fn.body=some code
 calls:∀(I:Nat→Nat→Prop) (w:World) (args:Array Value) (x:c.A.den) (y:c.R.den),(∀b o,I b o→b<w.heap.size)→He G w→gX w I c.A x args.toList→c.spec x=some y →
  Calls P f args w fun e w'=>∃v I',e=.returned v∧Below w.heap.size w w'∧(∀b o,I b o→I' b o)∧(∀b o,I' b o→b<w'.heap.size)∧(∀b o,I' b o→¬I b o→w.heap.size≤b)∧kV w' I' c.R y v
def ow(P:Program)(G:fo)(name:String)(c:bO):Prop :=
 ∀(I:Nat→Nat→Prop) (w:World) (v:Value) (xs:List Value) (x:c.A.den) (y:c.R.den),(∀b o,I b o→b<w.heap.size)→He G w→gX w I c.A x (v::xs)→c.spec x=some y →
  ∃f u,(callMethod v name xs.toArray).run P w=(callFunc f (u::xs).toArray).run P w∧(∃fn code,P.funcs[f]?=some fn∧(fn.name == "runtime.NumGoroutine")=false∧fn.body=some code) ∧
  Calls P f (u::xs).toArray w fun e w'=>∃v I',e=.returned v∧Below w.heap.size w w'∧(∀b o,I b o→I' b o)∧(∀b o,I' b o→b<w'.heap.size)∧(∀b o,I' b o→¬I b o→w.heap.size≤b)∧kV w' I' c.R y v
theorem LH{P:Program}{G:fo}{name:String}{B R:Ty}:ow P G name ⟨.pair .AU B,R,fun _=>none⟩:=fun I w v xs x y _ _ _ h=>by cases h
theorem lP{P:Program}{G:fo}{name:String}{u f:Nat}{a r B R:Ty}{s:a.den×B.den→Option R.den}{t:r.den×B.den→Option R.den}(h:Holds P G f ⟨.pair a B,R,s⟩)
  (hm:∀(v:Value) (w:World),(method (P.types.size+Made.depth) u v name).run P w=.ok (f,v) w) (hk:r.isAgg=false) (hr:ow P G name ⟨.pair r B,R,t⟩) :
  ow P G name ⟨.pair (.alt u a r) B,R,fun x=>pick (fun y=>s (y,x.2)) (fun z=>t (z,x.2)) x.1⟩:=by
 intro I w v xs x y hI hG ha hs;obtain⟨x1,x2⟩:=x;obtain⟨cs,rest,e1,h1,h2⟩:=ha;obtain⟨ev,rfl⟩:=Wo e1;rcases x1 with p|q
 ·obtain⟨h3,c,rfl,h4⟩:=h1;refine⟨f,bR a c,?_,h.body,h.calls I w (bR a c::xs).toArray (p,x2) y hI hG ⟨c,xs,rfl,h4,h2⟩ hs⟩;have he:v=.iface u (bR a c):=by
   rw[ev];show bR r [Value.iface u (bR a c)]=_
   unfold bR;rw[hk];rfl
  rw[he];have hm':=hm (bR a c) w;unfold callMethod;simp only[Sem.run_bind,run_program,Result.andThen_ok,hm'];simp
 ·exact hr I w v xs (q,x2) y hI hG ⟨cs,xs,by rw[ev];rfl,h1,h2⟩ hs
theorem bp.far{B:qq}{γ:Gh}{mem:Nat→Option bE}{w w':World}(h:bp B γ mem w)(hw:Below w.heap.size w w'){I':Nat→Nat→Prop}(hI:∀b o,γ.I b o→I' b o)(ad9:∀b o,I' b o→b<w'.heap.size)
  (hnew:∀b o,I' b o→¬γ.I b o→w.heap.size≤b):bp B ⟨I',γ.loc⟩ mem w'∧Ext B γ mem w ⟨I',γ.loc⟩ mem w':=by
 have hx:Ext B γ mem w ⟨I',γ.loc⟩ mem w' :=
  { below:=.of ⟨hw.os,hw.tape,hw.output,hw.size,fun k hk=>hw.block k (DX hk h.base)⟩
    I:=hI
    pE:=fun b o x=>by
     by_cases hi:γ.I b o
     ·exact .inl hi
     ·exact .inr (.inl (jl h.base (hnew b o x hi)))
    cells:=fun b o hi=>cH (hw.block b (h.tN b o hi))
    boxes:=fun b bx hb=>⟨bx,hb,mq _,fun _=>⟨rfl,rfl,rfl⟩⟩ }
 refine⟨?_,hx⟩;exact
  { aH:=h.EX hx
    base:=jl h.base hw.size
    boxes:=fun b bx hb=>(h.boxes b bx hb).keep hx rfl fun blk k hl=>hw.block blk (h.fresh b blk k (by rw[hb];simp) hl).2
    inj:=h.inj
    fresh:=fun b blk k hb hl=>by have:=h.fresh b blk k hb hl;exact⟨this.1,DX this.2 hw.size⟩
    tN:=ad9
    sep:=fun b bx blk k off hb hl hi=>by
     by_cases hi0:γ.I blk off
     ·exact h.sep b bx blk k off hb hl hi0
     ·have h1:=hnew blk off hi hi0;have h2:=(h.fresh b blk k (by rw[hb];simp) hl).2;omega }
theorem XB{w:World}{γ γ':Gh}{mem mem':Nat→Option bE}(hI:∀b o,γ.I b o→γ'.I b o):∀{R:Ty} {y:R.den} {vs:List Value},b6 γ mem w (A6 R y) .many vs→b6 γ' mem' w (A6 R y) .many vs:=by
 intro R;induction R with
 | pair t r Lf ihr =>
   intro y vs h;obtain⟨v,rest,h0,⟨cs,h1,h2⟩,h3⟩:=h;exact⟨v,rest,h0,⟨cs,bt.mono hI (fun _ _ _=>rfl) h1,h2⟩,ihr h3⟩
 | _=>intro y vs h;exact h
theorem Fa(R:Ty)(y:R.den):(∃t,∃q:R=.pair t .unit,uY R y=.data t (show(Ty.pair t .unit).den from q▸y).1)∨uY R y=.D1 (A6 R y):=by
 cases R with
 | pair t r =>
   cases r with
   | unit=>exact .inl ⟨t,rfl,rfl⟩
   | _=>exact .inr rfl
 | _=>exact .inr rfl
theorem kV.rep{w:World}{I:Nat→Nat→Prop}{R:Ty}{y:R.den}{v:Value}(h:kV w I R y v){γ:Gh}{mem:Nat→Option bE}(hI:∀b o,I b o→γ.I b o):b6 γ mem w (uY R y) .val [v]:=by
 unfold kV at h;rcases Fa R y with ⟨t,q,hq⟩|hq
 ·rw[hq] at h⊢;obtain⟨cs,h1,h2⟩:=h;exact⟨cs,bt.mono hI (fun _ _ _=>rfl) h1,h2⟩
 ·rw[hq] at h⊢;obtain⟨arr,h1,h2⟩:=h;exact⟨arr,h1,XB hI h2⟩
theorem LI{w w':World}{γ γ':Gh}{mem mem':Nat→Option bE}:∀{R:Ty} {y:R.den} {vs:List Value},R.flat=true→b6 γ mem w (A6 R y) .many vs→b6 γ' mem' w' (A6 R y) .many vs:=by
 intro R;induction R with
 | pair t r Lf ihr =>
   intro y vs hf h;simp only[Ty.flat,dW] at hf;obtain⟨v,rest,h0,⟨cs,h1,h2⟩,h3⟩:=h;exact⟨v,rest,h0,⟨cs,bt.flat hf.1 h1,h2⟩,ihr hf.2 h3⟩
 | _=>intro y vs hf h;exact h
theorem kV.flat{w w':World}{I:Nat→Nat→Prop}{R:Ty}{y:R.den}{v:Value}(h:kV w I R y v){γ:Gh}{mem:Nat→Option bE}(hf:R.flat=true):b6 γ mem w' (uY R y) .val [v]:=by
 unfold kV at h;rcases Fa R y with ⟨t,q,hq⟩|hq
 ·rw[hq] at h⊢;subst q;simp only[Ty.flat,dW] at hf;obtain⟨cs,h1,h2⟩:=h;exact⟨cs,bt.flat hf.1 h1,h2⟩
 ·rw[hq] at h⊢;obtain⟨arr,h1,h2⟩:=h;exact⟨arr,h1,LI hf h2⟩
section
variable {P:Program} {B:qq} {N:Nat} {γ:Gh} {σ σ':St} {a:Act} {w w':World} {d:Option Nat} {cx:Ctx}
theorem Be.ahf{I I':Nat→Nat→Prop}{e:Ty}{l:List e.den}{v:Value}(h:Be w I e l v)(hI:∀b o,I b o→I' b o)(hc:∀blk off cap,v=.slice (some ⟨blk,off,none⟩) l.length cap→l≠[]→∀o,I' blk o) :
  bt w I' (.slice e) l [v]:=by
 rcases h with ⟨rfl,base,cap,r1,r2,r3⟩|⟨blk,off,cap,r1,r2,r3,r4⟩
 ·rcases r3 with rfl|⟨blk,off,rfl⟩
  ·exact .inl ⟨⟨base,by rw[r1]⟩,rfl⟩
  ·exact .inr ⟨blk,off,cap,by rw[r1];rfl,w9 _,r2,fun i x hx=>by cases hx⟩
 ·refine .inr ⟨blk,off,cap,by rw[r1],r2,r3,fun i x hx=>?_⟩;obtain⟨es,g1,g2,g3⟩:=r4 i x hx;exact⟨es,g1,fun j c hj=>⟨g2 j c hj,hc blk off cap r1 (fun e=>by rw[e] at hx;cases hx) _⟩,bt.mono hI (fun _ _ _=>rfl) g3⟩
theorem PZ(hm:bp B γ σ.mem w){e:Ty}{v:aO}{l:List e.den}{blk off n cap:Nat}(hv:b6 γ σ.mem w v .val [.slice (some ⟨blk,off,none⟩) n cap])(hl:fS e σ v=some l)(hne:l≠[]) :
  (∃q,v=.data (.slice e) q)∨(B.has blk∧blk<w.heap.size):=by
 rcases lM hl with rfl|⟨rfl,rfl⟩|⟨b,aA,bx,rfl,hb,bh,bu,mj⟩|⟨b,aA,lo,n',bx,rfl,hb,bh,KP⟩
 ·exact .inl ⟨_,rfl⟩
 ·exact absurd rfl hne
 ·obtain⟨e',k,g1,g2,g3⟩:=aV hb bh hv.2;rcases g3 with ⟨g3,g4⟩|⟨de,cap',g3,g4⟩
  ·exfalso;have ig:=hm.boxes b bx hb;rw[cr,bu] at ig;obtain⟨e3,l3,q1,q2,q3⟩:=ig;rw[mj] at q1;cases q1;rcases q3 with ⟨_,q3⟩|⟨_,_,_,_,_,q3,_⟩
   ·exact hne q3
   ·rw[g3] at q3;cases q3
  ·have q1:blk=de:=by
    have:=wZ g4;injection this with q1 _ _
    injection q1 with q1
    injection q1
   subst q1;exact .inr (hm.fresh b blk cap' (by rw[hb];simp) g3)
 ·obtain⟨e',k,g2,g3,g4,g5,base,cap',g6,g7,g8,gF,g9⟩:=aV hb bh hv.2;have g6':=wZ g6;rcases g9 with g9|⟨de,c,g9,g10⟩
  ·exfalso;apply hne;rcases KP with ⟨_,l0,_,rfl⟩|⟨_,k0,l0,_,rfl⟩<;>simp[sub,g9]
  ·injection g6' with q1 _ _
   rw[g10] at q1;injection q1 with q1
   injection q1 with q1 _
   subst q1;exact .inr (hm.fresh b blk c (by rw[hb];simp) g9)
theorem Ea(hm:bp B γ σ.mem w){I':Nat→Nat→Prop}(hI:∀b o,γ.I b o→I' b o)(Uk:∀b o,B.has b→b<w.heap.size→I' b o):∀{v:aO} {t:Ty} {x:t.den} {cs:List Value},
  b6 γ σ.mem w v .cells cs→qo σ t v=some x→bt w I' t x cs:=by
 have sl:∀{v:aO} {e:Ty} {l:List e.den} {cs:List Value},cD v=1→(∀c,b6 γ σ.mem w v .cells [c]→b6 γ σ.mem w v .val [c])→(∀t x,v≠.data t x)→b6 γ σ.mem w v .cells cs→fS e σ v=some l→bt w I' (.slice e) l cs:=by
  intro v e l cs h1 hval hnd hc hl;obtain⟨c,rfl⟩:=IE hc h1;have hv:=hval c hc;refine(qQ hm hv hl).ahf hI fun blk off cap e0 hne o=>?_;subst e0;rcases PZ hm hv hl hne with ⟨q,hq⟩|⟨h2,h3⟩
  ·exact absurd hq (hnd _ _)
  ·exact Uk blk o h2 h3
 intro v;induction v with
 | data u y =>
   intro t x cs hc hl;have key:(∃q:u=t,x=q▸y):=by
    cases t with
    | slice e =>
      rcases lM (show fS e σ (.data u y)=some x from hl) with g|⟨g,_⟩|⟨_,_,_,g,_⟩|⟨_,_,_,_,_,g,_⟩
      ·injection g with g1 g2;subst g1;exact⟨rfl,(eq_of_heq g2).symm⟩
      ·cases g
      ·cases g
      ·cases g
    | _=>exact Ty.jU hl
   obtain⟨q,hq⟩:=key;subst q;subst hq;exact bt.mono hI (fun _ _ _=>rfl) hc
 | mix p q UF Si =>
   intro t x cs hc hl;cases t with
   | pair s r =>
     obtain⟨c1,c2,rfl,h1,h2⟩:=hc;obtain⟨y,z,hp,hq,rfl⟩:=E5 hl;exact⟨c1,c2,rfl,UF h1 hp,Si h2 hq⟩
   | slice e=>exact absurd hl (by intro k;cases k)
   | _=>cases hl
 | nr =>
   intro t x cs hc hl;cases t with
   | slice e=>exact sl (v:=.nr) rfl (fun c k=>k) (fun _ _=>by simp) hc hl
   | _=>cases hl
 | whole b aA =>
   intro t x cs hc hl;cases t with
   | slice e=>exact sl (v:=.whole b aA) rfl (fun c k=>k) (fun _ _=>by simp) hc hl
   | _=>cases hl
 | part b aA lo n =>
   intro t x cs hc hl;cases t with
   | slice e=>exact sl (v:=.part b aA lo n) rfl (fun c k=>k) (fun _ _=>by simp) hc hl
   | _=>cases hl
 | sg =>
   intro t x cs hc hl;obtain rfl:cs=[.nilIface]:=hc;exact(oI hl).1 _ _
 | _ =>
   intro t x cs hc hl;cases t with
   | slice e=>exact absurd hl (by intro k;cases k)
   | _=>cases hl
theorem LJ(hm:bp B γ σ.mem w){I':Nat→Nat→Prop}(hI:∀b o,γ.I b o→I' b o)(Uk:∀b o,B.has b→b<w.heap.size→I' b o){v:aO}{t:Ty}{x:t.den}{val:Value}
  (hv:b6 γ σ.mem w v .val [val]) (hl:qo σ t v=some x):∃cs,bt w I' t x cs∧val=bR t cs:=by
 have one:∀{v:aO},b6 γ σ.mem w v .cells [val]→(∃e,t=.slice e)→qo σ t v=some x→∃cs,bt w I' t x cs∧val=bR t cs:=by
  intro v hc he hl;obtain⟨e,rfl⟩:=he;exact⟨[val],Ea hm hI Uk hc hl,rfl⟩
 cases v with
 | data u y =>
   obtain⟨cs,h1,h2⟩:=dA.1 hv;have hc:=Ea hm hI Uk (v:=.data u y) (cs:=cs) h1 hl;refine⟨cs,hc,?_⟩;rw[h2];have:u.isAgg=t.isAgg:=by
    cases t with
    | slice e =>
      rcases lM (show fS e σ (.data u y)=some x from hl) with g|⟨g,_⟩|⟨_,_,_,g,_⟩|⟨_,_,_,_,_,g,_⟩
      ·injection g with g1 g2;rw[g1]
      ·cases g
      ·cases g
      ·cases g
    | _=>obtain⟨q,_⟩:=Ty.jU hl;rw[q]
   unfold bR;rw[this]
 | mix p q =>
   obtain⟨c1,c2,e1,h1,h2⟩:=hv;obtain rfl:val=_:=by simpa using e1
   have hc:=Ea hm hI Uk (v:=.mix p q) (cs:=c1++c2) ⟨c1,c2,rfl,h1,h2⟩ hl;refine⟨_,hc,?_⟩;cases t with
   | pair s r=>rfl
   | slice e=>exact absurd hl (by intro k;cases k)
   | _=>cases hl
 | nr=>cases t with
   | slice e=>exact one hv ⟨e,rfl⟩ hl
   | _=>cases hl
 | whole b aA=>cases t with
   | slice e=>exact one hv ⟨e,rfl⟩ hl
   | _=>cases hl
 | part b aA lo n=>cases t with
   | slice e=>exact one hv ⟨e,rfl⟩ hl
   | _=>cases hl
 | sg =>
   have hv:[val]=[Value.nilIface]:=hv;obtain rfl:val=.nilIface:=by simpa using hv
   exact⟨[.nilIface],(oI hl).1 _ _,(oI hl).2.2.1.symm⟩
 | _=>cases t with
   | slice e=>exact absurd hl (by intro k;cases k)
   | _=>cases hl
def kW(γ:Gh)(mem:Nat→Option bE)(w:World)(vs:List aO)(xs:List Value):Prop:=xs.length=vs.length∧∀(i:Nat) v x,vs[i]?=some v→xs[i]?=some x→b6 γ mem w v .val [x]
theorem kW.cons{mem:Nat→Option bE}{v:aO}{vs:List aO}{xs:List Value}(h:kW γ mem w (v::vs) xs):∃x r,xs=x::r∧b6 γ mem w v .val [x]∧kW γ mem w vs r:=by
 cases xs with
 | nil=>cases h.1
 | cons x r=>exact⟨x,r,rfl,h.2 0 v x rfl rfl,by simpa using h.1,fun i v' x' h1 h2=>h.2 (i+1) v' x' h1 h2⟩
theorem kW.ext{mem mem':Nat→Option bE}{γ':Gh}{vs:List aO}{xs:List Value}(h:kW γ mem w vs xs)(hx:Ext B γ mem w γ' mem' w'):kW γ' mem' w' vs xs:=⟨h.1,fun i v x h1 h2=>(h.2 i v x h1 h2).ext hx⟩
theorem NL(hm:bp B γ σ.mem w){I':Nat→Nat→Prop}(hI:∀b o,γ.I b o→I' b o)(Uk:∀b o,B.has b→b<w.heap.size→I' b o):∀{A:Ty} {x:A.den} {vs:List aO} {xs:List Value},
  kW γ σ.mem w vs xs→gT σ A vs=some x→gX w I' A x xs:=by
 intro A;induction A with
 | pair t r Lf ihr =>
   intro x vs xs h hl;cases vs with
   | nil=>cases hl
   | cons v vs =>
     obtain⟨y,rest,rfl,h1,h2⟩:=h.cons;simp only[gT] at hl;split at hl
     ·rename_i p q hp hq;obtain rfl:=aG hl;obtain⟨cs,c1,c2⟩:=LJ hm hI Uk h1 hp;exact⟨cs,rest,by rw[c2],c1,ihr h2 hq⟩
     ·cases hl
 | unit =>
   intro x vs xs h hl;cases vs with
   | nil=>exact List.length_eq_zero_iff.1 h.1
   | cons v vs=>cases hl
 | _=>intro x vs xs h hl;cases vs<;>cases hl
theorem gX.mono{I I':Nat→Nat→Prop}(hI:∀b o,I b o→I' b o)(hw:∀b o,I b o→w'.cell? ⟨b,o,none⟩=w.cell? ⟨b,o,none⟩):∀{A:Ty} {x:A.den} {xs:List Value},gX w I A x xs→gX w' I' A x xs:=by
 intro A;induction A with
 | pair t r Lf ihr=>intro x xs h;obtain⟨cs,rest,h0,h1,h2⟩:=h;exact⟨cs,rest,h0,bt.mono hI hw h1,ihr h2⟩
 | _=>intro x xs h;exact h
theorem rE:∀{A:Ty} {x:A.den} {vs:List aO} {xs:List Value} {σ σ':St} {γ:Gh},cF B N γ σ a w→kW γ σ.mem w vs xs→jW σ A vs=some (x,σ') →
  ∃γ',cF B N γ' σ' a w∧Ext B γ σ.mem w γ' σ'.mem w∧gX w γ'.I A x xs:=by
 intro A;induction A with
 | pair t r Lf ihr =>
   intro x vs xs σ σ' γ h hv hl;cases vs with
   | nil=>cases hl
   | cons v vs =>
     obtain⟨y,rest,rfl,h1,h2⟩:=hv.cons;simp only[jW] at hl;split at hl
     ·rename_i p σ1 hp;split at hl
      ·rename_i q σ2 hq;obtain⟨rfl,rfl⟩:=ec (aG hl);obtain⟨ij,s1,s2,cs,c1,c2⟩:=lN h h1 hp;obtain c2:y=_:=by simpa using c2
       obtain⟨Hi,t1,t2,t3⟩:=ihr s1 (h2.ext s2) hq;exact⟨Hi,t1,s2.trans t2,cs,rest,by rw[c2],bt.mono t2.I t2.cells c1,t3⟩
      ·cases hl
     ·cases hl
 | unit =>
   intro x vs xs σ σ' γ h hv hl;cases vs with
   | nil=>obtain⟨rfl,rfl⟩:=ec (aG hl);exact⟨γ,h,Ext.refl _ _ _ _,List.length_eq_zero_iff.1 hv.1⟩
   | cons v vs=>cases hl
 | _=>intro x vs xs σ σ' γ h hv hl;cases vs<;>cases hl
def ZO(w:World)(I:Nat→Nat→Prop)(t:Ty)(x:t.den)(blk:Nat):Prop:=∃cur tid fr,w.heap[blk]?=some (.cells cur tid fr)∧kU cur fr∧bt w I t x cur.toList
def xq(w:World)(I:Nat→Nat→Prop):(U:Ty)→U.den→List Nat→Prop
 | .pair t U,u,bs=>∃blk r,bs=blk::r∧ZO w I t u.1 blk∧xq w I U u.2 r
 | .unit,_,bs=>bs=[]
 | _,_,_=>False
def Sn(w:World)(I:Nat→Nat→Prop):List Bool→(A U:Ty)→A.den→List Value→List Nat→Prop
 | [],A,U,_,vs,bs=>A=.unit∧U=.unit∧vs=[]∧bs=[]
 | false::ps,A,U,x,vs,bs=>match A,x with
   | .pair t A,x=>∃cs rest,vs=bR t cs::rest∧bt w I t x.1 cs∧Sn w I ps A U x.2 rest bs
   | _,_=>False
 | true::ps,A,U,x,vs,bs=>match U with
   | .pair _ U=>∃blk rest r,vs=.pointer (some ⟨blk,0,none⟩)::rest∧bs=blk::r∧Sn w I ps A U x rest r
   | _=>False
structure iq (P:Program) (G:fo) (f:Nat) (c:ur):Prop where
 body:∃fn code,P.funcs[f]?=some fn∧(fn.name == "runtime.NumGoroutine")=false∧fn.body=some code
 calls:∀(I:Nat→Nat→Prop) (w:World) (args:Array Value) (bs:List Nat) (x:c.A.den) (u:c.U.den) (y:c.R.den×c.U.den),(∀b o,I b o→b<w.heap.size)→He G w→(∀b Q,G b Q→b∉bs)→Sn w I c.ps c.A c.U x args.toList bs→xq w I c.U u bs→bs.Nodup →
  (∀blk∈bs,∀o,¬I blk o)→c.spec (x,u)=some y →
  Calls P f args w fun e w'=>∃v I',e=.returned v∧va ⟨w.heap.size,(·∈bs),G⟩ w w'∧(∀b o,I b o→I' b o)∧(∀b o,I' b o→b<w'.heap.size)∧(∀b o,I' b o→¬I b o→w.heap.size≤b)∧kV w' I' c.R y.1 v∧xq w' I' c.U y.2 bs
structure vT (og:Option Nat) (w w':World):Prop where
 os:w'.os=w.os
 tape:w'.tape=w.tape
 output:w'.output=w.output
 size:w.heap.size≤w'.heap.size
 block:∀k,k<w.heap.size→og≠some k→w'.heap[k]?=w.heap[k]?
 cell:∀k o,k<w.heap.size→w'.cell? ⟨k,o,none⟩=w.cell? ⟨k,o,none⟩
def wg(w:World)(I:Nat→Nat→Prop)(e:Ty)(l:List e.den)(L:Option (Nat×Nat))(v:Value):Prop :=
 (L=none∧l=[]∧v=.slice none 0 0)∨∃blk cap cur tid fr,L=some (blk,cap)∧v=.slice (some ⟨blk,0,none⟩) l.length cap∧w.heap[blk]?=some (.cells cur tid fr)∧ThB e cur fr ∧
  l.length≤cap∧cap≤maxLen∧cur.size=cap*e.size∧(∀o,¬I blk o)∧∀(i:Nat) (x:e.den),l[i]?=some x→bt w I e x ((cur.toList.drop (i*e.size)).take e.size)
structure jZ (w:World) (I:Nat→Nat→Prop) (X:Nat→Prop) (w':World) (I':Nat→Nat→Prop):Prop where
 below:va ⟨w.heap.size,X,v7⟩ w w'
 held:∀b o,I b o→I' b o
 tN:∀b o,I' b o→b<w'.heap.size
 pE:∀b o,I' b o→¬I b o→w.heap.size≤b
def gz(P:Program)(f:Nat):Xj→Prop
 | .Zt T=>(∃fn code,P.funcs[f]?=some fn∧(fn.name == "runtime.NumGoroutine")=false∧fn.body=some code) ∧
  ∀(w:World) (b:Nat) (p v:Value) (fr:Nat×Nat),w.heap[b]?=some (.cells #[p,v] T fr)→¬(fr.1≤0∧0<fr.2)→(p=.pointer none∨p=.pointer (some ⟨b,0,none⟩)) →
   Calls P f #[.pointer (some ⟨b,0,none⟩)] w fun e w'=>e=.returned (.tuple #[])∧(w'=w∨w'=w.setRow b #[.pointer (some ⟨b,0,none⟩),v])
 | .str T E=>(∃fn code,P.funcs[f]?=some fn∧(fn.name == "runtime.NumGoroutine")=false∧fn.body=some code) ∧
  ∀(w:World) (b:Nat) (p v:Value) (fr:Nat×Nat) (l:List UInt8) (og:Option Nat),w.heap[b]?=some (.cells #[p,v] T fr) →
   ((og=none∧v=.slice none 0 0∧l=[])∨∃(g cap:Nat) (cur:Array Value) (fr':Nat×Nat),og=some g∧v=.slice (some ⟨g,0,none⟩) l.length cap∧w.heap[g]?=some (.cells cur E fr')∧l.length≤cap∧cap≤maxLen∧cur.size=cap∧∀(j:Nat) (x:UInt8),l[j]?=some x→cur[j]?=some (Value.int .u8 x.toNat)) →
   Calls P f #[.pointer (some ⟨b,0,none⟩)] w fun e w'=>e=.returned (.string ⟨l.toArray⟩)∧vT og w w'
 | .clone e=>(∃fn code,P.funcs[f]?=some fn∧(fn.name == "runtime.NumGoroutine")=false∧fn.body=some code) ∧
  ∀(I:Nat→Nat→Prop) (w:World) (args:Array Value) (l:List e.den),(∀b o,I b o→b<w.heap.size)→gX w I (.pair (.slice e) .unit) (l,()) args.toList→fits (len l)=true →
   Calls P f args w fun q w'=>∃v I' L,q=.returned v∧jZ w I (fun _=>False) w' I'∧wg w' I' e l L v∧∀blk c,L=some (blk,c)→w.heap.size≤blk
 | .own e A res spec=>(∃fn code,P.funcs[f]?=some fn∧(fn.name == "runtime.NumGoroutine")=false∧fn.body=some code) ∧
  ∀(I:Nat→Nat→Prop) (w:World) (args:Array Value) (v:Value) (rest:List Value) (l l':List e.den) (L:Option (Nat×Nat)) (x:A.den),(∀b o,I b o→b<w.heap.size)→args.toList=v::rest→wg w I e l L v→gX w I A x rest→spec l x=some l' →
   Calls P f args w fun q w'=>∃I',jZ w I (fun k=>∃c,L=some (k,c)) w' I' ∧
    match res with
    | true=>∃v' L',q=.returned v'∧wg w' I' e l' L' v'∧∀blk c,L'=some (blk,c)→(∃c,L=some (blk,c))∨w.heap.size≤blk
    | false=>q=.returned (.tuple #[])∧l'.length=l.length∧wg w' I' e l' L v
structure oJ (P:Program) (G:fo) (cx:Ctx):Prop where
 bF:∀f c,find cx.bF f=some c→Holds P G f c
 aJ:∀f c,find cx.aJ f=some c→iq P G f c
 Rz:∀f s,find cx.Rz f=some s→gz P f s
 inv:∀name c,RW cx.inv name=some c→ow P G name c
def Refs(γ:Gh)(mem:Nat→Option bE):(U:Ty)→U.den→List Nat→List Nat→Prop
 | .pair t U,u,ns,bs=>∃b r blk q bx k,ns=b::r∧bs=blk::q∧b∉r∧mem b=some bx∧bx.buf=false∧bx.lk=false∧(bx.ro=false∧bx.tid=0)∧bx.val=.data t u.1∧γ.loc b=some (blk,k)∧Refs γ mem U u.2 r q
 | .unit,_,ns,bs=>ns=[]∧bs=[]
 | _,_,_,_=>False
theorem Sp{l:List Nat}{t:Nat}:cC l t=true↔t∈l:=by
 induction l with
 | nil=>simp[cC]
 | cons i r ih =>
   simp only[cC,EK,OX,ih];constructor
   ·rintro(h|h)
    ·exact .inl (fu h)
    ·exact .inr h
   ·rintro(h|h)
    ·subst h;exact .inl (by simp)
    ·exact .inr h
theorem Refs.LK{mem:Nat→Option bE}:∀{U:Ty} {u:U.den} {ns bs:List Nat},Refs γ mem U u ns bs→∀blk∈bs,∃b bx k,b∈ns∧mem b=some bx∧bx.ro=false∧γ.loc b=some (blk,k):=by
 intro U;induction U with
 | pair t U Lf UL =>
   intro u ns bs h blk hb;obtain⟨b,r,de,q,bx,k,rfl,rfl,h1,h2,h3,h4,h5,h6,h7,h8⟩:=h;rcases List.mem_cons.1 hb with rfl|hb
   ·exact⟨b,bx,k,sU ..,h2,h5.1,h7⟩
   ·obtain⟨b',gy,k',g1,g2⟩:=UL h8 blk hb;exact⟨b',gy,k',vR _ g1,g2⟩
 | unit=>intro u ns bs h blk hb;rw[h.2] at hb;cases hb
 | _=>intro u ns bs h;exact h.elim
theorem Refs.nodup{mem:Nat→Option bE}(hm:bp B γ mem w):∀{U:Ty} {u:U.den} {ns bs:List Nat},Refs γ mem U u ns bs→bs.Nodup:=by
 intro U;induction U with
 | pair t U Lf UL =>
   intro u ns bs h;obtain⟨b,r,blk,q,bx,k,rfl,rfl,h1,h2,h3,h4,h5,h6,h7,h8⟩:=h;rw[List.nodup_cons];refine⟨fun hq=>?_,UL h8⟩;obtain⟨b',gy,k',g1,g2,g3,g4⟩:=h8.LK blk hq;have:=hm.inj b b' blk k k' (by rw[h2];simp) (by rw[g2];simp) h7 g4;subst this;exact h1 g1
 | unit=>intro u ns bs h;rw[h.2];exact List.nodup_nil
 | _=>intro u ns bs h;exact h.elim
theorem Refs.val{mem:Nat→Option bE}{w':World}{I':Nat→Nat→Prop}:∀{U:Ty} {u y:U.den} {ns bs:List Nat},Refs γ mem U u ns bs→xq w' I' U y bs→∀{c:Nat} {v:aO},o8 U y ns c=some v →
  ∃(t:Ty) (x z:t.den) (bx:bE) (blk k:Nat),mem c=some bx∧bx.buf=false∧bx.lk=false∧(bx.ro=false∧bx.tid=0)∧bx.val=.data t x∧v=.data t z∧γ.loc c=some (blk,k)∧blk∈bs∧ZO w' I' t z blk:=by
 intro U;induction U with
 | pair t U Lf UL =>
   intro u y ns bs h ha c v hv;obtain⟨b,r,blk,q,bx,k,rfl,rfl,h1,h2,h3,h4,h5,h6,h7,h8⟩:=h;obtain⟨de,q',e1,a1,a2⟩:=ha;obtain⟨rfl,rfl⟩:=Wo e1;simp only[o8] at hv;cases hb:Nat.beq c b with
   | true =>
     rw[hb] at hv;obtain rfl:=fu hb;exact⟨t,u.1,y.1,bx,blk,k,h2,h3,h4,h5,h6,(aG hv).symm,h7,sU ..,a1⟩
   | false =>
     rw[hb] at hv;obtain⟨t',x',z',gy,de,k',g1,g2,g3,g4,g5,g6,g7,g8,g9⟩:=UL h8 a2 hv;exact⟨t',x',z',gy,de,k',g1,g2,g3,g4,g5,g6,g7,vR _ g8,g9⟩
 | unit=>intro u y ns bs h ha c v hv;cases hv
 | _=>intro u y ns bs h;exact h.elim
theorem Refs.ZP{mem:Nat→Option bE}:∀{U:Ty} {u y:U.den} {ns bs:List Nat},Refs γ mem U u ns bs→∀blk∈bs,∃b v bx k,o8 U y ns b=some v∧mem b=some bx∧bx.ro=false∧γ.loc b=some (blk,k):=by
 intro U;induction U with
 | pair t U Lf UL =>
   intro u y ns bs h blk hb;obtain⟨b,r,de,q,bx,k,rfl,rfl,h1,h2,h3,h4,h5,h6,h7,h8⟩:=h;rcases List.mem_cons.1 hb with rfl|hb
   ·exact⟨b,.data t y.1,bx,k,by simp[o8],h2,h5.1,h7⟩
   ·obtain⟨b',v',gy,k',g1,g2⟩:=UL (y:=y.2) h8 blk hb;refine⟨b',?_⟩;simp only[o8];cases hq:Nat.beq b' b with
    | true =>
      obtain rfl:=fu hq;exact⟨.data t y.1,gy,k',rfl,g2⟩
    | false=>exact⟨v',gy,k',g1,g2⟩
 | unit=>intro u y ns bs h blk hb;rw[h.2] at hb;cases hb
 | _=>intro u y ns bs h;exact h.elim
theorem sr{U:Ty}{y:U.den}{ns:List Nat}{σ:St}{c:Nat}:(uu U y ns σ).mem c=match o8 U y ns c with|some v=>(match σ.mem c with|some bx=>some { bx with val:=v }|none=>none)|none=>σ.mem c:=rfl
theorem bp.refs(h:bp B γ σ.mem w){U:Ty}{u y:U.den}{ns bs:List Nat}(hr:Refs γ σ.mem U u ns bs){G:fo}(hw:va ⟨w.heap.size,(·∈bs),G⟩ w w'){I':Nat→Nat→Prop}(hI:∀b o,γ.I b o→I' b o)(ad9:∀b o,I' b o→b<w'.heap.size)
  (hnew:∀b o,I' b o→¬γ.I b o→w.heap.size≤b) (ha:xq w' I' U y bs) :
  bp B ⟨I',γ.loc⟩ (uu U y ns σ).mem w'∧Ext B γ σ.mem w ⟨I',γ.loc⟩ (uu U y ns σ).mem w':=by
 have hsame:∀k,k<w.heap.size→k∉bs→w'.heap[k]?=w.heap[k]?:=fun k hk hb=>hw.block k fun q=>by
  rcases q with q|q
  ·have:w.heap.size≤k:=q;omega
  ·exact hb q
 have hown:∀blk∈bs,B.has blk∧blk<w.heap.size:=fun blk hb=>by
  obtain⟨b,bx,k,g1,g2,g3,g4⟩:=hr.LK blk hb;exact h.fresh b blk k (by rw[g2];simp) g4
 have hfree:∀blk∈bs,∀o,¬γ.I blk o:=fun blk hb o hi=>by
  obtain⟨b,bx,k,g1,g2,g3,g4⟩:=hr.LK blk hb;have:=(h.sep b bx blk k o g2 g4 hi).1;rw[g3] at this;cases this
 have aea:∀k,¬B.has k→k<w.heap.size:=fun k hk=>Wk fun q=>hk (.inl (jl h.base q));have hne:∀c,(uu U y ns σ).mem c≠none→σ.mem c≠none:=by
  intro c hc hq;apply hc;rw[sr,hq];split<;>rfl
 have hx:Ext B γ σ.mem w ⟨I',γ.loc⟩ (uu U y ns σ).mem w' :=
  { below:=⟨hw.os,hw.tape,hw.output,hw.size,fun k hk=>hsame k (aea k hk) fun hb=>hk (hown k hb).1⟩
    I:=hI
    pE:=fun b o x=>by
     by_cases hi:γ.I b o
     ·exact .inl hi
     ·exact .inr (.inl (jl h.base (hnew b o x hi)))
    cells:=fun b o hi=>cH (hsame b (h.tN b o hi) fun hb=>hfree b hb o hi)
    boxes:=fun c cx hc=>by
     rw[sr,hc];cases hv:o8 U y ns c with
     | none=>exact⟨cx,rfl,mq _,fun _=>⟨rfl,rfl,rfl⟩⟩
     | some v =>
       obtain⟨t,x,z,bx,blk,k,g1,g2,g3,g4,g5,g6,g7,g8,g9⟩:=hr.val ha hv;rw[hc] at g1;obtain rfl:=aG g1;refine⟨_,rfl,mq _,fun _=>⟨rfl,rfl,?_⟩⟩;subst g6;unfold bE.row;simp only[g2,g5];cases t<;>rfl }
 refine⟨?_,hx⟩;exact
  { aH:=h.EX hx
    base:=jl h.base hw.size
    boxes:=fun c cx hc=>by
     rw[sr] at hc;cases hv:o8 U y ns c with
     | none =>
       rw[hv] at hc;replace hc:σ.mem c=some cx:=hc;refine(h.boxes c cx hc).keep hx rfl fun blk k hl=>?_;refine hsame blk (h.fresh c blk k (by rw[hc];simp) hl).2 fun hb=>?_;obtain⟨b,v,bx,k',g1,g2,g3,g4⟩:=hr.ZP (y:=y) blk hb;have:=h.inj c b blk k k' (by rw[hc];simp) (by rw[g2];simp) hl g4;subst this;rw[hv] at g1;cases g1
     | some v =>
       obtain⟨t,x,z,bx,blk,k,g1,g2,g3,g4,g5,g6,g7,g8,g9⟩:=hr.val ha hv;rw[hv,g1] at hc;obtain rfl:=aG hc;obtain⟨cur,tid,fr,j1,j2,j3⟩:=g9;unfold cr;simp only[g2];subst g6;exact⟨blk,k,cur,tid,fr,g7,j1,j2,.inl g4.2,j3⟩
    inj:=fun c d blk k k' hc hd=>h.inj c d blk k k' (hne c hc) (hne d hd)
    fresh:=fun c blk k hc hl=>by have:=h.fresh c blk k (hne c hc) hl;exact⟨this.1,DX this.2 hw.size⟩
    tN:=ad9
    sep:=fun c cx blk k off hc hl hi=>by
     obtain⟨UM,hc0,hro,hrow,bu⟩:∃UM,σ.mem c=some UM∧cx.ro=UM.ro∧cx.row=UM.row∧cx.buf=UM.buf:=by
      have hc1:=hc;rw[sr] at hc;cases hv:o8 U y ns c with
      | none=>rw[hv] at hc;exact⟨cx,hc,rfl,rfl,rfl⟩
      | some v =>
        obtain⟨t,x,z,bx,de,k',g1,g2,g3,g4,g5,g6,g7,g8,g9⟩:=hr.val ha hv;rw[hv,g1] at hc;obtain rfl:=aG hc;refine⟨bx,g1,rfl,?_,rfl⟩;subst g6;unfold bE.row;simp only[g2,g5];cases t<;>rfl
     by_cases hi0:γ.I blk off
     ·have:=h.sep c UM blk k off hc0 hl hi0;exact⟨by rw[hro];exact this.1,fun hb e n hr'=>this.2 (by rw[←bu];exact hb) e n (by rw[←hrow];exact hr')⟩
     ·have h1:=hnew blk off hi hi0;have h2:=(h.fresh c blk k (by rw[hc0];simp) hl).2;omega }
theorem XC{mem:Nat→Option bE}{t:Ty}{v:aO}{x:t.den}{val:Value}(hv:b6 γ mem w v .val [val])(h:toD t v=some x):∃cs,bt w γ.I t x cs∧val=bR t cs:=by
 unfold toD at h;split at h
 ·rename_i u y;obtain⟨q,hq⟩:=Ty.jU h;subst q;subst hq;exact dA.1 hv
 ·split at h
  ·rename_i e;obtain rfl:=aG h;obtain rfl:val=_:=by simpa [b6] using hv
   exact⟨[.slice none 0 0],.inl ⟨⟨none,rfl⟩,rfl⟩,rfl⟩
  ·cases h
 ·cases h
theorem Sq{t:Ty}{v:aO}{x:t.den}(h:toS t v=some x):v=.data t x:=by
 unfold toS at h;split at h
 ·obtain⟨q,hq⟩:=Ty.jU h;subst q;subst hq;rfl
 ·cases h
theorem NM(hm:bp B γ σ.mem w):∀{ps:List Bool} {A U:Ty} {vs:List aO} {xs:List Value} {x:A.den} {u:U.den} {ns:List Nat},kW γ σ.mem w vs xs→rz σ ps A U vs=some (x,u,ns) →
  ∃bs,Sn w γ.I ps A U x xs bs∧Refs γ σ.mem U u ns bs∧xq w γ.I U u bs:=by
 intro ps;induction ps with
 | nil =>
   intro A U vs xs x u ns hv h;cases A<;>first|(cases h;done)|skip
   cases U<;>first|(cases h;done)|skip
   cases vs with
   | cons v r=>cases h
   | nil =>
     obtain⟨rfl,q⟩:=ec (aG h);obtain⟨rfl,rfl⟩:=ec q;have hx:xs=[]:=by have:=hv.1;simpa using this
     exact⟨[],⟨rfl,rfl,hx,rfl⟩,⟨rfl,rfl⟩,rfl⟩
 | cons p ps ih =>
   intro A U vs xs x u ns hv h;cases p with
   | false =>
     cases A<;>first|(cases h;done)|skip
     rename_i t A;cases vs with
     | nil=>cases h
     | cons v r =>
       simp only[rz] at h;split at h
       ·rename_i x1 y1 u1 ns1 h1 h2;obtain⟨rfl,q⟩:=ec (aG h);obtain⟨rfl,rfl⟩:=ec q;obtain⟨val,rest,rfl,g1,g2⟩:=hv.cons;obtain⟨bs,k1,k2,k3⟩:=ih g2 h2;obtain⟨cs,c1,c2⟩:=XC g1 h1;exact⟨bs,⟨cs,rest,by rw[c2],c1,k1⟩,k2,k3⟩
       ·cases h
   | true =>
     cases U<;>first|(cases h;done)|skip
     rename_i t U;cases vs with
     | nil=>cases h
     | cons v0 r =>
     cases v0<;>first|(cases h;done)|skip
     rename_i b aA pth;cases pth with
     | cons _ _=>cases h
     | nil =>
     simp only[rz] at h;split at h
     case h_2=>cases h
     rename_i bx hb;cases hcd:(Nat.beq bx.aA aA&&!bx.buf&&!bx.lk&&!bx.ro&&Nat.beq bx.tid 0) with
     | false=>rw[hcd] at h;cases h
     | true =>
       rw[hcd] at h;simp only[dW,nj] at hcd;obtain⟨⟨⟨⟨bh,bu⟩,hlk⟩,hro⟩,ht0⟩:=hcd;have ht0:=fu ht0;have bh:=fu bh;simp only[fy] at h;split at h
       case h_2=>cases h
       rename_i x1 y1 u1 ns1 h1 h2;cases hmn:cC ns1 b with
       | true=>rw[hmn] at h;cases h
       | false =>
         rw[hmn] at h;obtain⟨rfl,q⟩:=ec (aG h);obtain⟨rfl,rfl⟩:=ec q;obtain⟨val,rest,rfl,g1,g2⟩:=hv.cons;obtain⟨bs,k1,k2,k3⟩:=ih g2 h2;obtain⟨blk,k,j1,j2⟩:=aV hb bh g1.2;have j2:=wZ j2;simp only[ck] at j2;have hval:=Sq h1;have ig:=hm.boxes b bx hb;unfold cr at ig;rw[bu] at ig;obtain⟨de,cap,cur,tid,fr,a1,a2,a3,gL,a4⟩:=ig;rw[j1] at a1;obtain⟨rfl,rfl⟩:=ec (aG a1);rw[hval] at a4;have aeb:b∉ns1:=fun hq=>by rw[Sp.2 hq] at hmn;cases hmn
         exact⟨blk::bs,⟨blk,rest,bs,by rw[j2],rfl,k1⟩,⟨b,ns1,blk,bs,bx,k,rfl,rfl,aeb,hb,bu,hlk,⟨hro,ht0⟩,hval,j1,k2⟩,blk,bs,rfl,⟨cur,tid,fr,a2,a3,a4⟩,k3⟩
end
end Go.Ge
