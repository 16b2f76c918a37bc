/- A ghost interpreter of the model's code, and that it tells the truth: part 4. It says of a function of plain data what a call of it comes to. -/
import Derived.Test.YtpipdmfkbnbchaaGreatDoorGeC
import Derived.Great.BuildSlice
import Derived.Laws.IdiomStrings
import Derived.Laws.BytesArg
import Derived.Laws.MakeOwn
import Derived.Deep.AppendSrc
namespace Go.Ge
set_option linter.unusedVariables false
set_option linter.unusedSimpArgs false
open RowKit
def Rg(γ:Gh)(blk:Nat):Gh:={ γ with I:=fun b o=>γ.I b o∨b=blk }
theorem bE.Z2{B:qz}{γ:Gh}{mem:Nat→Option bU}{w:World}(h:bE B γ mem w)(cs:Array Value)(t':TypeId) :
  bE B (Rg γ w.heap.size) mem (w.alloc (.cells cs t'))∧Ext B γ mem w (Rg γ w.heap.size) mem (w.alloc (.cells cs t')):=by
 have hx:Ext B γ mem w (Rg γ w.heap.size) mem (w.alloc (.cells cs t')) :=
  { below:=(tZ.refl _ _).alloc h.base _
    I:=fun _ _ x=>.inl x
    pO:=fun blk o x=>by
     rcases x with x|x
     ·exact .inl x
     ·exact .inr (.inl (by rw[x];exact h.base))
    cells:=fun blk o x=>cR (cK w _ blk (h.sU blk o x))
    boxes:=fun b bx hb=>⟨bx,hb,Nat.le_refl _,fun _=>⟨rfl,rfl,rfl⟩⟩ }
 refine⟨?_,hx⟩
 have hsz:(w.alloc (.cells cs t')).heap.size=w.heap.size+1:=by simp
 exact
  { bg:=h.C8 hx
    base:=by rw[hsz];exact Nat.le_succ_of_le h.base
    boxes:=fun b bx hb=>(h.boxes b bx hb).keep hx rfl fun blk k hl=>cK w _ blk (h.fresh b blk k (by rw[hb];simp) hl).2
    inj:=h.inj
    fresh:=fun b blk k hb hl=>by have:=h.fresh b blk k hb hl;exact⟨this.1,by rw[hsz];omega⟩
    sU:=fun blk off hi=>by
     rw[hsz]
     rcases hi with hi|hi
     ·have:=h.sU blk off hi;omega
     ·omega
    sep:=fun b bx blk k off hb hl hi=>by
     rcases hi with hi|hi
     ·exact h.sep b bx blk k off hb hl hi
     ·have:=(h.fresh b blk k (by rw[hb];simp) hl).2;omega }
theorem Ib(off:Nat):∀(l:List Value) (k:Nat) (cells:Array Value),off+k+l.length≤cells.size →
  (l.zipIdx k).foldl (fun cs (x:Value×Nat)=>cs.setIfInBounds (off+x.2) x.1) cells=(splice cells.toList (off+k) l).toArray
 | [],k,cells,h=>by simp[splice]
 | v::r,k,cells,h=>by
   simp only[List.zipIdx_cons,List.foldl_cons]
   rw[Ib off r (k+1) _ (by simp at h⊢;omega)]
   have e:=list_seg_step cells.toList (off+k) v r (by simp at h⊢;omega)
   congr 1
   simpa [splice,Array.toList_setIfInBounds,Nat.add_assoc] using e
theorem AA{place:Nat→Option (Nat×Nat)}{cells:Array Value}{i off size:Nat}{v:Value}{rest:List (Nat×Value)}(hp:place i=some (off,size))(hs:v.cells.toList.length=size)
  (hle:off+size≤cells.size):Instr.fill place cells ((i,v)::rest)=Instr.fill place (splice cells.toList off v.cells.toList).toArray rest:=by
 have hs':v.cells.size=size:=by simpa using hs
 have hc:(v.cells.size≠size||off+v.cells.size > cells.size)=false:=by
  simp only[Bool.or_eq_false_iff,decide_eq_false_iff_not]
  constructor
  ·simp[hs']
  ·omega
 simp only[Instr.fill,hp]
 rw[hc]
 simp only[Bool.false_eq_true,if_false]
 congr 1
 rw[←Array.foldl_toList,Array.toList_zipIdx]
 have:=Ib off v.cells.toList 0 cells (by rw[hs];omega)
 simpa using this
theorem Rh{w:World}{I:Nat→Nat→Prop}{u:Ty}{y:u.den}{es:List Value}(he:bG w I u y es):∀{t:Ty} {x x':t.den} {cs:List Value} {k o:Nat},
  bG w I t x cs→iQ t k=some o→HO t x k u y=some x'→bG w I t x' (splice cs o es)∧o+es.length≤cs.length:=by
 intro t
 induction t with
 | pair a b jE nr =>
   intro x x' cs k o h ho hp
   obtain⟨c1,c2,rfl,h1,h2⟩:=h
   cases k with
   | zero =>
     simp only[iQ,Option.some.injEq] at ho
     subst ho
     simp only[HO] at hp
     split at hp
     ·rename_i y' hy
      obtain⟨q,hq⟩:=Ty.jP hy
      subst q;subst hq
      obtain rfl:=Option.some.inj hp
      have hl:es.length=c1.length:=by rw[he.length,h1.length]
      refine⟨⟨es,c2,?_,he,h2⟩,by rw[List.length_append];omega⟩
      simp only[splice,List.take_zero,List.nil_append,Nat.zero_add]
      rw[hl,List.drop_left]
     ·cases hp
   | succ k =>
     simp only[iQ] at ho
     cases hb:iQ b k with
     | none=>rw[hb] at ho;cases ho
     | some o' =>
       rw[hb] at ho
       simp only[Option.map_some,Option.some.injEq] at ho
       simp only[HO] at hp
       split at hp
       ·rename_i z hz
        obtain rfl:=Option.some.inj hp
        obtain⟨r1,r2⟩:=nr h2 hb hz
        have hl:=h1.length
        refine⟨⟨c1,splice c2 o' es,?_,h1,r1⟩,by rw[List.length_append];omega⟩
        subst ho
        rw[←hl]
        simp only[splice]
        first
         | (rw[List.take_length_add_append,List.append_assoc,List.append_assoc,Nat.add_assoc,←List.drop_drop,List.drop_left];simp[List.append_assoc];done)
         | (rw[Nat.add_comm o' c1.length,List.take_length_add_append,List.append_assoc,List.append_assoc,Nat.add_assoc,←List.drop_drop,List.drop_left];simp[List.append_assoc])
       ·cases hp
 | _=>intro x x' cs k o h ho;cases k<;>simp[iQ] at ho
theorem GR:∀{t:Ty} {k:Nat} {u:Ty},tT t k=some u→∃o,iQ t k=some o:=by
 intro t
 induction t with
 | pair a b jE nr =>
   intro k u h
   cases k with
   | zero=>exact⟨0,rfl⟩
   | succ k =>
     obtain⟨o,ho⟩:=nr (show tT b k=some u from h)
     simp only[iQ,ho]
     exact⟨_,rfl⟩
 | _=>intro k u h;cases k<;>cases h
section
variable {P:Program} {B:qz} {N:Nat} {γ:Gh} {σ σ':St} {a:Act} {w:World} {d:Option Nat} {cx:Ctx}
theorem EX{place:Nat→Option (Nat×Nat)}{t:Ty}(hpl:∀k u o,tT t k=some u→iQ t k=some o→place k=some (o,u.size)) :
  ∀{parts:List (Nat×Operand)} {x x':t.den} {cells:Array Value} {σ σ':St} {γ:Gh},cX B N γ σ a w→bG w γ.I t x cells.toList→fW σ t x parts=some (x',σ') →
   ∃cells' γ',Instr.fill place cells (parts.map fun p=>(p.1,a.eval p.2))=some cells'∧cX B N γ' σ' a w∧Ext B γ σ.mem w γ' σ'.mem w∧bG w γ'.I t x' cells'.toList:=by
 intro parts
 induction parts with
 | nil =>
   intro x x' cells σ σ' γ h hx hb
   obtain⟨rfl,rfl⟩:=Prod.mk.inj (Option.some.inj hb)
   exact⟨cells,γ,rfl,h,Ext.refl _ _ _ _,hx⟩
 | cons p r ih =>
   obtain⟨k,o⟩:=p
   intro x x' cells σ σ' γ h hx hb
   simp only[fW] at hb
   split at hb
   ·rename_i u hu
    split at hb
    ·rename_i y σ1 hg
     split at hb
     ·rename_i x1 hx1
      obtain⟨jb,s1,s2,cs,c1,c2⟩:=lS h (h.cJ o) hg
      obtain hval:a.eval o=_:=by simpa using c2
      have VC:(a.eval o).cells.toList=cs:=by rw[hval];exact qT c1
      obtain⟨off,hoff⟩:=GR hu
      obtain⟨r1,r2⟩:=Rh c1 (bG.mono s2.I s2.cells hx) hoff hx1
      have hsz:=c1.length
      obtain⟨cells',EW,k1,k2,k3,k4⟩:=ih (cells:=(splice cells.toList off cs).toArray) s1 (by simpa using r1) hb
      refine⟨cells',EW,?_,k2,s2.trans k3,k4⟩
      simp only[List.map_cons]
      rw[AA (hpl k u off hu hoff) (by rw[VC];exact hsz) (by rw[hsz] at r2;simpa using r2),VC]
      exact k1
     ·cases hb
    ·cases hb
   ·cases hb
theorem yD{n:Nat}{e:Ty}{place:Nat→Option (Nat×Nat)}(hpl:∀k,place k=some (k*e.size,e.size)) :
  ∀{parts:List (Nat×Operand)} {l l':List e.den} {cells:Array Value} {σ σ':St} {γ:Gh},cX B N γ σ a w→bG w γ.I (.arr n e) l cells.toList→fK σ e l parts=some (l',σ') →
   ∃cells' γ',Instr.fill place cells (parts.map fun p=>(p.1,a.eval p.2))=some cells'∧cX B N γ' σ' a w∧Ext B γ σ.mem w γ' σ'.mem w∧bG w γ'.I (.arr n e) l' cells'.toList:=by
 intro parts
 induction parts with
 | nil =>
   intro l l' cells σ σ' γ h hx hb
   obtain⟨rfl,rfl⟩:=Prod.mk.inj (Option.some.inj hb)
   exact⟨cells,γ,rfl,h,Ext.refl _ _ _ _,hx⟩
 | cons p r ih =>
   obtain⟨k,o⟩:=p
   intro l l' cells σ σ' γ h hx hb
   simp only[fK] at hb
   split at hb
   ·rename_i y σ1 hg
    cases hlt:Nat.blt k l.length with
    | false=>rw[hlt] at hb;cases hb
    | true =>
      rw[hlt] at hb
      simp only[cond_true] at hb
      have hlt':k<l.length:=by simpa using hlt
      obtain⟨jb,s1,s2,cs,c1,c2⟩:=lS h (h.cJ o) hg
      obtain hval:a.eval o=_:=by simpa using c2
      have VC:(a.eval o).cells.toList=cs:=by rw[hval];exact qT c1
      obtain⟨j1,j2,j3⟩:=bG.mono s2.I s2.cells hx
      have j1':l.length=n:=j1
      have hsz:=c1.length
      have hm:(k+1)*e.size≤n*e.size:=Nat.mul_le_mul_right _ (by omega)
      rw[Nat.succ_mul] at hm
      have hle:k*e.size+cs.length≤cells.toList.length:=by rw[hsz,j2];exact hm
      have hnew:bG w jb.I (.arr n e) (l.set k y) (splice cells.toList (k*e.size) cs) :=
       ⟨(@List.length_set _ l _ _).trans j1,by rw[bO hle];exact j2,HY j1' (by rw[j2];exact Nat.le_refl _) j3 (by omega) c1⟩
      obtain⟨cells',EW,k1,k2,k3,k4⟩:=ih (cells:=(splice cells.toList (k*e.size) cs).toArray) s1 (by simpa using hnew) hb
      refine⟨cells',EW,?_,k2,s2.trans k3,k4⟩
      simp only[List.map_cons]
      rw[AA (hpl k) (by rw[VC];exact hsz) (by rw[hsz] at hle;simpa using hle),VC]
      exact k1
   ·cases hb
theorem pE.places{t:Ty}:∀{off:Nat} {fs:List Field},pE P t off fs→∃places:List (Nat×Nat),fs.mapM (fun f=>(P.info? f.type).map fun i=>(f.offset,i.size))=some places ∧
  ∀k u o,tT t k=some u→iQ t k=some o→places[k]?=some (off+o,u.size):=by
 induction t with
 | pair a b jE nr =>
   intro off fs h
   obtain⟨f,r,rfl,h1,h2,h3,h4,h5⟩:=h.cons
   obtain⟨pl,p1,p2⟩:=nr h5
   obtain⟨i,z,i1,i2,_⟩:=h3.info
   refine⟨(f.offset,i.size)::pl,by simp[i1,p1],fun k u o hu ho=>?_⟩
   cases k with
   | zero =>
     simp only[tT,iQ,Option.some.injEq] at hu ho
     subst hu ho
     simp[h1,i2]
   | succ k =>
     simp only[tT,iQ] at hu ho
     cases hb:iQ b k with
     | none=>rw[hb] at ho;cases ho
     | some o' =>
       rw[hb] at ho
       simp only[Option.map_some,Option.some.injEq] at ho
       have:=p2 k u o' hu hb
       rw[List.getElem?_cons_succ,this]
       congr 2;omega
 | unit =>
   intro off fs h
   cases fs with
   | nil=>exact⟨[],rfl,fun k u o hu=>by cases k<;>cases hu⟩
   | cons f r=>simp[pE,ff] at h
 | _=>intro off fs h;cases fs<;>simp[pE,ff] at h
theorem FW{mem:Nat→Option bU}:∀{fs:List nw} {v:aS},qS fs=some v→cw γ mem w v .cells (HV fs):=by
 intro fs
 induction fs with
 | nil=>intro v h;obtain rfl:=Option.some.inj h;rfl
 | cons f r ih =>
   intro v h
   cases f with
   | dat t =>
     simp only[qS] at h
     split at h
     ·rename_i u hu;obtain rfl:=Option.some.inj h;exact⟨_,_,rfl,mK _ _ t,ih hu⟩
     ·cases h
   | buf e i =>
     simp only[qS] at h
     split at h
     ·rename_i u hu;obtain rfl:=Option.some.inj h;exact⟨[.slice none 0 0],_,rfl,rfl,ih hu⟩
     ·cases h
   | one =>
     simp only[qS] at h
     split at h
     ·rename_i u hu;obtain rfl:=Option.some.inj h;exact⟨[.pointer none],_,rfl,rfl,ih hu⟩
     ·cases h
   | self=>cases h
theorem zi{place:Nat→Option (Nat×Nat)}{fs:List nw}(hpl:∀k o f,xA fs k=some o→fs[k]?=some f→place k=some (o,f.size))(h:cX B N γ σ a w) :
  ∀{parts:List (Nat×Operand)} {v v':aS} {cells:Array Value},cw γ σ.mem w v .cells cells.toList→lP σ fs v parts=some v' →
   ∃cells',Instr.fill place cells (parts.map fun p=>(p.1,a.eval p.2))=some cells'∧cw γ σ.mem w v' .cells cells'.toList:=by
 intro parts
 induction parts with
 | nil=>intro v v' cells hv hb;obtain rfl:=Option.some.inj hb;exact⟨cells,rfl,hv⟩
 | cons p r ih =>
   obtain⟨k,x⟩:=p
   intro v v' cells hv hb
   simp only[lP] at hb
   split at hb
   case h_2=>cases hb
   rename_i o t y0 o' f hf ho hfs
   cases hc:Nat.beq o o'&&Nat.beq t.size f.size with
   | false=>rw[hc] at hb;cases hb
   | true =>
     rw[hc] at hb
     simp only[cond_true] at hb
     simp only[Bool.and_eq_true] at hc
     obtain rfl:=Nat.eq_of_beq_eq_true hc.1
     have hsz:=Nat.eq_of_beq_eq_true hc.2
     split at hb
     case h_2=>cases hb
     rename_i y hy
     split at hb
     case h_2=>cases hb
     rename_i v1 hv1
     have hx:cw γ σ.mem w (cJ σ x) .cells (a.eval x).cells.toList:=(h.cJ x).pP (fun u e=>by rw[e] at hy;cases hy) (fun e=>by rw[e] at hy;cases hy)
     have hyr:bG w γ.I t y (a.eval x).cells.toList:=HA hy hx
     obtain⟨b1,_⟩:=EV hv hf
     have b1':o+t.size≤cells.toList.length:=b1
     have hl:(a.eval x).cells.toList.length=t.size:=hyr.length
     have hn:=HX (f:=fun _=>.ret (.data t y)) hv hf (fun z hz=>by obtain rfl:=Option.some.inj hz;exact hyr) hv1 hl
     obtain⟨cells',k1,k2⟩:=ih (cells:=(splice cells.toList o (a.eval x).cells.toList).toArray) (by simpa using hn) hb
     refine⟨cells',?_,k2⟩
     simp only[List.map_cons]
     rw[AA (hpl k o f ho hfs) (by rw[hl];exact hsz) (by rw[←hsz];simpa using b1')]
     exact k1
theorem GS(hc:fC P cx){t:TypeId}{fs:List nw}{z0 p q:aS}{parts:Array (Nat×Operand)}(h:cX B N γ σ a w)(hd:∀k,d=some k→k<N)(hO:find cx.sY t=some fs)
  (ZD:qS fs=some z0) (hb:lP σ fs z0 parts.toList=some (.mix p q)) :
  oJ P B N γ σ a w d (Instr.build t (parts.map fun(i,x)=>(i,a.eval x))) (σ.aU d (.mix p q)):=by
 have hB:=hc.sY _ _ hO
 simp only[Ka,Bool.and_eq_true] at hB
 obtain⟨h1,h2⟩:=hB
 obtain⟨i,z,i1,i2,i3,i4⟩:=iS h2
 split at h1
 case h_2=>cases h1
 rename_i gs hg
 obtain⟨pl,p1,p2⟩:=Da h1
 obtain⟨cells',k1,c1,c2,e1,e2,e3⟩:=zi (place:=fun k=>pl.toArray[k]?) (fun k o f ho hf=>by have:=p2 k o f ho hf;simpa using this) h
  (v:=z0) (cells:=z.cells) (by rw[i4];exact FW ZD) hb
 have hrun:(Instr.build t (parts.map fun(i,x)=>(i,a.eval x))).run P w=.ok (.agg cells') w:=by
  refine run_build w t _ _ ?_
  unfold Program.built
  simp only[i1,hg,i3,p1]
  simpa using k1
 exact bM h hd hrun ⟨c1,c2,by rw[←e1],e2,e3⟩
theorem EY(hc:fC P cx){t:TypeId}{fs:List nw}{z0:aS}{u:Ty.unit.den}{parts:Array (Nat×Operand)}(h:cX B N γ σ a w)(hd:∀k,d=some k→k<N)(hO:find cx.sY t=some fs)
  (ZD:qS fs=some z0) (hb:lP σ fs z0 parts.toList=some (.data .unit u)) :
  oJ P B N γ σ a w d (Instr.build t (parts.map fun(i,x)=>(i,a.eval x))) (σ.aU d (.data .unit ())):=by
 have hB:=hc.sY _ _ hO
 simp only[Ka,Bool.and_eq_true] at hB
 obtain⟨h1,h2⟩:=hB
 obtain⟨i,z,i1,i2,i3,i4⟩:=iS h2
 split at h1
 case h_2=>cases h1
 rename_i gs hg
 obtain⟨pl,p1,p2⟩:=Da h1
 obtain⟨cells',k1,k2⟩:=zi (place:=fun k=>pl.toArray[k]?) (fun k o f ho hf=>by have:=p2 k o f ho hf;simpa using this) h
  (v:=z0) (cells:=z.cells) (by rw[i4];exact FW ZD) hb
 have hrun:(Instr.build t (parts.map fun(i,x)=>(i,a.eval x))).run P w=.ok (.agg cells') w:=by
  refine run_build w t _ _ ?_
  unfold Program.built
  simp only[i1,hg,i3,p1]
  simpa using k1
 have e:cells'.toList=[]:=k2
 exact bM h hd hrun ⟨[],rfl,by rw[show cells'=#[] from Array.ext' e];rfl⟩
theorem Ci(hc:fC P cx){t:TypeId}{u v:Ty}{parts:Array (Nat×Operand)}{x:(Ty.pair u v).den}(h:cX B N γ σ a w)(hd:∀k,d=some k→k<N)(hT:find cx.T t=some (.pair u v))
  (hb:fW σ (.pair u v) (Ty.pair u v).zero parts.toList=some (x,σ')) :
  oJ P B N γ σ a w d (Instr.build t (parts.map fun(i,x)=>(i,a.eval x))) (σ'.aU d (.data (.pair u v) x)):=by
 have hD:=hc.T _ _ hT
 obtain⟨fs,f1,f2,_⟩:=hD.pair
 obtain⟨pl,p1,p2⟩:=f2.places
 obtain⟨i,z,i1,i2,i3,i4⟩:=hD.info
 obtain⟨cells',γ',k1,k2,k3,k4⟩:=EX (place:=fun k=>pl.toArray[k]?) (fun k u o hu ho=>by have:=p2 k u o hu ho;simpa using this) h
  (x:=(Ty.pair u v).zero) (cells:=z.cells) (by rw[i4];exact mK w γ.I _) hb
 have hrun:(Instr.build t (parts.map fun(i,x)=>(i,a.eval x))).run P w=.ok (.agg cells') w:=by
  refine run_build w t _ _ ?_
  unfold Program.built
  simp only[i1,f1,i3,p1]
  simpa using k1
 exact⟨_,_,γ',hrun,k2.ua hd ⟨_,k4,rfl⟩,by cases d<;>exact k3⟩
theorem Di(hc:fC P cx){t:TypeId}{n:Nat}{e:Ty}{parts:Array (Nat×Operand)}{l:List e.den}(h:cX B N γ σ a w)(hd:∀k,d=some k→k<N)(hT:find cx.T t=some (.arr n e))
  (hb:fK σ e (List.replicate n e.zero) parts.toList=some (l,σ')) :
  oJ P B N γ σ a w d (Instr.build t (parts.map fun(i,x)=>(i,a.eval x))) (σ'.aU d (.data (.arr n e) l)):=by
 have hD:=hc.T _ _ hT
 obtain⟨eZ,f1,f2,f3⟩:=hD.arr
 obtain⟨ie,ze,e1,e2,e3,e4⟩:=f2.info
 obtain⟨i,z,i1,i2,i3,i4⟩:=hD.info
 obtain⟨cells',γ',k1,k2,k3,k4⟩:=yD (n:=n) (place:=fun k=>some (k*ie.size,ie.size)) (fun k=>by rw[e2]) h
  (l:=List.replicate n e.zero) (cells:=z.cells) (by rw[i4];exact mK w γ.I (.arr n e)) hb
 have hrun:(Instr.build t (parts.map fun(i,x)=>(i,a.eval x))).run P w=.ok (.agg cells') w:=by
  refine run_build w t _ _ ?_
  unfold Program.built
  simp only[i1,f1,i3,e1]
  simpa using k1
 exact⟨_,_,γ',hrun,k2.ua hd ⟨_,k4,rfl⟩,by cases d<;>exact k3⟩
theorem ud{e:Ty}{z:Value}(hz:z.cells.toList=eF e)(he:0<e.size)(n:Nat):(madeCells z.cells (n*e.size)).toList=eF (.arr n e):=by
 have hzl:z.cells.size=e.size:=by rw[←dM e,←hz];simp
 apply List.ext_getElem?
 intro j
 have hlen:(eF (.arr n e)).length=n*e.size:=by rw[dM];rfl
 rcases Nat.lt_or_ge j (n*e.size) with hj|hj
 ·have h1:(madeCells z.cells (n*e.size)).toList[j]?=some (z.cells[j % z.cells.size]!):=by simp[madeCells,hj]
  rw[h1]
  have hdiv:j / e.size<n:=by rw[Nat.div_lt_iff_lt_mul he];exact hj
  have hk:=eC (eF e) n (j / e.size) hdiv
  rw[dM] at hk
  have hmod:=Nat.mod_lt j he
  have hkk:j / e.size*e.size+j % e.size=j:=by rw[Nat.mul_comm];exact Nat.div_add_mod j e.size
  have h2:(eF (.arr n e))[j]?=(eF e)[j % e.size]?:=by
   conv=>rhs;rw[←hk]
   rw[List.getElem?_take,if_pos hmod,List.getElem?_drop,hkk]
   rfl
  rw[h2,←hz,hzl]
  have hm:j % e.size<z.cells.size:=by omega
  simp[hm]
 ·rw[List.getElem?_eq_none (by simp[madeCells];omega),List.getElem?_eq_none (by omega)]
theorem ME{w:World}{I:Nat→Nat→Prop}{e:Ty}{n:Nat}{l:List e.den}{cells:Array Value}{t:TypeId}{blk:Nat}{fr:Nat×Nat}(h:bG w I (.arr n e) l cells.toList)(hg:w.heap[blk]?=some (.cells cells t fr))
  (hI:∀o,I blk o) (hn:n≤maxLen):bG w I (.slice e) l [.slice (some ⟨blk,0,none⟩) n n]:=by
 obtain⟨h1,h2,h3⟩:=h
 have h1':l.length=n:=h1
 refine .inr ⟨blk,0,n,by rw[←h1'],by rw[←h1'];exact Nat.le_refl _,hn,fun i x hx=>?_⟩
 have hx':l[i]?=some x:=hx
 have hi:i<n:=by have:=(List.getElem?_eq_some_iff.1 hx').1;omega
 have hr:=h3 i x hx'
 refine⟨_,hr.length,fun j c hj=>⟨?_,hI _⟩,hr⟩
 rw[cell_of_heap hg]
 rw[List.getElem?_take] at hj
 split at hj
 ·rw[List.getElem?_drop] at hj
  rw[Nat.zero_add];simpa using hj
 ·cases hj
theorem EZ(hc:fC P cx){t:TypeId}{n:Nat}{e:Ty}{parts:Array (Nat×Operand)}{l:List e.den}(h:cX B N γ σ a w)(hd:∀k,d=some k→k<N)(hT:find cx.T t=some (.slice e))
  (hn:Nat.ble (n*e.size) 65536=true) (hb:fK σ e (List.replicate n e.zero) parts.toList=some (l,σ')) :
  oJ P B N γ σ a w d (Instr.buildSlice t n (parts.map fun(i,x)=>(i,a.eval x))) (σ'.aU d (.data (.slice e) l)):=by
 have hD:=hc.T _ _ hT
 have hn:n*e.size≤65536:=Nat.le_of_ble_eq_true hn
 obtain⟨eZ,f1,f2,f3,f4⟩:=hD.slice
 obtain⟨ie,ze,e1,e2,e3,e4⟩:=f2.info
 obtain⟨cells',γ',k1,k2,k3,k4⟩:=yD (n:=n) (place:=fun k=>some (k*ie.size,ie.size)) (fun k=>by rw[e2]) h
  (l:=List.replicate n e.zero) (cells:=madeCells ze.cells (n*e.size)) (by rw[ud e4 f4];exact mK w γ.I (.arr n e)) hb
 obtain⟨m1,m2⟩:=k2.ok.Z2 cells' eZ
 have hrun:(Instr.buildSlice t n (parts.map fun(i,x)=>(i,a.eval x))).run P w=.ok (.slice (some ⟨w.heap.size,0,none⟩) n n) (w.alloc (.cells cells' eZ)):=by
  have hk1:Instr.fill (fun i=>some (i*ie.size,ie.size)) (madeCells ze.cells (n*ie.size)) (parts.map fun(i,x)=>(i,a.eval x)).toList=some cells':=by rw[e2] at k1⊢;simpa using k1
  by_cases h0:n*ie.size=0
  ·have ZD:madeCells ze.cells (n*ie.size)=#[]:=by rw[h0];simp[madeCells]
   rw[ZD] at hk1
   simp only[Array.toList_map] at hk1
   simp[Instr.buildSlice,run_underlying f1,Go.sizeOf,typeInfo,zeroValue,e1,e3,h0,newRow]
   have hz:(Array.map (fun x:Nat=>(default:Value)) (Array.range 0))=#[]:=by simp[Array.range]
   rw[hz,hk1]
   rfl
  ·exact run_buildSlice w t eZ n _ cells' ie ze f1 e1 e3 (by rw[e2];omega) h0 hk1
 refine⟨_,_,_,hrun,k2.aU m2 m1 hd (v:=.data (.slice e) l) ⟨[.slice (some ⟨w.heap.size,0,none⟩) n n],?_,rfl⟩,by cases d<;>exact k3.trans m2⟩
 refine ME (bG.mono m2.I m2.cells k4) (heap_alloc_new w _) (fun o=>.inr rfl) ?_
 have:n*1≤n*e.size:=Nat.mul_le_mul_left _ f4
 have:(65536:Nat)≤maxLen:=by decide
 omega
theorem MF{α:Type}{l r:List α}{c:α}{j:Nat}(h:l.length=j):(l++([c]++r)).take (j+1)=l++[c]:=by
 subst h
 rw[List.take_append,List.take_of_length_le (by omega)]
 simp
theorem MG{place:Nat→Option (Nat×Nat)}(hpl:∀k,place k=some (k,1))(h:cX B N γ σ a w) :
  ∀{parts:List (Nat×Operand)} {k:Nat} {v:aS} {cells:Array Value},cells.size=k+parts.length→yW σ k parts=some v →
   ∃vals:List Value,Instr.fill place cells (parts.map fun p=>(p.1,a.eval p.2))=some (cells.toList.take k++vals).toArray∧cw γ σ.mem w v .cells vals:=by
 intro parts
 induction parts with
 | nil =>
   intro k v cells hs hv
   obtain rfl:=Option.some.inj hv
   refine⟨[],?_,rfl⟩
   have:cells.toList.take k=cells.toList:=List.take_of_length_le (by simp only[List.length_nil,Nat.add_zero] at hs;simp[hs])
   rw[this]
   simp[Instr.fill]
 | cons p r ih =>
   obtain⟨j,x⟩:=p
   intro k v cells hs hv
   simp only[yW] at hv
   cases hj:Nat.beq j k with
   | false=>rw[hj] at hv;cases hv
   | true =>
     rw[hj] at hv
     simp only[cond_true] at hv
     obtain rfl:=Nat.eq_of_beq_eq_true hj
     simp only[List.length_cons] at hs
     have key:∀(u u':aS) (c:Value),(∀t,u≠.Ca t)→u≠.undef→cJ σ x=u→yW σ (j+1) r=some u'→v=.mix u u'→(a.eval x).cells.toList=[c] →
       ∃vals:List Value,Instr.fill place cells (((j,x)::r).map fun p=>(p.1,a.eval p.2))=some (cells.toList.take j++vals).toArray∧cw γ σ.mem w v .cells vals:=by
      intro u u' c h1 h2 hu Z3 hv' hcell
      have hx:=h.cJ x
      rw[hu] at hx
      have hx':=hx.pP h1 (fun e=>absurd e h2)
      have hlen:(splice cells.toList j [c]).length=cells.toList.length:=bO (by simp;omega)
      obtain⟨vals,k1,k2⟩:=ih (k:=j+1) (cells:=(splice cells.toList j [c]).toArray) (by simp only[List.size_toArray,hlen,Array.length_toList];omega) Z3
      have ht:(splice cells.toList j [c]).take (j+1)=cells.toList.take j++[c]:=by
       have:(cells.toList.take j).length=j:=by rw[List.length_take,Array.length_toList];omega
       simp only[splice]
       rw[List.append_assoc,MF this]
      refine⟨c::vals,?_,?_⟩
      ·simp only[List.map_cons]
       rw[AA (hpl j) (by rw[hcell];rfl) (by omega),hcell,k1]
       rw[ht];simp
      ·rw[hv']
       exact⟨[c],vals,rfl,by rw[hcell] at hx';exact hx',k2⟩
     split at hv
     ·rename_i u' hu Z3
      obtain rfl:=Option.some.inj hv
      have hx:=h.cJ x
      rw[hu] at hx
      obtain hx:a.eval x=_:=by simpa [cw] using hx
      exact key .qB u' (.pointer none) (fun t e=>by cases e) (fun e=>by cases e) hu Z3 rfl (by rw[hx];rfl)
     ·rename_i b aC q u' hu Z3
      obtain rfl:=Option.some.inj hv
      have hx:=h.cJ x
      rw[hu] at hx
      obtain⟨⟨y,hy,ho⟩,_⟩:=hx
      obtain rfl:a.eval x=y:=by simpa using hy
      refine key (.ptr b aC q) u' (a.eval x) (fun t e=>by cases e) (fun e=>by cases e) hu Z3 rfl ?_
      generalize a.eval x=y at ho⊢
      cases y<;>first|rfl|(simp[Value.oneCell'] at ho)
     ·cases hv
theorem Ke(hc:fC P cx){t:TypeId}{nb n:Nat}{parts:Array (Nat×Operand)}(h:cX B N γ σ a w)(hd:∀k,d=some k→k<N)
  (hr:(Aw cx nb d t n parts.toList σ).run=some σ'):oJ P B N γ σ a w d (Instr.buildSlice t n (parts.map fun(i,x)=>(i,a.eval x))) σ':=by
 unfold Aw at hr
 split at hr
 case h_2=>cases hr
 rename_i k e v he hv
 obtain⟨hb,kD⟩:=aD hr
 simp only[Bool.and_eq_true] at hb
 obtain⟨⟨hn,h0⟩,FX⟩:=hb
 obtain rfl:=Nat.eq_of_beq_eq_true hn
 have h0':0<parts.toList.length:=by simpa using h0
 have afB:parts.toList.length≤64:=Nat.le_of_ble_eq_true FX
 obtain⟨k1,k2⟩:=Cg hc he
 obtain⟨_,hs,z,hz,_⟩:=hc.sE _ k2
 obtain⟨ie,i1,i2⟩:∃ie,P.info? e=some ie∧ie.size=1:=by
  have:=hs w
  cases hi:P.info? e with
  | none=>simp[Go.sizeOf,typeInfo,hi] at this
  | some ie=>simp[Go.sizeOf,typeInfo,hi] at this;exact⟨ie,rfl,this⟩
 obtain⟨z',i3⟩:∃z',ie.zero=some z':=by
  have:=hz w
  cases hi:ie.zero with
  | none=>simp[zeroValue,typeInfo,i1,hi] at this
  | some z'=>exact⟨z',rfl⟩
 obtain⟨aC,bt,hr2⟩:=dX kD
 obtain rfl:=Option.some.inj hr2
 obtain⟨vals,f1,f2⟩:=MG (place:=fun i=>some (i*ie.size,ie.size)) (fun j=>by rw[i2];simp) h (k:=0) (cells:=(Array.range (parts.toList.length*ie.size)).map (z'.cells[· % z'.cells.size]!)) (by simp[i2]) hv
 have hrun:=run_buildSlice w t e parts.toList.length (parts.map fun(i,x)=>(i,a.eval x)) _ ie z' k1 i1 i3 (by rw[i2];omega) (by rw[i2];omega) (by rw[Array.toList_map];exact f1)
 obtain⟨m1,m2⟩:=h.ok.newVar (b:=nb+k) (v:=v) (tid:=0) bt (cs:=((((Array.range (parts.toList.length*ie.size)).map (z'.cells[· % z'.cells.size]!)).toList.take 0)++vals).toArray) e (.inl rfl) (by simpa using f2)
 refine⟨_,_,_,hrun,h.step m2 m1 (hd k rfl) ?_,m2⟩
 refine⟨⟨_,rfl,rfl⟩,gz (bA _ _) rfl ⟨by simp,w.heap.size,0,by simp[bI],by omega,by omega,by omega,_,_,rfl,by simp,.inr ?_⟩⟩
 simp[cQ]
theorem E0(hc:fC P cx){t:TypeId}{e:Ty}{nb k:Nat}(h:cX B N γ σ a w)(hd:k<N)(hT:find cx.T t=some (.slice e))
  (hr:(σ.aO (nb+k) (.data (.slice e) ([]:List e.den)) 0 true fun aC σ=>.ret (σ.put k (.whole (nb+k) aC))).run=some σ') :
  oJ P B N γ σ a w (some k) (Instr.buildSlice t 0 #[]) σ':=by
 obtain⟨eZ,f1,f2,f3,f4⟩:=(hc.T _ _ hT).slice
 obtain⟨ie,ze,e1,e2,e3,e4⟩:=f2.info
 obtain⟨aC,bt,hr2⟩:=dX hr
 obtain rfl:=Option.some.inj hr2
 have hrun:(Instr.buildSlice t 0 #[]).run P w=.ok (.slice (some ⟨w.heap.size,0,none⟩) 0 0) (w.alloc (.cells #[] eZ)):=by
  simp[Instr.buildSlice,run_underlying f1,Go.sizeOf,typeInfo,zeroValue,e1,e3,newRow,Instr.fill]
  have hz:(Array.map (fun x:Nat=>(default:Value)) (Array.range 0))=#[]:=by simp[Array.range]
  rw[hz]
 obtain⟨n1,n2⟩:=h.ok.My (w':=w.alloc (.cells #[] eZ)) (b:=nb+k) (e:=e) (l:=([]:List e.den)) (tid:=0) (aC:=aC) (cap:=0) bt f4
  ((tZ.refl _ _).alloc h.ok.base _) (cK w _) (heap_alloc_new w _) (wD _ _) (.inl rfl) (Nat.le_refl _) (Nat.zero_le _) (by simp) (fun i z hz=>by cases hz)
 refine⟨_,_,_,hrun,h.step n2 n1 hd ?_,n2⟩
 exact⟨⟨_,rfl,rfl⟩,gz (bA _ _) rfl ⟨e,0,rfl,rfl,.inr ⟨w.heap.size,0,by simp[bI],rfl⟩⟩⟩
end
end Go.Ge
namespace Go.Ge
set_option linter.unusedVariables false
set_option linter.unusedSimpArgs false
open RowKit
section
variable {P:Program} {B:qz} {N:Nat} {γ:Gh} {σ σ':St} {a:Act} {w w':World} {d:Option Nat} {cx:Ctx}
theorem Cj:(4294967296:Nat)≤maxLen:=by decide
theorem Dj{n:Nat}(h:fits (n:Int)=true):n≤4294967296:=by simp[fits] at h;omega
theorem zj{eZ:TypeId}{ie:TypeInfo}(hb:ET P eZ=true)(hi:P.info? eZ=some ie):ie.bytes≤32768:=by
 unfold ET at hb
 rw[hi] at hb
 exact Nat.le_of_ble_eq_true hb
theorem wG{mem:Nat→Option bU}{b cap blk:Nat}{bx:bU}{e:Ty}{n:Nat}(bK:bx.buf=true)(hrow:bx.row=some (e,n)) :
  cw (bI γ b (some (blk,cap))) (cE mem b bx) w' (.whole b bx.aC) .val [.slice (some ⟨blk,0,none⟩) n cap] :=
 ⟨⟨_,rfl,rfl⟩,gz (bA _ _) rfl ⟨e,n,bK,hrow,.inr ⟨blk,cap,by simp[bI],rfl⟩⟩⟩
theorem GU(hc:fC P cx){t:TypeId}{nb k:Nat}{e:Ty}{x y:Operand}{kl kc:IntKind}{l c:Int}(h:cX B N γ σ a w)(hd:k<N)(hT:find cx.T t=some (.slice e))
  (hx:cJ σ x=.data (.int kl) l) (hy:cJ σ y=.data (.int kc) c) (hin:inside 0 l c=true) (hf:fits c=true)
  (hr:(σ.aO (nb+k) (.data (.slice e) (Ms l e.zero)) 0 true fun aC σ=>.ret (σ.put k (.whole (nb+k) aC))).run=some σ') :
  oJ P B N γ σ a w (some k) (Instr.makeSlice t (a.eval x) (a.eval y)) σ':=by
 obtain⟨aC,bt,hr2⟩:=dX hr
 obtain rfl:=Option.some.inj hr2
 obtain⟨_,h0,h1⟩:=iF hin
 have afC:c≤4294967296:=by simpa [fits] using hf
 have Yu:=h.cJ x
 have hvy:=h.cJ y
 rw[hx] at Yu
 rw[hy] at hvy
 obtain⟨ex,_⟩:=sF Yu
 obtain⟨ey,_⟩:=sF hvy
 obtain⟨eZ,f1,f2,f3,f4⟩:=(hc.T _ _ hT).slice
 obtain⟨ie,ze,e1,e2,e3,e4⟩:=f2.info
 have hb:=zj f3 e1
 have hbytes:(ie.bytes:Int)*c≤281474976710656:=by
  have:(ie.bytes:Int)*c≤32768*c:=Int.mul_le_mul_of_nonneg_right (by omega) (by omega)
  omega
 have hrun:=run_make (P:=P) w t eZ ie ze f1 e1 e3 kl kc l c h0 h1 hbytes (by omega)
 have hcells:(madeCells ze.cells (c.toNat*ie.size)).toList=eF (.arr c.toNat e):=by rw[e2];exact ud e4 f4 _
 have hlen:(Ms l e.zero).length=l.toNat:=by simp[Ms]
 obtain⟨m1,m2⟩:=h.ok.My (w':=w.alloc (.cells (madeCells ze.cells (c.toNat*ie.size)) eZ)) (b:=nb+k) (e:=e) (l:=Ms l e.zero) (tid:=0) (aC:=aC) (cap:=c.toNat) bt f4
  ((tZ.refl _ _).alloc h.ok.base _) (cK w _) (heap_alloc_new w _) (wD _ _) (.inl rfl) (by rw[hlen];omega) (by have:=Cj;omega)
  (by rw[e2];exact size_madeCells _ _) (fun i z hz=>by
   rw[hcells]
   have X5:(List.replicate l.toNat e.zero)[i]?=some z:=hz
   rw[List.getElem?_replicate] at X5
   split at X5
   ·rename_i hi
    obtain rfl:e.zero=z:=by simpa using X5
    have:=eC (eF e) c.toNat i (by omega)
    rw[dM] at this
    rw[show eF (.arr c.toNat e)=(List.replicate c.toNat (eF e)).flatten from rfl,this]
    exact mK _ _ _
   ·cases X5)
 refine⟨_,_,_,by rw[ex,ey];exact hrun,h.step m2 m1 hd ?_,m2⟩
 have:=wG (γ:=γ) (w':=w.alloc (.cells (madeCells ze.cells (c.toNat*ie.size)) eZ)) (mem:=σ.mem) (b:=nb+k) (cap:=c.toNat) (blk:=w.heap.size)
  (bx:={ val:=.data (.slice e) (Ms l e.zero),tid:=0,buf:=true,ro:=false,lk:=false,aC }) (e:=e) (n:=l.toNat) rfl (by rw[←hlen];rfl)
 exact this
theorem MH(b:UInt8):IntKind.u8.min≤((b.toNat:Int))∧((b.toNat:Int))≤IntKind.u8.max:=u8_in b
theorem MI(l:List Int):(⟨(bz l).toArray⟩:ByteArray)=strOfNums l:=rfl
theorem Ud{I:Nat→Nat→Prop}{l:List Int}{v:Value}{src dst e:TypeId}(h:zh w I (.int .u8) l v)(hs:P.underlying src=some (.slice e))(he:P.underlying e=some (.int .u8))(hd:P.underlying dst=some .string) :
  (convert src dst v).run P w=.ok (.string ⟨(bz l).toArray⟩) w∧l.length≤maxLen:=by
 rcases h with ⟨rfl,base,cap,r1,r2,r3⟩|⟨blk,off,cap,r1,r2,r3,r4⟩
 ·rcases r3 with rfl|⟨blk,off,rfl⟩
  ·rw[r1]
   refine⟨?_,Nat.zero_le _⟩
   cases base with
   | none=>exact run_convert_bytes_nil w src e hs he 0 0 dst hd
   | some ad =>
     rw[run_convert_bytes_string w src dst e _ _ _ hs he hd]
     have hl:(loadCells ad 0).run P w=.ok #[] w:=run_loadCells_list (P:=P) w ad [] (fun j v hv=>by cases hv)
     simp[Conv.bytesToString,Sem.run_bind,hl,bz]
     rfl
  ·rw[r1]
   refine⟨?_,Nat.zero_le _⟩
   exact run_convert_bytes_arg w src e hs he blk off 0 cap [] rfl (fun i hi=>by omega) dst hd
 ·rw[r1]
  refine⟨?_,Nat.le_trans r2 r3⟩
  rw[MI]
  refine run_convert_bytes_arg w src e hs he blk off l.length cap l rfl (fun i hi=>?_) dst hd
  obtain⟨es,g1,g2,g3⟩:=r4 i l[i] (List.getElem?_eq_getElem hi)
  obtain⟨rfl,_⟩:=g3
  have:=g2 0 _ rfl
  simp only[Ty.size,Nat.mul_one,Nat.add_zero] at this
  rw[this]
  simp[List.getD,List.getElem?_eq_getElem hi]
theorem E1(l:List Int):(bz l).length=l.length:=by simp[bz]
theorem bytesRow_at{s:List UInt8}{cap i:Nat}{b:UInt8}(hb:s[i]?=some b):((bytesRow ⟨s.toArray⟩ cap).toList.drop (i*1)).take 1=[.int .u8 (b.toNat:Int)]:=by
 have hi:=(List.getElem?_eq_some_iff.1 hb).1
 apply List.ext_getElem?
 intro j
 rw[List.getElem?_take]
 split
 ·rename_i hj
  obtain rfl:j=0:=by omega
  rw[List.getElem?_drop]
  simp only[bytesRow,Nat.mul_one,Nat.add_zero,Array.toList_append,Array.toList_map]
  rw[List.getElem?_append_left (by simpa using hi)]
  simp[hb]
 ·rename_i hj
  rw[List.getElem?_eq_none (by simp;omega)]
theorem Kf(s:ByteArray){cap:Nat}(h:s.size≤cap):(bytesRow s cap).size=cap:=by
 simp only[bytesRow,Array.size_append,Array.size_map,Array.size_replicate]
 have:s.data.size=s.size:=rfl
 omega
theorem Ic(hc:fC P cx){nb k:Nat}{src dst:TypeId}{x:Operand}{s:List UInt8}(h:cX B N γ σ a w)(hd:k<N)(hs:find cx.T src=some .str)(hd':find cx.T dst=some (.slice (.int .u8)))
  (hx:cJ σ x=.data .str s) (hr:(σ.aO (nb+k) (.data (.slice (.int .u8)) (ax s)) 0 true fun aC σ=>.ret (σ.put k (.whole (nb+k) aC))).run=some σ') :
  oJ P B N γ σ a w (some k) (convert src dst (a.eval x)) σ':=by
 have hv:=h.cJ x
 rw[hx] at hv
 obtain⟨ex,hl⟩:=vC hv
 obtain⟨aC,bt,jG⟩:=dX hr
 obtain rfl:=Option.some.inj jG
 obtain⟨eZ,f1,f2,f3,f4⟩:=(hc.T _ _ hd').slice
 have hrun:=run_bytes_of_string (P:=P) w src dst eZ ⟨s.toArray⟩ (hc.T _ _ hs).str f1 f2.int
 have hsz:(⟨s.toArray⟩:ByteArray).size=s.length:=by simp[ByteArray.size]
 rw[hsz] at hrun
 have hge:=grownCap_ge w s.length 0 eZ
 have hle:=grownCap_le_maxLen w s.length 0 eZ hl
 have hrs:=Kf ⟨s.toArray⟩ (cap:=grownCap w s.length 0 eZ) (by rw[hsz];exact hge)
 have hlen:(ax s).length=s.length:=by simp[ax]
 generalize hcap:grownCap w s.length 0 eZ=cap at *
 obtain⟨m1,m2⟩:=h.ok.My (b:=nb+k) (e:=.int .u8) (l:=(ax s:List Int)) (tid:=0) (aC:=aC) (cap:=cap)
  (w':=w.drew.alloc (.cells (bytesRow ⟨s.toArray⟩ cap) eZ ((bytesRow ⟨s.toArray⟩ cap).size,(bytesRow ⟨s.toArray⟩ cap).size+1)))
  bt (by decide) ((tZ.refl B w).drew.alloc h.ok.base _) (cK w.drew _) (heap_alloc_new w.drew _) ⟨fun o ho hh=>by omega,fun he=>by cases he⟩ (.inl rfl) (Nat.le_trans (Nat.le_of_eq hlen) hge) hle
  (by rw[hrs];exact(Nat.mul_one _).symm) (fun i z hz=>by
   have X5:(ax s)[i]?=some z:=hz
   simp only[ax,List.getElem?_map] at X5
   cases hb:s[i]? with
   | none=>rw[hb] at X5;cases X5
   | some b =>
     rw[hb] at X5
     obtain rfl:(b.toNat:Int)=z:=Option.some.inj X5
     exact⟨bytesRow_at (cap:=cap) hb,MH b⟩)
 refine⟨_,_,_,by rw[ex];exact hrun,h.step m2 m1 hd ?_,m2⟩
 have:=wG (γ:=γ) (mem:=σ.mem) (b:=nb+k) (cap:=cap) (blk:=w.heap.size)
  (bx:={ val:=.data (.slice (.int .u8)) (ax s),tid:=0,buf:=true,ro:=false,lk:=false,aC }) (e:=.int .u8) (n:=s.length)
  (w':=w.drew.alloc (.cells (bytesRow ⟨s.toArray⟩ cap) eZ ((bytesRow ⟨s.toArray⟩ cap).size,(bytesRow ⟨s.toArray⟩ cap).size+1))) rfl (by rw[←hlen];rfl)
 exact this
theorem Dk(hc:fC P cx){nb:Nat}{src dst:TypeId}{x:Operand}(h:cX B N γ σ a w)(hd:∀k,d=some k→k<N)(hr:(gq cx nb d src dst (cJ σ x) σ).run=some σ') :
  oJ P B N γ σ a w d (convert src dst (a.eval x)) σ':=by
 have hv:=h.cJ x
 unfold gq at hr
 split at hr
 ·rename_i ks k kx n hs hd' hx
  rw[hx] at hv
  obtain⟨ex,_⟩:=sF hv
  obtain rfl:=Option.some.inj hr
  refine bM h hd (x:=.int k (k.wrap n)) ?_ (mkInt (eX _ _))
  rw[ex]
  simp[convert,run_underlying (hc.T _ _ hs).int,run_underlying (hc.T _ _ hd').int,Conv.intToInt]
 ·rename_i s hs hd' hx
  rw[hx] at hv
  obtain rfl:=Option.some.inj hr
  obtain⟨ex,hl⟩:=vC hv
  refine bM h hd (x:=a.eval x) ?_ hv
  rw[ex]
  simp[convert,run_underlying (hc.T _ _ hs).str,run_underlying (hc.T _ _ hd').str]
 ·rename_i s hs hd' hx
  split at hr
  ·rename_i k
   obtain⟨hf,hr2⟩:=cD hr
   exact Ic hc h (hd k rfl) hs hd' hx hr2
  ·exact absurd hr (by intro k;cases k)
 ·rename_i x0 hs hd'
  split at hr
  ·rename_i l hl
   obtain rfl:=Option.some.inj hr
   obtain⟨eZ,f1,f2,f3,f4⟩:=(hc.T _ _ hs).slice
   obtain⟨r1,r2⟩:=Ud (dst:=dst) (qF h.ok hv hl) f1 f2.int (hc.T _ _ hd').str
   refine bM h hd r1 ⟨_,⟨rfl,?_⟩,rfl⟩
   exact Nat.le_trans (Nat.le_of_eq (E1 l)) r2
  ·exact absurd hr (by intro k;cases k)
 ·exact absurd hr (by intro k;cases k)
end
end Go.Ge
namespace Go.Ge
set_option linter.unusedVariables false
set_option linter.unusedSimpArgs false
open RowKit
section
variable {P:Program} {B:qz} {N:Nat} {γ:Gh} {σ σ':St} {a:Act} {w w':World} {d:Option Nat} {cx:Ctx}
def eG(w:World)(I:Nat→Nat→Prop)(e:Ty)(l:List e.den)(cs:List Value):Prop :=
 ∀(i:Nat) (x:e.den),l[i]?=some x→bG w I e x ((cs.drop (i*e.size)).take e.size)
theorem mL{α:Type}{a b:List α}{i s:Nat}(h:(i+1)*s≤a.length):((a++b).drop (i*s)).take s=(a.drop (i*s)).take s:=by
 rw[Nat.succ_mul] at h
 rw[List.drop_append_of_le_length (by omega),List.take_append_of_le_length (by rw[List.length_drop];omega)]
theorem eG.append{I:Nat→Nat→Prop}{e:Ty}{l m:List e.den}{c1 c2 rest:List Value}(h1:eG w I e l c1)(h2:eG w I e m c2)(hl1:c1.length=l.length*e.size)(Hv:c2.length=m.length*e.size) :
  eG w I e (l++m) (c1++c2++rest):=by
 intro i x hx
 rw[List.getElem?_append] at hx
 split at hx
 ·rename_i hi
  have hm:(i+1)*e.size≤l.length*e.size:=Nat.mul_le_mul_right _ hi
  rw[List.append_assoc,mL (by omega)]
  exact h1 i x hx
 ·rename_i hi
  have hj:i-l.length<m.length:=(List.getElem?_eq_some_iff.1 hx).1
  have hm:(i-l.length+1)*e.size≤m.length*e.size:=Nat.mul_le_mul_right _ hj
  have e1:i*e.size=c1.length+(i-l.length)*e.size:=by rw[hl1,←Nat.add_mul];congr 1;omega
  rw[List.append_assoc,e1,←List.drop_drop,List.drop_left,mL (by omega)]
  exact h2 _ x hx
theorem eG.front{I:Nat→Nat→Prop}{e:Ty}{l:List e.den}{cs:List Value}{n:Nat}(h:eG w I e l cs)(hn:l.length*e.size≤n)(hc:n≤cs.length):eG w I e l (cs.take n):=by
 intro i x hx
 have hi:i<l.length:=(List.getElem?_eq_some_iff.1 hx).1
 have hm:(i+1)*e.size≤l.length*e.size:=Nat.mul_le_mul_right _ hi
 have:(((cs.take n)++cs.drop n).drop (i*e.size)).take e.size=((cs.take n).drop (i*e.size)).take e.size:=mL (by rw[List.length_take];omega)
 rw[←this,List.take_append_drop]
 exact h i x hx
theorem Yv{I:Nat→Nat→Prop}{e:Ty}{m:List e.den}{v:Value}{tx t0 e':TypeId}(hk0:(∃e',P.underlying tx=some (.slice e'))∨P.underlying tx=some .string)(hk:P.underlying t0=some (.slice e'))(h:zh w I e m v) :
  ∃news,Src P e.size tx v m.length news w∧eG w I e m news:=by
 suffices ∃news,Src P e.size t0 v m.length news w∧eG w I e m news by
  obtain⟨news,n1,n2⟩:=this
  exact⟨news,⟨hk0,n1.len,n1.cells,n1.cellsD,n1.newsLen,n1.one⟩,n2⟩
 rcases h with ⟨rfl,base,cap,r1,r2,r3⟩|⟨blk,off,cap,r1,r2,r3,r4⟩
 ·refine⟨[],?_,fun i x hx=>by cases hx⟩
  rcases r3 with rfl|⟨blk,off,rfl⟩
  ·rw[r1]
   cases base with
   | none=>exact Src.ofNil w hk 0
   | some ad=>exact Src.ofSlice w hk ad 0 0 [] (by simp) (fun j u hj=>by cases hj) (fun u hu=>by cases hu)
  ·rw[r1];exact Src.ofSlice w hk _ 0 cap [] (by simp) (fun j u hj=>by cases hj) (fun u hu=>by cases hu)
 ·obtain⟨news,n1,n2,n3,n4⟩:=Ch (w:=w) r4
  refine⟨news,?_,n4⟩
  rw[r1]
  exact Src.ofSlice w hk _ m.length cap news n1 (fun j u hj=>by rw[addr_add];exact n2 j u hj) n3
theorem Yw{I:Nat→Nat→Prop}{s:List UInt8}{tx:TypeId}(hk:(∃e',P.underlying tx=some (.slice e'))∨P.underlying tx=some .string) :
  ∃news,Src P 1 tx (.string ⟨s.toArray⟩) (ax s).length news w∧eG w I (.int .u8) (ax s:List Int) news:=by
 have hlen:(ax s).length=(⟨s.toArray⟩:ByteArray).size:=by simp[ax,ByteArray.size]
 refine⟨byteCells ⟨s.toArray⟩,by rw[hlen];exact⟨hk,fun _=>rfl,firstCells_string _ w,firstCells_string _ w.drew,by rw[byteCells_length,Nat.mul_one],fun u hu=>by
  obtain⟨_,_,rfl⟩:=List.mem_map.1 hu
  rfl⟩,fun i x hx=>?_⟩
 have hx':(ax s)[i]?=some x:=hx
 simp only[ax,List.getElem?_map] at hx'
 cases hb:s[i]? with
 | none=>rw[hb] at hx';cases hx'
 | some b =>
   rw[hb] at hx'
   obtain rfl:(b.toNat:Int)=x:=Option.some.inj hx'
   refine⟨?_,MH b⟩
   apply List.ext_getElem?
   intro j
   rw[List.getElem?_take]
   split
   ·rename_i hj
    obtain rfl:j=0:=by simp[Ty.size] at hj;exact hj
    rw[List.getElem?_drop]
    simp[byteCells,Ty.size,hb]
   ·rename_i hj
    rw[List.getElem?_eq_none (by simp[Ty.size] at hj⊢;omega)]
theorem zk{I:Nat→Nat→Prop}{t tx ty eZ:TypeId}{e:Ty}{l m:List e.den}{base:Option Addr}{sCap:Nat}{olds news:List Value}{x:Value}(ht:P.underlying t=some (.slice eZ))(he:Den P e eZ)(hb:ET P eZ=true)
  (hold:(Builtin.firstCells e.size l.length (.slice base l.length sCap)).run P w.drew=.ok olds.toArray w.drew) (hol:olds.length=l.length*e.size) (ho:eG w I e l olds)
  (hs:Src P e.size tx x m.length news w) (hn:eG w I e m news) (hg:sCap<l.length+m.length) (hf:l.length+m.length≤4294967296) :
  ∃(cap:Nat) (cells:Array Value),(Builtin.append_ #[t,tx] ty #[.slice base l.length sCap,x]).run P w=.ok (.slice (some ⟨w.heap.size,0,none⟩) (l.length+m.length) cap) (w.drew.alloc (.cells cells eZ)) ∧
   l.length+m.length≤cap∧cap≤maxLen∧cells.size=cap*e.size∧eG w I e (l++m) cells.toList:=by
 obtain⟨ie,ze,e1,e2,e3,e4⟩:=he.info
 have hby:=zj hb e1
 have hfit:=growslice_fits (need:=l.length+m.length) (old:=sCap) (bytes:=ie.bytes) hg (by
  have:(l.length+m.length)*ie.bytes≤4294967296*32768:=Nat.mul_le_mul hf hby
  omega)
 have hrun:=run_append_grow_src (P:=P) w t tx ty eZ ie ze ht e1 e3 base l.length sCap olds (by rw[e2];exact hold) x m.length news (by rw[e2];exact hs) hg (by omega) hfit
 have hge:=grownCap_ge w (l.length+m.length) sCap eZ
 have hle:=grownCap_le_maxLen w (l.length+m.length) sCap eZ (by have:=Cj;omega)
 have hzl:ze.cells.size=e.size:=by rw[←dM e,←e4];simp
 refine⟨_,_,hrun,hge,hle,?_,?_⟩
 ·have hnl:=hs.newsLen
  have hsz:(Builtin.zeroCells ze.cells (grownCap w (l.length+m.length) sCap eZ-(l.length+m.length))).size=(grownCap w (l.length+m.length) sCap eZ-(l.length+m.length))*e.size:=by
   simp[Builtin.zeroCells,hzl]
  rw[Array.size_append,hsz]
  simp only[List.size_toArray,List.length_append,hol,hnl]
  rw[←Nat.add_mul,←Nat.add_mul]
  congr 1;omega
 ·rw[Array.toList_append]
  exact ho.append hn hol hs.newsLen
theorem bE.grow{mem:Nat→Option bU}(h:bE B γ mem w){b:Nat}{bx:bU}(hb:mem b=some bx){e:Ty}{l l':List e.den}(bK:bx.buf=true)(hval:bx.val=.data (.slice e) l){blk cap:Nat}(hl:γ.loc b=some (blk,cap))
  {cur cur':Array Value} {t:TypeId} {fr:Nat×Nat} (hg:w.heap[blk]?=some (.cells cur t fr)) (HW:X2 e cur fr) (iq:bx.tid=0∨t=bx.tid) (hs:cur'.size=cur.size) (hsame:∀o,o<l.length*e.size→cur'[o]?=cur[o]?)
  (he:0<e.size) (hle:l.length≤l'.length) (hcap:l'.length≤cap) (hmax:cap≤maxLen) (hsz:cur.size=cap*e.size) (hel:eG w γ.I e l' cur'.toList) :
  let gu:bU:={ bx with val:=.data (.slice e) l',aC:=bx.aC+1 }
  bE B γ (cE mem b gu) (w.setRow blk cur')∧Ext B γ mem w γ (cE mem b gu) (w.setRow blk cur'):=by
 intro gu
 have hf:=h.fresh b blk cap (by rw[hb];simp) hl
 have hblk:=setRow_heap w blk cur cur' t fr hg
 have vB:∀i,i≠blk→(w.setRow blk cur').heap[i]?=w.heap[i]?:=fun i hi=>setRow_other w blk i cur' (fun e=>hi e)
 have hrow:=bU.dH bK hval
 have hx:Ext B γ mem w γ (cE mem b gu) (w.setRow blk cur') :=
  { below:=⟨rfl,rfl,rfl,by simp,fun i hi=>vB i (fun e=>hi (by rw[e];exact hf.1))⟩
    I:=fun _ _ x=>x
    pO:=fun _ _ x=>.inl x
    cells:=fun c o x=>by
     by_cases e':c=blk
     ·subst e'
      have:=(h.sep b bx c cap o hb hl x).2 bK e l.length hrow
      rw[cell_of_heap hblk,cell_of_heap hg]
      exact hsame o this
     ·exact cR (vB c e')
    boxes:=fun c cx hc=>by
     by_cases e':c=b
     ·subst e'
      obtain rfl:cx=bx:=Option.some.inj (hc.symm.trans hb)
      exact⟨gu,bA _ _,Nat.le_succ _,fun k=>absurd k (by simp[gu])⟩
     ·exact⟨cx,by rw[aP _ e'];exact hc,Nat.le_refl _,fun _=>⟨rfl,rfl,rfl⟩⟩ }
 refine⟨?_,hx⟩
 exact
  { bg:=h.C8 hx
    base:=by have:=h.base;simpa using this
    boxes:=fun c cx hc=>by
     by_cases e':c=b
     ·subst e'
      rw[bA] at hc
      obtain rfl:=Option.some.inj hc
      unfold cP
      simp only[gu,bK]
      exact⟨e,l',rfl,he,.inr ⟨blk,cap,cur',t,fr,hl,hblk,HW.same hs,iq,hcap,hmax,by rw[hs];exact hsz,fun i x hi=>bG.mono hx.I hx.cells (hel i x hi)⟩⟩
     ·rw[aP _ e'] at hc
      refine(h.boxes c cx hc).keep hx rfl fun dF k' hl'=>vB dF fun e2=>e' ?_
      subst e2
      exact h.inj c b dF k' cap (by rw[hc];simp) (by rw[hb];simp) hl' hl
    inj:=fun c d dF k1 k2 hc hd h1 h2=>h.inj c d dF k1 k2 (by
     by_cases e:c=b
     ·subst e;rw[hb];simp
     ·rwa [aP _ e] at hc) (by
     by_cases e:d=b
     ·subst e;rw[hb];simp
     ·rwa [aP _ e] at hd) h1 h2
    fresh:=fun c dF k' hc h1=>by
     have:=h.fresh c dF k' (by
      by_cases e:c=b
      ·subst e;rw[hb];simp
      ·rwa [aP _ e] at hc) h1
     exact⟨this.1,by simpa using this.2⟩
    sU:=fun dF off hi=>by have:=h.sU dF off hi;simpa using this
    sep:=fun c cx dF k' off hc h1 hi=>by
     by_cases e':c=b
     ·subst e'
      rw[bA] at hc
      obtain rfl:=Option.some.inj hc
      obtain⟨s1,s2⟩:=h.sep c bx dF k' off hb h1 hi
      refine⟨s1,fun _ u n hr=>?_⟩
      have hr2:gu.row=some (e,l'.length):=bU.dH (bx:=gu) bK rfl
      rw[hr2] at hr
      obtain⟨rfl,rfl⟩:=Prod.mk.inj (Option.some.inj hr)
      have:=s2 bK e l.length hrow
      exact Nat.lt_of_lt_of_le this (Nat.mul_le_mul_right _ hle)
     ·rw[aP _ e'] at hc
      exact h.sep c cx dF k' off hc h1 hi }
theorem VW(hm:bE B γ σ.mem w){e:Ty}{m:List e.den}{x:aS}{v:Value}{tx t0 e':TypeId}(hk0:(∃e',P.underlying tx=some (.slice e'))∨P.underlying tx=some .string)(hk:P.underlying t0=some (.slice e'))
  (hv:cw γ σ.mem w x .val [v]) (h:tV e σ x=some m):∃news,Src P e.size tx v m.length news w∧eG w γ.I e m news:=by
 unfold tV at h
 split at h
 ·rename_i t
  obtain⟨q,hq⟩:=ku h
  subst q;subst hq
  obtain⟨ev,_⟩:=vC hv
  rw[ev]
  exact Yw hk0
 ·exact Yv hk0 hk (qF hm hv h)
theorem xJ{α:Type}{c:Bool}{t:Tree α}{y:α}(h:(bif c then .fail else t).run=some y):c=false∧t.run=some y:=by
 cases c with
 | true=>cases h
 | false=>exact⟨rfl,h⟩
theorem pS{base:Option Addr}{t tx ty eZ:TypeId}{size:Nat}{x:Value}{news:List Value}(ht:P.underlying t=some (.slice eZ))(hsz:(Go.sizeOf eZ).run P w=.ok size w)(hs:Src P size tx x 0 news w) :
  (Builtin.append_ #[t,tx] ty #[.slice base 0 0,x]).run P w=.ok (.slice base 0 0) w:=by
 cases base with
 | none=>rcases hs.kind with ⟨e',hk⟩|hk<;>simp[Builtin.append_,run_underlying ht,run_underlying hk,hsz,hs.len,hs.cells]
 | some ad =>
   have hn:news=[]:=by have:=hs.newsLen;simpa using this
   subst hn
   rcases hs.kind with ⟨e',hk⟩|hk<;>simp[Builtin.append_,run_underlying ht,run_underlying hk,hsz,hs.len,hs.cells,storeCells]
theorem A3(size:Nat)(base:Option Addr):(Builtin.firstCells size 0 (.slice base 0 0)).run P w=.ok #[] w:=by
 cases base with
 | none=>exact run_firstCells_none w size 0 0 0
 | some ad=>exact run_firstCells_some w size 0 ad 0 0 [] (by simp) (fun j v hj=>by cases hj)
theorem jS{t tx ty eZ:TypeId}{size:Nat}{x:Value}{news:List Value}{n sLen sCap blk:Nat}{cur:Array Value}{tt:TypeId}{fr:Nat×Nat}(ht:P.underlying t=some (.slice eZ))(hsz:(Go.sizeOf eZ).run P w=.ok size w)
  (hs:Src P size tx x n news w) (hg:w.heap[blk]?=some (.cells cur tt fr)) (HW:ld cur fr) (hroom:sLen+n≤sCap) (hle:sLen*size+news.length≤cur.size) :
  (Builtin.append_ #[t,tx] ty #[.slice (some ⟨blk,0,none⟩) sLen sCap,x]).run P w=.ok (.slice (some ⟨blk,0,none⟩) (sLen+n) sCap) (w.setRow blk (splice cur.toList (sLen*size) news).toArray):=by
 have hst:=dn (P:=P) blk (sLen*size) tt fr news 0 cur w hg HW (by omega) hs.one
 simp only[Nat.add_zero] at hst
 rcases hs.kind with ⟨e',hk⟩|hk<;>simp[Builtin.append_,run_underlying ht,run_underlying hk,hsz,hs.len,hroom,hs.cells,addr_add,hst]
theorem Ck{cs es:List Value}{k o:Nat}(h:o<k)(hk:k≤cs.length):(splice cs k es)[o]?=cs[o]?:=by
 rw[splice,List.append_assoc,List.getElem?_append_left (by rw[List.length_take];omega),List.getElem?_take,if_pos h]
theorem E2(hc:fC P cx){nb:Nat}{t tx ty:TypeId}{s x:Operand}(h:cX B N γ σ a w)(hd:∀k,d=some k→k<N)(hk0:(∃e',P.underlying tx=some (.slice e'))∨P.underlying tx=some .string)
  (hr:(gJ cx nb d t (cJ σ s) (cJ σ x) σ).run=some σ'):oJ P B N γ σ a w d (Builtin.append_ #[t,tx] ty #[a.eval s,a.eval x]) σ':=by
 have hvs:=h.cJ s
 have Yu:=h.cJ x
 unfold gJ at hr
 split at hr
 case h_2=>exact absurd hr (by intro k;cases k)
 rename_i _ _ k e hT
 obtain⟨eZ,f1,f2,f3,f4⟩:=(hc.T _ _ hT).slice
 have hsz:=f2.sizeOf w
 split at hr
 case h_2=>exact absurd hr (by intro k;cases k)
 rename_i m hm
 have hm:tV e σ (cJ σ x)=some m:=hm
 obtain⟨news,n1,n2⟩:=VW h.ok hk0 f1 Yu hm
 split at hr
 ·rename_i hs
  rw[hs] at hvs
  obtain VE:a.eval s=_:=by simpa [cw] using hvs
  obtain⟨hf,hr2⟩:=cD hr
  have hf:m.length≤4294967296:=Dj hf
  obtain⟨aC,bt,jG⟩:=dX hr2
  obtain rfl:=Option.some.inj jG
  rw[VE]
  rcases Nat.eq_zero_or_pos m.length with h0|h0
  ·obtain rfl:m=[]:=List.length_eq_zero_iff.1 h0
   obtain⟨m1,m2⟩:=h.ok.HZ (b:=nb+k) (tid:=0) bt f4
   refine⟨_,_,_,pS f1 hsz n1,h.step m2 m1 (hd k rfl) ?_,m2⟩
   exact⟨⟨_,rfl,rfl⟩,gz (bA _ _) rfl ⟨e,0,rfl,rfl,.inl ⟨by simp[bI],rfl⟩⟩⟩
  ·obtain⟨cap,cells,g1,g2,g3,g4,g5⟩:=zk (I:=γ.I) (ty:=ty) (l:=([]:List e.den)) (base:=none) (sCap:=0) (olds:=[]) f1 f2 f3 (by simpa using run_firstCells_none w.drew e.size 0 0 0) (by simp) (fun i x hx=>by cases hx) n1 n2
    (by simpa using h0) (by simpa using hf)
   simp only[List.length_nil,Nat.zero_add,List.nil_append] at g1 g2 g5
   obtain⟨m1,m2⟩:=h.ok.My (b:=nb+k) (e:=e) (l:=m) (tid:=0) (aC:=aC) (cap:=cap) bt f4 ((tZ.refl B w).drew.alloc h.ok.base _) (cK w.drew _) (heap_alloc_new w.drew _) (wD _ _) (.inl rfl) g2 g3 g4 g5
   refine⟨_,_,_,g1,h.step m2 m1 (hd k rfl) ?_,m2⟩
   exact wG (bx:={ val:=.data (.slice e) m,tid:=0,buf:=true,ro:=false,lk:=false,aC }) (e:=e) (n:=m.length) rfl rfl
 ·rename_i b aC hs
  rw[hs] at hvs
  split at hr
  case h_2=>exact absurd hr (by intro k;cases k)
  rename_i bx l hb hl
  obtain⟨gu,hb',bt,bK,mH⟩:∃bx,σ.mem b=some bx∧bx.aC=aC∧bx.buf=true∧bx.val=.data (.slice e) l:=by
   rcases lR hl with q|⟨q,_⟩|⟨b',T9,gu,q,h1,h2,h3,h4⟩|⟨_,_,_,_,_,q,_⟩
   ·cases q
   ·cases q
   ·cases q;exact⟨gu,h1,h2,h3,h4⟩
   ·cases q
  obtain rfl:bx=gu:=Option.some.inj (hb.symm.trans hb')
  ·obtain⟨hlk,kD⟩:=xJ hr
   obtain⟨hf,hr2⟩:=cD kD
   obtain rfl:=Option.some.inj hr2
   have hf:l.length+m.length≤4294967296:=by
    have:fits (((l.length+m.length:Nat)):Int)=true:=by rw[←hf];simp[plus,len]
    exact Dj this
   have iq:bx.tid=0∨eZ=bx.tid:=by
    simp only[Bool.or_eq_false_iff,Bool.not_eq_false'] at hlk
    have h2:=hlk.2
    unfold ZW at h2
    simp only[Bool.or_eq_true] at h2
    rcases h2 with h2|h2
    ·exact .inl (Nat.eq_of_beq_eq_true h2)
    ·split at h2
     ·rename_i e' he'
      have:=hc.els _ _ he'
      rw[f1] at this
      have h4:eZ=e':=by injection this with this;injection this
      exact .inr (h4.trans (Nat.eq_of_beq_eq_true h2))
     ·cases h2
   subst bt
   obtain⟨e2,n2',g1,g2,g3⟩:=bq hb rfl hvs.2
   rw[bU.dH bK mH] at g2
   obtain⟨rfl,rfl⟩:=Prod.mk.inj (Option.some.inj g2)
   have jj:=h.ok.boxes b bx hb
   rw[cP,bK] at jj
   obtain⟨e3,l3,q1,q2,q3⟩:=jj
   rw[mH] at q1
   cases q1
   have Ri:(app (α:=e.den) l m).length=l.length+m.length:=List.length_append
   rcases g3 with ⟨g3,g4⟩|⟨blk,cap,g3,g4⟩
   ·obtain VE:a.eval s=_:=by simpa using g4
    have hl0:l=[]:=by
     rcases q3 with ⟨_,q3⟩|⟨blk,cap,cur,tid,fr,q3,_⟩
     ·exact q3
     ·rw[g3] at q3;cases q3
    subst hl0
    rw[VE]
    rcases Nat.eq_zero_or_pos m.length with h0|h0
    ·obtain rfl:m=[]:=List.length_eq_zero_iff.1 h0
     have rS:cP (bI γ b none) (cE σ.mem b { bx with val:=.data (.slice e) ([]:List e.den),aC:=bx.aC+1 }) w b { bx with val:=.data (.slice e) ([]:List e.den),aC:=bx.aC+1 }:=by
      unfold cP
      simp only[bK]
      exact⟨e,[],rfl,f4,.inl ⟨by simp[bI],rfl⟩⟩
     have Lv:∀dh,σ.mem b=some dh→dh.aC<bx.aC+1:=fun dh h0=>by rw[hb] at h0;obtain rfl:=Option.some.inj h0;omega
     have m1:=h.ok.add (L:=none) Lv (tZ.refl B w) (fun _ _=>rfl) (fun blk k e=>by cases e) rS
     have m2:=tc (L:=none) h.ok (bx:={ bx with val:=.data (.slice e) ([]:List e.den),aC:=bx.aC+1 }) Lv (tZ.refl B w) (fun _ _=>rfl)
     refine⟨_,_,_,pS f1 hsz n1,h.step m2 m1 (hd k rfl) ?_,m2⟩
     exact⟨⟨_,rfl,rfl⟩,gz (bA _ _) rfl ⟨e,0,bK,bU.dH (bx:={ bx with val:=.data (.slice e) ([]:List e.den),aC:=bx.aC+1 }) bK rfl,.inl ⟨by simp[bI],rfl⟩⟩⟩
    ·obtain⟨cap,cells,j1,j2,j3,j4,j5⟩:=zk (I:=γ.I) (ty:=ty) (l:=([]:List e.den)) (base:=none) (sCap:=0) (olds:=[]) f1 f2 f3 (by simpa using A3 (w:=w.drew) e.size none) (by simp) (fun i x hx=>by cases hx) n1 n2
      (by simpa using h0) (by simpa using hf)
     have Lv:∀dh,σ.mem b=some dh→dh.aC<bx.aC+1:=fun dh h0=>by rw[hb] at h0;obtain rfl:=Option.some.inj h0;omega
     have hw:tZ B w (w.drew.alloc (.cells cells eZ)):=(tZ.refl B w).drew.alloc h.ok.base _
     have m2:=tc (L:=some (w.heap.size,cap)) h.ok (bx:={ bx with val:=.data (.slice e) (app (α:=e.den) [] m),aC:=bx.aC+1 }) Lv hw (cK w.drew _)
     have rS:cP (bI γ b (some (w.heap.size,cap))) (cE σ.mem b { bx with val:=.data (.slice e) (app (α:=e.den) [] m),aC:=bx.aC+1 }) (w.drew.alloc (.cells cells eZ)) b { bx with val:=.data (.slice e) (app (α:=e.den) [] m),aC:=bx.aC+1 }:=by
      unfold cP
      simp only[bK]
      exact⟨e,_,rfl,f4,.inr ⟨w.heap.size,cap,cells,eZ,(0,0),by simp[bI],heap_alloc_new w.drew _,wD _ _,iq,by rw[Ri];exact j2,j3,j4,fun i x hi=>bG.mono m2.I m2.cells (j5 i x hi)⟩⟩
     have m1:=h.ok.add (L:=some (w.heap.size,cap)) Lv hw (cK w.drew _) (fun blk k e=>by obtain⟨rfl,rfl⟩:=Prod.mk.inj (Option.some.inj e);exact⟨Nat.le_refl _,(Array.getElem?_eq_some_iff.1 (heap_alloc_new w.drew _)).1⟩) rS
     refine⟨_,_,_,j1,h.step m2 m1 (hd k rfl) ?_,m2⟩
     exact wG (bx:={ bx with val:=.data (.slice e) (app (α:=e.den) [] m),aC:=bx.aC+1 }) (e:=e) (n:=List.length (α:=e.den) []+m.length) bK (by rw[←Ri];exact bU.dH (bx:={ bx with val:=.data (.slice e) (app (α:=e.den) [] m),aC:=bx.aC+1 }) bK rfl)
   ·obtain VE:a.eval s=_:=by simpa using g4
    rw[VE]
    rcases q3 with ⟨q3,_⟩|⟨dF,cap',cur,tid,fr,q3,q4,q5,abI,q6,q7,q8,q9⟩
    ·rw[g3] at q3;cases q3
    rw[g3] at q3
    obtain⟨rfl,rfl⟩:=Prod.mk.inj (Option.some.inj q3)
    have hcl:cur.toList.length=cap*e.size:=by simpa using q8
    have hlc:l.length*e.size≤cap*e.size:=Nat.mul_le_mul_right _ q6
    rcases Nat.lt_or_ge cap (l.length+m.length) with hgt|hle
    ·have hfc:=run_firstCells_some (P:=P) w.drew e.size l.length ⟨blk,0,none⟩ l.length cap (cur.toList.take (l.length*e.size)) (by rw[List.length_take];omega) (fun j v hj=>by
      rw[addr_add]
      show w.cell? ⟨blk,0+j,none⟩=some v
      rw[cell_of_heap q4]
      rw[List.getElem?_take] at hj
      split at hj
      ·simpa using hj
      ·cases hj)
     obtain⟨cap2,cells,j1,j2,j3,j4,j5⟩:=zk (I:=γ.I) (ty:=ty) (l:=l) (base:=some ⟨blk,0,none⟩) (sCap:=cap) f1 f2 f3 hfc (by rw[List.length_take];omega) (eG.front q9 (Nat.le_refl _) (by omega)) n1 n2 hgt hf
     have Lv:∀dh,σ.mem b=some dh→dh.aC<bx.aC+1:=fun dh h0=>by rw[hb] at h0;obtain rfl:=Option.some.inj h0;omega
     have hw:tZ B w (w.drew.alloc (.cells cells eZ)):=(tZ.refl B w).drew.alloc h.ok.base _
     have m2:=tc (L:=some (w.heap.size,cap2)) h.ok (bx:={ bx with val:=.data (.slice e) (app (α:=e.den) l m),aC:=bx.aC+1 }) Lv hw (cK w.drew _)
     have rS:cP (bI γ b (some (w.heap.size,cap2))) (cE σ.mem b { bx with val:=.data (.slice e) (app (α:=e.den) l m),aC:=bx.aC+1 }) (w.drew.alloc (.cells cells eZ)) b { bx with val:=.data (.slice e) (app (α:=e.den) l m),aC:=bx.aC+1 }:=by
      unfold cP
      simp only[bK]
      exact⟨e,_,rfl,f4,.inr ⟨w.heap.size,cap2,cells,eZ,(0,0),by simp[bI],heap_alloc_new w.drew _,wD _ _,iq,by rw[Ri];exact j2,j3,j4,fun i x hi=>bG.mono m2.I m2.cells (j5 i x hi)⟩⟩
     have m1:=h.ok.add (L:=some (w.heap.size,cap2)) Lv hw (cK w.drew _) (fun blk k e=>by obtain⟨rfl,rfl⟩:=Prod.mk.inj (Option.some.inj e);exact⟨Nat.le_refl _,(Array.getElem?_eq_some_iff.1 (heap_alloc_new w.drew _)).1⟩) rS
     refine⟨_,_,_,j1,h.step m2 m1 (hd k rfl) ?_,m2⟩
     exact wG (bx:={ bx with val:=.data (.slice e) (app (α:=e.den) l m),aC:=bx.aC+1 }) (e:=e) (n:=l.length+m.length) bK (by rw[←Ri];exact bU.dH (bx:={ bx with val:=.data (.slice e) (app (α:=e.den) l m),aC:=bx.aC+1 }) bK rfl)
    ·have hnl:=n1.newsLen
     have hmul:(l.length+m.length)*e.size≤cap*e.size:=Nat.mul_le_mul_right _ hle
     rw[Nat.add_mul] at hmul
     have hlen:l.length*e.size+news.length≤cur.toList.length:=by rw[hnl,hcl];exact hmul
     have hrun:=jS (P:=P) (t:=t) (tx:=tx) (ty:=ty) (sCap:=cap) f1 hsz n1 q4 q5.th hle (by simpa using hlen)
     have VT:(splice cur.toList (l.length*e.size) news).toArray.size=cur.size:=by have:=bO hlen;simpa using this
     obtain⟨m1,m2⟩:=h.ok.grow hb bK mH g3 q4 q5 abI (cur':=(splice cur.toList (l.length*e.size) news).toArray) (l':=app (α:=e.den) l m) VT (fun o ho=>by
      have:=Ck (es:=news) ho (by omega:l.length*e.size≤cur.toList.length)
      simpa using this) f4 (by rw[Ri];omega) (by rw[Ri];exact hle) q7 q8 (by
      have:=(eG.front q9 (Nat.le_refl _) (by omega:l.length*e.size≤cur.toList.length)).append (rest:=cur.toList.drop (l.length*e.size+news.length)) n2 (by rw[List.length_take];omega) hnl
      exact this)
     refine⟨_,_,γ,hrun,h.step m2 m1 (hd k rfl) ?_,m2⟩
     exact⟨⟨_,rfl,rfl⟩,gz (bA _ _) rfl ⟨e,l.length+m.length,bK,by rw[←Ri];exact bU.dH (bx:={ bx with val:=.data (.slice e) (app (α:=e.den) l m),aC:=bx.aC+1 }) bK rfl,.inr ⟨blk,cap,g3,rfl⟩⟩⟩
 ·exact absurd hr (by intro k;cases k)
end
end Go.Ge
namespace Go.Ge
set_option linter.unusedVariables false
set_option linter.unusedSimpArgs false
open RowKit
def gZ(w:World)(I:Nat→Nat→Prop):(A:Ty)→A.den→List Value→Prop
 | .pair t r,x,vs=>∃cs rest,vs=cA t cs::rest∧bG w I t x.1 cs∧gZ w I r x.2 rest
 | .unit,_,vs=>vs=[]
 | _,_,_=>False
def lT(w:World)(I:Nat→Nat→Prop)(R:Ty)(y:R.den)(v:Value):Prop:=cw ⟨I,fun _=>none⟩ (fun _=>none) w (tU R y) .val [v]
structure Holds (P:Program) (G:iZ) (f:Nat) (c:dG):Prop where
 body:∃fn code,P.funcs[f]?=some fn∧(fn.name == "runtime.NumGoroutine")=false∧fn.body=some code
 calls:∀(I:Nat→Nat→Prop) (w:World) (args:Array Value) (x:c.A.den) (y:c.R.den),(∀b o,I b o→b<w.heap.size)→ES G w→gZ w I c.A x args.toList→c.spec x=some y →
  Calls P f args w fun e w'=>∃v I',e=.returned v∧Below w.heap.size w w'∧(∀b o,I b o→I' b o)∧(∀b o,I' b o→b<w'.heap.size)∧(∀b o,I' b o→¬I b o→w.heap.size≤b)∧lT w' I' c.R y v
def Ie(P:Program)(G:iZ)(name:String)(c:dG):Prop :=
 ∀(I:Nat→Nat→Prop) (w:World) (v:Value) (xs:List Value) (x:c.A.den) (y:c.R.den),(∀b o,I b o→b<w.heap.size)→ES G w→gZ w I c.A x (v::xs)→c.spec x=some y →
  ∃f u,(callMethod v name xs.toArray).run P w=(callFunc f (u::xs).toArray).run P w∧(∃fn code,P.funcs[f]?=some fn∧(fn.name == "runtime.NumGoroutine")=false∧fn.body=some code) ∧
  Calls P f (u::xs).toArray w fun e w'=>∃v I',e=.returned v∧Below w.heap.size w w'∧(∀b o,I b o→I' b o)∧(∀b o,I' b o→b<w'.heap.size)∧(∀b o,I' b o→¬I b o→w.heap.size≤b)∧lT w' I' c.R y v
theorem bE.far{B:qz}{γ:Gh}{mem:Nat→Option bU}{w w':World}(h:bE B γ mem w)(hw:Below w.heap.size w w'){I':Nat→Nat→Prop}(hI:∀b o,γ.I b o→I' b o)(Z4:∀b o,I' b o→b<w'.heap.size)
  (hnew:∀b o,I' b o→¬γ.I b o→w.heap.size≤b):bE B ⟨I',γ.loc⟩ mem w'∧Ext B γ mem w ⟨I',γ.loc⟩ mem w':=by
 have hx:Ext B γ mem w ⟨I',γ.loc⟩ mem w' :=
  { below:=.of ⟨hw.os,hw.tape,hw.output,hw.size,fun k hk=>hw.block k (Nat.lt_of_lt_of_le hk h.base)⟩
    I:=hI
    pO:=fun b o x=>by
     by_cases hi:γ.I b o
     ·exact .inl hi
     ·exact .inr (.inl (Nat.le_trans h.base (hnew b o x hi)))
    cells:=fun b o hi=>cR (hw.block b (h.sU b o hi))
    boxes:=fun b bx hb=>⟨bx,hb,Nat.le_refl _,fun _=>⟨rfl,rfl,rfl⟩⟩ }
 refine⟨?_,hx⟩
 exact
  { bg:=h.C8 hx
    base:=Nat.le_trans h.base hw.size
    boxes:=fun b bx hb=>(h.boxes b bx hb).keep hx rfl fun blk k hl=>hw.block blk (h.fresh b blk k (by rw[hb];simp) hl).2
    inj:=h.inj
    fresh:=fun b blk k hb hl=>by have:=h.fresh b blk k hb hl;exact⟨this.1,Nat.lt_of_lt_of_le this.2 hw.size⟩
    sU:=Z4
    sep:=fun b bx blk k off hb hl hi=>by
     by_cases X3:γ.I blk off
     ·exact h.sep b bx blk k off hb hl X3
     ·have h1:=hnew blk off hi X3
      have h2:=(h.fresh b blk k (by rw[hb];simp) hl).2
      omega }
theorem Ue{w:World}{γ γ':Gh}{mem mem':Nat→Option bU}(hI:∀b o,γ.I b o→γ'.I b o):∀{R:Ty} {y:R.den} {vs:List Value},cw γ mem w (yV R y) .many vs→cw γ' mem' w (yV R y) .many vs:=by
 intro R
 induction R with
 | pair t r HN ihr =>
   intro y vs h
   obtain⟨v,rest,h0,⟨cs,h1,h2⟩,h3⟩:=h
   exact⟨v,rest,h0,⟨cs,bG.mono hI (fun _ _ _=>rfl) h1,h2⟩,ihr h3⟩
 | _=>intro y vs h;exact h
theorem Dl(R:Ty)(y:R.den):(∃t,∃q:R=.pair t .unit,tU R y=.data t (show(Ty.pair t .unit).den from q▸y).1)∨tU R y=.Ca (yV R y):=by
 cases R with
 | pair t r =>
   cases r with
   | unit=>exact .inl ⟨t,rfl,rfl⟩
   | _=>exact .inr rfl
 | _=>exact .inr rfl
theorem lT.rep{w:World}{I:Nat→Nat→Prop}{R:Ty}{y:R.den}{v:Value}(h:lT w I R y v){γ:Gh}{mem:Nat→Option bU}(hI:∀b o,I b o→γ.I b o):cw γ mem w (tU R y) .val [v]:=by
 unfold lT at h
 rcases Dl R y with ⟨t,q,hq⟩|hq
 ·rw[hq] at h⊢
  obtain⟨cs,h1,h2⟩:=h
  exact⟨cs,bG.mono hI (fun _ _ _=>rfl) h1,h2⟩
 ·rw[hq] at h⊢
  obtain⟨arr,h1,h2⟩:=h
  exact⟨arr,h1,Ue hI h2⟩
theorem Ig{w w':World}{γ γ':Gh}{mem mem':Nat→Option bU}:∀{R:Ty} {y:R.den} {vs:List Value},R.flat=true→cw γ mem w (yV R y) .many vs→cw γ' mem' w' (yV R y) .many vs:=by
 intro R
 induction R with
 | pair t r HN ihr =>
   intro y vs hf h
   simp only[Ty.flat,Bool.and_eq_true] at hf
   obtain⟨v,rest,h0,⟨cs,h1,h2⟩,h3⟩:=h
   exact⟨v,rest,h0,⟨cs,bG.flat hf.1 h1,h2⟩,ihr hf.2 h3⟩
 | _=>intro y vs hf h;exact h
theorem lT.flat{w w':World}{I:Nat→Nat→Prop}{R:Ty}{y:R.den}{v:Value}(h:lT w I R y v){γ:Gh}{mem:Nat→Option bU}(hf:R.flat=true):cw γ mem w' (tU R y) .val [v]:=by
 unfold lT at h
 rcases Dl R y with ⟨t,q,hq⟩|hq
 ·rw[hq] at h⊢
  subst q
  simp only[Ty.flat,Bool.and_eq_true] at hf
  obtain⟨cs,h1,h2⟩:=h
  exact⟨cs,bG.flat hf.1 h1,h2⟩
 ·rw[hq] at h⊢
  obtain⟨arr,h1,h2⟩:=h
  exact⟨arr,h1,Ig hf h2⟩
section
variable {P:Program} {B:qz} {N:Nat} {γ:Gh} {σ σ':St} {a:Act} {w w':World} {d:Option Nat} {cx:Ctx}
theorem zh.adH{I I':Nat→Nat→Prop}{e:Ty}{l:List e.den}{v:Value}(h:zh w I e l v)(hI:∀b o,I b o→I' b o)(hc:∀blk off cap,v=.slice (some ⟨blk,off,none⟩) l.length cap→l≠[]→∀o,I' blk o) :
  bG w I' (.slice e) l [v]:=by
 rcases h with ⟨rfl,base,cap,r1,r2,r3⟩|⟨blk,off,cap,r1,r2,r3,r4⟩
 ·rcases r3 with rfl|⟨blk,off,rfl⟩
  ·exact .inl ⟨⟨base,by rw[r1]⟩,rfl⟩
  ·exact .inr ⟨blk,off,cap,by rw[r1];rfl,Nat.zero_le _,r2,fun i x hx=>by cases hx⟩
 ·refine .inr ⟨blk,off,cap,by rw[r1],r2,r3,fun i x hx=>?_⟩
  obtain⟨es,g1,g2,g3⟩:=r4 i x hx
  exact⟨es,g1,fun j c hj=>⟨g2 j c hj,hc blk off cap r1 (fun e=>by rw[e] at hx;cases hx) _⟩,bG.mono hI (fun _ _ _=>rfl) g3⟩
theorem MJ(hm:bE B γ σ.mem w){e:Ty}{v:aS}{l:List e.den}{blk off n cap:Nat}(hv:cw γ σ.mem w v .val [.slice (some ⟨blk,off,none⟩) n cap])(hl:fV e σ v=some l)(hne:l≠[]) :
  (∃q,v=.data (.slice e) q)∨(B.has blk∧blk<w.heap.size):=by
 rcases lR hl with rfl|⟨rfl,rfl⟩|⟨b,aC,bx,rfl,hb,bt,bK,mH⟩|⟨b,aC,lo,n',bx,rfl,hb,bt,Hv⟩
 ·exact .inl ⟨_,rfl⟩
 ·exact absurd rfl hne
 ·obtain⟨e',k,g1,g2,g3⟩:=bq hb bt hv.2
  rcases g3 with ⟨g3,g4⟩|⟨dF,cap',g3,g4⟩
  ·exfalso
   have jj:=hm.boxes b bx hb
   rw[cP,bK] at jj
   obtain⟨e3,l3,q1,q2,q3⟩:=jj
   rw[mH] at q1
   cases q1
   rcases q3 with ⟨_,q3⟩|⟨_,_,_,_,_,q3,_⟩
   ·exact hne q3
   ·rw[g3] at q3;cases q3
  ·have q1:blk=dF:=by
    have:=List.head_eq_of_cons_eq g4
    injection this with q1 _ _
    injection q1 with q1
    injection q1
   subst q1
   exact .inr (hm.fresh b blk cap' (by rw[hb];simp) g3)
 ·obtain⟨e',k,g2,g3,g4,g5,base,cap',g6,g7,g8,gF,g9⟩:=bq hb bt hv.2
  have g6':=List.head_eq_of_cons_eq g6
  rcases g9 with g9|⟨dF,c,g9,g10⟩
  ·exfalso
   apply hne
   rcases Hv with ⟨_,l0,_,rfl⟩|⟨_,k0,l0,_,rfl⟩<;>simp[sub,g9]
  ·injection g6' with q1 _ _
   rw[g10] at q1
   injection q1 with q1
   injection q1 with q1 _
   subst q1
   exact .inr (hm.fresh b blk c (by rw[hb];simp) g9)
theorem Cl(hm:bE B γ σ.mem w){I':Nat→Nat→Prop}(hI:∀b o,γ.I b o→I' b o)(QN:∀b o,B.has b→b<w.heap.size→I' b o):∀{v:aS} {t:Ty} {x:t.den} {cs:List Value},
  cw γ σ.mem w v .cells cs→qx σ t v=some x→bG w I' t x cs:=by
 have sl:∀{v:aS} {e:Ty} {l:List e.den} {cs:List Value},eN v=1→(∀c,cw γ σ.mem w v .cells [c]→cw γ σ.mem w v .val [c])→(∀t x,v≠.data t x)→cw γ σ.mem w v .cells cs→fV e σ v=some l→bG w I' (.slice e) l cs:=by
  intro v e l cs h1 hval hnd hc hl
  obtain⟨c,rfl⟩:=FR hc h1
  have hv:=hval c hc
  refine(qF hm hv hl).adH hI fun blk off cap e0 hne o=>?_
  subst e0
  rcases MJ hm hv hl hne with ⟨q,hq⟩|⟨h2,h3⟩
  ·exact absurd hq (hnd _ _)
  ·exact QN blk o h2 h3
 intro v
 induction v with
 | data u y =>
   intro t x cs hc hl
   have key:(∃q:u=t,x=q▸y):=by
    cases t with
    | slice e =>
      rcases lR (show fV e σ (.data u y)=some x from hl) with g|⟨g,_⟩|⟨_,_,_,g,_⟩|⟨_,_,_,_,_,g,_⟩
      ·injection g with g1 g2;subst g1;exact⟨rfl,(eq_of_heq g2).symm⟩
      ·cases g
      ·cases g
      ·cases g
    | _=>exact Ty.jP hl
   obtain⟨q,hq⟩:=key
   subst q;subst hq
   exact bG.mono hI (fun _ _ _=>rfl) hc
 | mix p q Rb OA =>
   intro t x cs hc hl
   cases t with
   | pair s r =>
     obtain⟨c1,c2,rfl,h1,h2⟩:=hc
     obtain⟨y,z,hp,hq,rfl⟩:=Dg hl
     exact⟨c1,c2,rfl,Rb h1 hp,OA h2 hq⟩
   | slice e=>exact absurd hl (by intro k;cases k)
   | _=>cases hl
 | nH =>
   intro t x cs hc hl
   cases t with
   | slice e=>exact sl (v:=.nH) rfl (fun c k=>k) (fun _ _=>by simp) hc hl
   | _=>cases hl
 | whole b aC =>
   intro t x cs hc hl
   cases t with
   | slice e=>exact sl (v:=.whole b aC) rfl (fun c k=>k) (fun _ _=>by simp) hc hl
   | _=>cases hl
 | part b aC lo n =>
   intro t x cs hc hl
   cases t with
   | slice e=>exact sl (v:=.part b aC lo n) rfl (fun c k=>k) (fun _ _=>by simp) hc hl
   | _=>cases hl
 | rO =>
   intro t x cs hc hl
   obtain rfl:cs=[.nilIface]:=hc
   exact(oQ hl).1 _ _
 | _ =>
   intro t x cs hc hl
   cases t with
   | slice e=>exact absurd hl (by intro k;cases k)
   | _=>cases hl
theorem Ih(hm:bE B γ σ.mem w){I':Nat→Nat→Prop}(hI:∀b o,γ.I b o→I' b o)(QN:∀b o,B.has b→b<w.heap.size→I' b o){v:aS}{t:Ty}{x:t.den}{val:Value}
  (hv:cw γ σ.mem w v .val [val]) (hl:qx σ t v=some x):∃cs,bG w I' t x cs∧val=cA t cs:=by
 have one:∀{v:aS},cw γ σ.mem w v .cells [val]→(∃e,t=.slice e)→qx σ t v=some x→∃cs,bG w I' t x cs∧val=cA t cs:=by
  intro v hc he hl
  obtain⟨e,rfl⟩:=he
  exact⟨[val],Cl hm hI QN hc hl,rfl⟩
 cases v with
 | data u y =>
   obtain⟨cs,h1,h2⟩:=dP.1 hv
   have hc:=Cl hm hI QN (v:=.data u y) (cs:=cs) h1 hl
   refine⟨cs,hc,?_⟩
   rw[h2]
   have:u.isAgg=t.isAgg:=by
    cases t with
    | slice e =>
      rcases lR (show fV e σ (.data u y)=some x from hl) with g|⟨g,_⟩|⟨_,_,_,g,_⟩|⟨_,_,_,_,_,g,_⟩
      ·injection g with g1 g2;rw[g1]
      ·cases g
      ·cases g
      ·cases g
    | _=>obtain⟨q,_⟩:=Ty.jP hl;rw[q]
   unfold cA
   rw[this]
 | mix p q =>
   obtain⟨c1,c2,e1,h1,h2⟩:=hv
   obtain rfl:val=_:=by simpa using e1
   have hc:=Cl hm hI QN (v:=.mix p q) (cs:=c1++c2) ⟨c1,c2,rfl,h1,h2⟩ hl
   refine⟨_,hc,?_⟩
   cases t with
   | pair s r=>rfl
   | slice e=>exact absurd hl (by intro k;cases k)
   | _=>cases hl
 | nH=>cases t with
   | slice e=>exact one hv ⟨e,rfl⟩ hl
   | _=>cases hl
 | whole b aC=>cases t with
   | slice e=>exact one hv ⟨e,rfl⟩ hl
   | _=>cases hl
 | part b aC lo n=>cases t with
   | slice e=>exact one hv ⟨e,rfl⟩ hl
   | _=>cases hl
 | rO =>
   have hv:[val]=[Value.nilIface]:=hv
   obtain rfl:val=.nilIface:=by simpa using hv
   exact⟨[.nilIface],(oQ hl).1 _ _,(oQ hl).2.2.1.symm⟩
 | _=>cases t with
   | slice e=>exact absurd hl (by intro k;cases k)
   | _=>cases hl
def lK(γ:Gh)(mem:Nat→Option bU)(w:World)(vs:List aS)(xs:List Value):Prop:=xs.length=vs.length∧∀(i:Nat) v x,vs[i]?=some v→xs[i]?=some x→cw γ mem w v .val [x]
theorem lK.cons{mem:Nat→Option bU}{v:aS}{vs:List aS}{xs:List Value}(h:lK γ mem w (v::vs) xs):∃x r,xs=x::r∧cw γ mem w v .val [x]∧lK γ mem w vs r:=by
 cases xs with
 | nil=>cases h.1
 | cons x r=>exact⟨x,r,rfl,h.2 0 v x rfl rfl,by simpa using h.1,fun i v' x' h1 h2=>h.2 (i+1) v' x' h1 h2⟩
theorem lK.ext{mem mem':Nat→Option bU}{γ':Gh}{vs:List aS}{xs:List Value}(h:lK γ mem w vs xs)(hx:Ext B γ mem w γ' mem' w'):lK γ' mem' w' vs xs:=⟨h.1,fun i v x h1 h2=>(h.2 i v x h1 h2).ext hx⟩
theorem Kg(hm:bE B γ σ.mem w){I':Nat→Nat→Prop}(hI:∀b o,γ.I b o→I' b o)(QN:∀b o,B.has b→b<w.heap.size→I' b o):∀{A:Ty} {x:A.den} {vs:List aS} {xs:List Value},
  lK γ σ.mem w vs xs→gV σ A vs=some x→gZ w I' A x xs:=by
 intro A
 induction A with
 | pair t r HN ihr =>
   intro x vs xs h hl
   cases vs with
   | nil=>cases hl
   | cons v vs =>
     obtain⟨y,rest,rfl,h1,h2⟩:=h.cons
     simp only[gV] at hl
     split at hl
     ·rename_i p q hp hq
      obtain rfl:=Option.some.inj hl
      obtain⟨cs,c1,c2⟩:=Ih hm hI QN h1 hp
      exact⟨cs,rest,by rw[c2],c1,ihr h2 hq⟩
     ·cases hl
 | unit =>
   intro x vs xs h hl
   cases vs with
   | nil=>exact List.length_eq_zero_iff.1 h.1
   | cons v vs=>cases hl
 | _=>intro x vs xs h hl;cases vs<;>cases hl
theorem gZ.mono{I I':Nat→Nat→Prop}(hI:∀b o,I b o→I' b o)(hw:∀b o,I b o→w'.cell? ⟨b,o,none⟩=w.cell? ⟨b,o,none⟩):∀{A:Ty} {x:A.den} {xs:List Value},gZ w I A x xs→gZ w' I' A x xs:=by
 intro A
 induction A with
 | pair t r HN ihr=>intro x xs h;obtain⟨cs,rest,h0,h1,h2⟩:=h;exact⟨cs,rest,h0,bG.mono hI hw h1,ihr h2⟩
 | _=>intro x xs h;exact h
theorem qV:∀{A:Ty} {x:A.den} {vs:List aS} {xs:List Value} {σ σ':St} {γ:Gh},cX B N γ σ a w→lK γ σ.mem w vs xs→jQ σ A vs=some (x,σ') →
  ∃γ',cX B N γ' σ' a w∧Ext B γ σ.mem w γ' σ'.mem w∧gZ w γ'.I A x xs:=by
 intro A
 induction A with
 | pair t r HN ihr =>
   intro x vs xs σ σ' γ h hv hl
   cases vs with
   | nil=>cases hl
   | cons v vs =>
     obtain⟨y,rest,rfl,h1,h2⟩:=hv.cons
     simp only[jQ] at hl
     split at hl
     ·rename_i p σ1 hp
      split at hl
      ·rename_i q σ2 hq
       obtain⟨rfl,rfl⟩:=Prod.mk.inj (Option.some.inj hl)
       obtain⟨jb,s1,s2,cs,c1,c2⟩:=lS h h1 hp
       obtain c2:y=_:=by simpa using c2
       obtain⟨EW,t1,t2,t3⟩:=ihr s1 (h2.ext s2) hq
       exact⟨EW,t1,s2.trans t2,cs,rest,by rw[c2],bG.mono t2.I t2.cells c1,t3⟩
      ·cases hl
     ·cases hl
 | unit =>
   intro x vs xs σ σ' γ h hv hl
   cases vs with
   | nil=>obtain⟨rfl,rfl⟩:=Prod.mk.inj (Option.some.inj hl);exact⟨γ,h,Ext.refl _ _ _ _,List.length_eq_zero_iff.1 hv.1⟩
   | cons v vs=>cases hl
 | _=>intro x vs xs σ σ' γ h hv hl;cases vs<;>cases hl
def VX(w:World)(I:Nat→Nat→Prop)(t:Ty)(x:t.den)(blk:Nat):Prop:=∃cur tid fr,w.heap[blk]?=some (.cells cur tid fr)∧ld cur fr∧bG w I t x cur.toList
def vE(w:World)(I:Nat→Nat→Prop):(U:Ty)→U.den→List Nat→Prop
 | .pair t U,u,bs=>∃blk r,bs=blk::r∧VX w I t u.1 blk∧vE w I U u.2 r
 | .unit,_,bs=>bs=[]
 | _,_,_=>False
def OD(w:World)(I:Nat→Nat→Prop):List Bool→(A U:Ty)→A.den→List Value→List Nat→Prop
 | [],A,U,_,vs,bs=>A=.unit∧U=.unit∧vs=[]∧bs=[]
 | false::ps,A,U,x,vs,bs=>match A,x with
   | .pair t A,x=>∃cs rest,vs=cA t cs::rest∧bG w I t x.1 cs∧OD w I ps A U x.2 rest bs
   | _,_=>False
 | true::ps,A,U,x,vs,bs=>match U with
   | .pair _ U=>∃blk rest r,vs=.pointer (some ⟨blk,0,none⟩)::rest∧bs=blk::r∧OD w I ps A U x rest r
   | _=>False
structure nx (P:Program) (G:iZ) (f:Nat) (c:AW):Prop where
 body:∃fn code,P.funcs[f]?=some fn∧(fn.name == "runtime.NumGoroutine")=false∧fn.body=some code
 calls:∀(I:Nat→Nat→Prop) (w:World) (args:Array Value) (bs:List Nat) (x:c.A.den) (u:c.U.den) (y:c.R.den×c.U.den),(∀b o,I b o→b<w.heap.size)→ES G w→(∀b Q,G b Q→b∉bs)→OD w I c.ps c.A c.U x args.toList bs→vE w I c.U u bs→bs.Nodup →
  (∀blk∈bs,∀o,¬I blk o)→c.spec (x,u)=some y →
  Calls P f args w fun e w'=>∃v I',e=.returned v∧tZ ⟨w.heap.size,(·∈bs),G⟩ w w'∧(∀b o,I b o→I' b o)∧(∀b o,I' b o→b<w'.heap.size)∧(∀b o,I' b o→¬I b o→w.heap.size≤b)∧lT w' I' c.R y.1 v∧vE w' I' c.U y.2 bs
structure uM (og:Option Nat) (w w':World):Prop where
 os:w'.os=w.os
 tape:w'.tape=w.tape
 output:w'.output=w.output
 size:w.heap.size≤w'.heap.size
 block:∀k,k<w.heap.size→og≠some k→w'.heap[k]?=w.heap[k]?
 cell:∀k o,k<w.heap.size→w'.cell? ⟨k,o,none⟩=w.cell? ⟨k,o,none⟩
def uU(w:World)(I:Nat→Nat→Prop)(e:Ty)(l:List e.den)(L:Option (Nat×Nat))(v:Value):Prop :=
 (L=none∧l=[]∧v=.slice none 0 0)∨∃blk cap cur tid fr,L=some (blk,cap)∧v=.slice (some ⟨blk,0,none⟩) l.length cap∧w.heap[blk]?=some (.cells cur tid fr)∧X2 e cur fr ∧
  l.length≤cap∧cap≤maxLen∧cur.size=cap*e.size∧(∀o,¬I blk o)∧∀(i:Nat) (x:e.den),l[i]?=some x→bG w I e x ((cur.toList.drop (i*e.size)).take e.size)
structure jT (w:World) (I:Nat→Nat→Prop) (X:Nat→Prop) (w':World) (I':Nat→Nat→Prop):Prop where
 below:tZ ⟨w.heap.size,X,xF⟩ w w'
 held:∀b o,I b o→I' b o
 sU:∀b o,I' b o→b<w'.heap.size
 pO:∀b o,I' b o→¬I b o→w.heap.size≤b
def jH(P:Program)(f:Nat):Vz→Prop
 | .VH T=>(∃fn code,P.funcs[f]?=some fn∧(fn.name == "runtime.NumGoroutine")=false∧fn.body=some code) ∧
  ∀(w:World) (b:Nat) (p v:Value) (fr:Nat×Nat),w.heap[b]?=some (.cells #[p,v] T fr)→¬(fr.1≤0∧0<fr.2)→(p=.pointer none∨p=.pointer (some ⟨b,0,none⟩)) →
   Calls P f #[.pointer (some ⟨b,0,none⟩)] w fun e w'=>e=.returned (.tuple #[])∧(w'=w∨w'=w.setRow b #[.pointer (some ⟨b,0,none⟩),v])
 | .str T E=>(∃fn code,P.funcs[f]?=some fn∧(fn.name == "runtime.NumGoroutine")=false∧fn.body=some code) ∧
  ∀(w:World) (b:Nat) (p v:Value) (fr:Nat×Nat) (l:List UInt8) (og:Option Nat),w.heap[b]?=some (.cells #[p,v] T fr) →
   ((og=none∧v=.slice none 0 0∧l=[])∨∃(g cap:Nat) (cur:Array Value) (fr':Nat×Nat),og=some g∧v=.slice (some ⟨g,0,none⟩) l.length cap∧w.heap[g]?=some (.cells cur E fr')∧l.length≤cap∧cap≤maxLen∧cur.size=cap∧∀(j:Nat) (x:UInt8),l[j]?=some x→cur[j]?=some (Value.int .u8 x.toNat)) →
   Calls P f #[.pointer (some ⟨b,0,none⟩)] w fun e w'=>e=.returned (.string ⟨l.toArray⟩)∧uM og w w'
 | .clone e=>(∃fn code,P.funcs[f]?=some fn∧(fn.name == "runtime.NumGoroutine")=false∧fn.body=some code) ∧
  ∀(I:Nat→Nat→Prop) (w:World) (args:Array Value) (l:List e.den),(∀b o,I b o→b<w.heap.size)→gZ w I (.pair (.slice e) .unit) (l,()) args.toList→fits (len l)=true →
   Calls P f args w fun q w'=>∃v I' L,q=.returned v∧jT w I (fun _=>False) w' I'∧uU w' I' e l L v∧∀blk c,L=some (blk,c)→w.heap.size≤blk
 | .own e A res spec=>(∃fn code,P.funcs[f]?=some fn∧(fn.name == "runtime.NumGoroutine")=false∧fn.body=some code) ∧
  ∀(I:Nat→Nat→Prop) (w:World) (args:Array Value) (v:Value) (rest:List Value) (l l':List e.den) (L:Option (Nat×Nat)) (x:A.den),(∀b o,I b o→b<w.heap.size)→args.toList=v::rest→uU w I e l L v→gZ w I A x rest→spec l x=some l' →
   Calls P f args w fun q w'=>∃I',jT w I (fun k=>∃c,L=some (k,c)) w' I' ∧
    match res with
    | true=>∃v' L',q=.returned v'∧uU w' I' e l' L' v'∧∀blk c,L'=some (blk,c)→(∃c,L=some (blk,c))∨w.heap.size≤blk
    | false=>q=.returned (.tuple #[])∧l'.length=l.length∧uU w' I' e l' L v
structure oR (P:Program) (G:iZ) (cx:Ctx):Prop where
 cW:∀f c,find cx.cW f=some c→Holds P G f c
 bw:∀f c,find cx.bw f=some c→nx P G f c
 QX:∀f s,find cx.QX f=some s→jH P f s
 inv:∀name c,Og cx.inv name=some c→Ie P G name c
def Refs(γ:Gh)(mem:Nat→Option bU):(U:Ty)→U.den→List Nat→List Nat→Prop
 | .pair t U,u,ns,bs=>∃b r blk q bx k,ns=b::r∧bs=blk::q∧b∉r∧mem b=some bx∧bx.buf=false∧bx.lk=false∧(bx.ro=false∧bx.tid=0)∧bx.val=.data t u.1∧γ.loc b=some (blk,k)∧Refs γ mem U u.2 r q
 | .unit,_,ns,bs=>ns=[]∧bs=[]
 | _,_,_,_=>False
theorem OE{l:List Nat}{t:Nat}:dJ l t=true↔t∈l:=by
 induction l with
 | nil=>simp[dJ]
 | cons i r ih =>
   simp only[dJ,Bool.or_eq_true,List.mem_cons,ih]
   constructor
   ·rintro(h|h)
    ·exact .inl (Nat.eq_of_beq_eq_true h)
    ·exact .inr h
   ·rintro(h|h)
    ·subst h;exact .inl (by simp)
    ·exact .inr h
theorem Refs.Ii{mem:Nat→Option bU}:∀{U:Ty} {u:U.den} {ns bs:List Nat},Refs γ mem U u ns bs→∀blk∈bs,∃b bx k,b∈ns∧mem b=some bx∧bx.ro=false∧γ.loc b=some (blk,k):=by
 intro U
 induction U with
 | pair t U HN Rj =>
   intro u ns bs h blk hb
   obtain⟨b,r,dF,q,bx,k,rfl,rfl,h1,h2,h3,h4,h5,h6,h7,h8⟩:=h
   rcases List.mem_cons.1 hb with rfl|hb
   ·exact⟨b,bx,k,List.mem_cons_self ..,h2,h5.1,h7⟩
   ·obtain⟨b',gu,k',g1,g2⟩:=Rj h8 blk hb
    exact⟨b',gu,k',List.mem_cons_of_mem _ g1,g2⟩
 | unit=>intro u ns bs h blk hb;rw[h.2] at hb;cases hb
 | _=>intro u ns bs h;exact h.elim
theorem Refs.nodup{mem:Nat→Option bU}(hm:bE B γ mem w):∀{U:Ty} {u:U.den} {ns bs:List Nat},Refs γ mem U u ns bs→bs.Nodup:=by
 intro U
 induction U with
 | pair t U HN Rj =>
   intro u ns bs h
   obtain⟨b,r,blk,q,bx,k,rfl,rfl,h1,h2,h3,h4,h5,h6,h7,h8⟩:=h
   rw[List.nodup_cons]
   refine⟨fun hq=>?_,Rj h8⟩
   obtain⟨b',gu,k',g1,g2,g3,g4⟩:=h8.Ii blk hq
   have:=hm.inj b b' blk k k' (by rw[h2];simp) (by rw[g2];simp) h7 g4
   subst this
   exact h1 g1
 | unit=>intro u ns bs h;rw[h.2];exact List.nodup_nil
 | _=>intro u ns bs h;exact h.elim
theorem Refs.val{mem:Nat→Option bU}{w':World}{I':Nat→Nat→Prop}:∀{U:Ty} {u y:U.den} {ns bs:List Nat},Refs γ mem U u ns bs→vE w' I' U y bs→∀{c:Nat} {v:aS},pH U y ns c=some v →
  ∃(t:Ty) (x z:t.den) (bx:bU) (blk k:Nat),mem c=some bx∧bx.buf=false∧bx.lk=false∧(bx.ro=false∧bx.tid=0)∧bx.val=.data t x∧v=.data t z∧γ.loc c=some (blk,k)∧blk∈bs∧VX w' I' t z blk:=by
 intro U
 induction U with
 | pair t U HN Rj =>
   intro u y ns bs h ha c v hv
   obtain⟨b,r,blk,q,bx,k,rfl,rfl,h1,h2,h3,h4,h5,h6,h7,h8⟩:=h
   obtain⟨dF,q',e1,a1,a2⟩:=ha
   obtain⟨rfl,rfl⟩:=List.cons.inj e1
   simp only[pH] at hv
   cases hb:Nat.beq c b with
   | true =>
     rw[hb] at hv
     obtain rfl:=Nat.eq_of_beq_eq_true hb
     exact⟨t,u.1,y.1,bx,blk,k,h2,h3,h4,h5,h6,(Option.some.inj hv).symm,h7,List.mem_cons_self ..,a1⟩
   | false =>
     rw[hb] at hv
     obtain⟨t',x',z',gu,dF,k',g1,g2,g3,g4,g5,g6,g7,g8,g9⟩:=Rj h8 a2 hv
     exact⟨t',x',z',gu,dF,k',g1,g2,g3,g4,g5,g6,g7,List.mem_cons_of_mem _ g8,g9⟩
 | unit=>intro u y ns bs h ha c v hv;cases hv
 | _=>intro u y ns bs h;exact h.elim
theorem Refs.VY{mem:Nat→Option bU}:∀{U:Ty} {u y:U.den} {ns bs:List Nat},Refs γ mem U u ns bs→∀blk∈bs,∃b v bx k,pH U y ns b=some v∧mem b=some bx∧bx.ro=false∧γ.loc b=some (blk,k):=by
 intro U
 induction U with
 | pair t U HN Rj =>
   intro u y ns bs h blk hb
   obtain⟨b,r,dF,q,bx,k,rfl,rfl,h1,h2,h3,h4,h5,h6,h7,h8⟩:=h
   rcases List.mem_cons.1 hb with rfl|hb
   ·exact⟨b,.data t y.1,bx,k,by simp[pH],h2,h5.1,h7⟩
   ·obtain⟨b',v',gu,k',g1,g2⟩:=Rj (y:=y.2) h8 blk hb
    refine⟨b',?_⟩
    simp only[pH]
    cases hq:Nat.beq b' b with
    | true =>
      obtain rfl:=Nat.eq_of_beq_eq_true hq
      exact⟨.data t y.1,gu,k',rfl,g2⟩
    | false=>exact⟨v',gu,k',g1,g2⟩
 | unit=>intro u y ns bs h blk hb;rw[h.2] at hb;cases hb
 | _=>intro u y ns bs h;exact h.elim
theorem rT{U:Ty}{y:U.den}{ns:List Nat}{σ:St}{c:Nat}:(sZ U y ns σ).mem c=match pH U y ns c with|some v=>(match σ.mem c with|some bx=>some { bx with val:=v }|none=>none)|none=>σ.mem c:=rfl
theorem bE.refs(h:bE B γ σ.mem w){U:Ty}{u y:U.den}{ns bs:List Nat}(hr:Refs γ σ.mem U u ns bs){G:iZ}(hw:tZ ⟨w.heap.size,(·∈bs),G⟩ w w'){I':Nat→Nat→Prop}(hI:∀b o,γ.I b o→I' b o)(Z4:∀b o,I' b o→b<w'.heap.size)
  (hnew:∀b o,I' b o→¬γ.I b o→w.heap.size≤b) (ha:vE w' I' U y bs) :
  bE B ⟨I',γ.loc⟩ (sZ U y ns σ).mem w'∧Ext B γ σ.mem w ⟨I',γ.loc⟩ (sZ U y ns σ).mem w':=by
 have hsame:∀k,k<w.heap.size→k∉bs→w'.heap[k]?=w.heap[k]?:=fun k hk hb=>hw.block k fun q=>by
  rcases q with q|q
  ·have:w.heap.size≤k:=q;omega
  ·exact hb q
 have hown:∀blk∈bs,B.has blk∧blk<w.heap.size:=fun blk hb=>by
  obtain⟨b,bx,k,g1,g2,g3,g4⟩:=hr.Ii blk hb
  exact h.fresh b blk k (by rw[g2];simp) g4
 have hfree:∀blk∈bs,∀o,¬γ.I blk o:=fun blk hb o hi=>by
  obtain⟨b,bx,k,g1,g2,g3,g4⟩:=hr.Ii blk hb
  have:=(h.sep b bx blk k o g2 g4 hi).1
  rw[g3] at this;cases this
 have Z5:∀k,¬B.has k→k<w.heap.size:=fun k hk=>Nat.lt_of_not_le fun q=>hk (.inl (Nat.le_trans h.base q))
 have hne:∀c,(sZ U y ns σ).mem c≠none→σ.mem c≠none:=by
  intro c hc hq
  apply hc
  rw[rT,hq]
  split<;>rfl
 have hx:Ext B γ σ.mem w ⟨I',γ.loc⟩ (sZ U y ns σ).mem w' :=
  { below:=⟨hw.os,hw.tape,hw.output,hw.size,fun k hk=>hsame k (Z5 k hk) fun hb=>hk (hown k hb).1⟩
    I:=hI
    pO:=fun b o x=>by
     by_cases hi:γ.I b o
     ·exact .inl hi
     ·exact .inr (.inl (Nat.le_trans h.base (hnew b o x hi)))
    cells:=fun b o hi=>cR (hsame b (h.sU b o hi) fun hb=>hfree b hb o hi)
    boxes:=fun c cx hc=>by
     rw[rT,hc]
     cases hv:pH U y ns c with
     | none=>exact⟨cx,rfl,Nat.le_refl _,fun _=>⟨rfl,rfl,rfl⟩⟩
     | some v =>
       obtain⟨t,x,z,bx,blk,k,g1,g2,g3,g4,g5,g6,g7,g8,g9⟩:=hr.val ha hv
       rw[hc] at g1
       obtain rfl:=Option.some.inj g1
       refine⟨_,rfl,Nat.le_refl _,fun _=>⟨rfl,rfl,?_⟩⟩
       subst g6
       unfold bU.row
       simp only[g2,g5]
       cases t<;>rfl }
 refine⟨?_,hx⟩
 exact
  { bg:=h.C8 hx
    base:=Nat.le_trans h.base hw.size
    boxes:=fun c cx hc=>by
     rw[rT] at hc
     cases hv:pH U y ns c with
     | none =>
       rw[hv] at hc
       replace hc:σ.mem c=some cx:=hc
       refine(h.boxes c cx hc).keep hx rfl fun blk k hl=>?_
       refine hsame blk (h.fresh c blk k (by rw[hc];simp) hl).2 fun hb=>?_
       obtain⟨b,v,bx,k',g1,g2,g3,g4⟩:=hr.VY (y:=y) blk hb
       have:=h.inj c b blk k k' (by rw[hc];simp) (by rw[g2];simp) hl g4
       subst this
       rw[hv] at g1;cases g1
     | some v =>
       obtain⟨t,x,z,bx,blk,k,g1,g2,g3,g4,g5,g6,g7,g8,g9⟩:=hr.val ha hv
       rw[hv,g1] at hc
       obtain rfl:=Option.some.inj hc
       obtain⟨cur,tid,fr,j1,j2,j3⟩:=g9
       unfold cP
       simp only[g2]
       subst g6
       exact⟨blk,k,cur,tid,fr,g7,j1,j2,.inl g4.2,j3⟩
    inj:=fun c d blk k k' hc hd=>h.inj c d blk k k' (hne c hc) (hne d hd)
    fresh:=fun c blk k hc hl=>by have:=h.fresh c blk k (hne c hc) hl;exact⟨this.1,Nat.lt_of_lt_of_le this.2 hw.size⟩
    sU:=Z4
    sep:=fun c cx blk k off hc hl hi=>by
     obtain⟨VZ,hc0,hro,hrow,bK⟩:∃VZ,σ.mem c=some VZ∧cx.ro=VZ.ro∧cx.row=VZ.row∧cx.buf=VZ.buf:=by
      have hc1:=hc
      rw[rT] at hc
      cases hv:pH U y ns c with
      | none=>rw[hv] at hc;exact⟨cx,hc,rfl,rfl,rfl⟩
      | some v =>
        obtain⟨t,x,z,bx,dF,k',g1,g2,g3,g4,g5,g6,g7,g8,g9⟩:=hr.val ha hv
        rw[hv,g1] at hc
        obtain rfl:=Option.some.inj hc
        refine⟨bx,g1,rfl,?_,rfl⟩
        subst g6
        unfold bU.row
        simp only[g2,g5]
        cases t<;>rfl
     by_cases X3:γ.I blk off
     ·have:=h.sep c VZ blk k off hc0 hl X3
      exact⟨by rw[hro];exact this.1,fun hb e n hr'=>this.2 (by rw[←bK];exact hb) e n (by rw[←hrow];exact hr')⟩
     ·have h1:=hnew blk off hi X3
      have h2:=(h.fresh c blk k (by rw[hc0];simp) hl).2
      omega }
theorem Uf{mem:Nat→Option bU}{t:Ty}{v:aS}{x:t.den}{val:Value}(hv:cw γ mem w v .val [val])(h:T0 t v=some x):∃cs,bG w γ.I t x cs∧val=cA t cs:=by
 unfold T0 at h
 split at h
 ·rename_i u y
  obtain⟨q,hq⟩:=Ty.jP h
  subst q;subst hq
  exact dP.1 hv
 ·split at h
  ·rename_i e
   obtain rfl:=Option.some.inj h
   obtain rfl:val=_:=by simpa [cw] using hv
   exact⟨[.slice none 0 0],.inl ⟨⟨none,rfl⟩,rfl⟩,rfl⟩
  ·cases h
 ·cases h
theorem OG{t:Ty}{v:aS}{x:t.den}(h:toS t v=some x):v=.data t x:=by
 unfold toS at h
 split at h
 ·obtain⟨q,hq⟩:=Ty.jP h
  subst q;subst hq;rfl
 ·cases h
theorem Kh(hm:bE B γ σ.mem w):∀{ps:List Bool} {A U:Ty} {vs:List aS} {xs:List Value} {x:A.den} {u:U.den} {ns:List Nat},lK γ σ.mem w vs xs→qQ σ ps A U vs=some (x,u,ns) →
  ∃bs,OD w γ.I ps A U x xs bs∧Refs γ σ.mem U u ns bs∧vE w γ.I U u bs:=by
 intro ps
 induction ps with
 | nil =>
   intro A U vs xs x u ns hv h
   cases A<;>first|(cases h;done)|skip
   cases U<;>first|(cases h;done)|skip
   cases vs with
   | cons v r=>cases h
   | nil =>
     obtain⟨rfl,q⟩:=Prod.mk.inj (Option.some.inj h)
     obtain⟨rfl,rfl⟩:=Prod.mk.inj q
     have hx:xs=[]:=by have:=hv.1;simpa using this
     exact⟨[],⟨rfl,rfl,hx,rfl⟩,⟨rfl,rfl⟩,rfl⟩
 | cons p ps ih =>
   intro A U vs xs x u ns hv h
   cases p with
   | false =>
     cases A<;>first|(cases h;done)|skip
     rename_i t A
     cases vs with
     | nil=>cases h
     | cons v r =>
       simp only[qQ] at h
       split at h
       ·rename_i x1 y1 u1 ns1 h1 h2
        obtain⟨rfl,q⟩:=Prod.mk.inj (Option.some.inj h)
        obtain⟨rfl,rfl⟩:=Prod.mk.inj q
        obtain⟨val,rest,rfl,g1,g2⟩:=hv.cons
        obtain⟨bs,k1,k2,k3⟩:=ih g2 h2
        obtain⟨cs,c1,c2⟩:=Uf g1 h1
        exact⟨bs,⟨cs,rest,by rw[c2],c1,k1⟩,k2,k3⟩
       ·cases h
   | true =>
     cases U<;>first|(cases h;done)|skip
     rename_i t U
     cases vs with
     | nil=>cases h
     | cons v0 r =>
     cases v0<;>first|(cases h;done)|skip
     rename_i b aC pth
     cases pth with
     | cons _ _=>cases h
     | nil =>
     simp only[qQ] at h
     split at h
     case h_2=>cases h
     rename_i bx hb
     cases hcd:(Nat.beq bx.aC aC&&!bx.buf&&!bx.lk&&!bx.ro&&Nat.beq bx.tid 0) with
     | false=>rw[hcd] at h;cases h
     | true =>
       rw[hcd] at h
       simp only[Bool.and_eq_true,Bool.not_eq_true'] at hcd
       obtain⟨⟨⟨⟨bt,bK⟩,hlk⟩,hro⟩,X6⟩:=hcd
       have X6:=Nat.eq_of_beq_eq_true X6
       have bt:=Nat.eq_of_beq_eq_true bt
       simp only[cond_true] at h
       split at h
       case h_2=>cases h
       rename_i x1 y1 u1 ns1 h1 h2
       cases hmn:dJ ns1 b with
       | true=>rw[hmn] at h;cases h
       | false =>
         rw[hmn] at h
         obtain⟨rfl,q⟩:=Prod.mk.inj (Option.some.inj h)
         obtain⟨rfl,rfl⟩:=Prod.mk.inj q
         obtain⟨val,rest,rfl,g1,g2⟩:=hv.cons
         obtain⟨bs,k1,k2,k3⟩:=ih g2 h2
         obtain⟨blk,k,j1,j2⟩:=bq hb bt g1.2
         have j2:=List.head_eq_of_cons_eq j2
         simp only[cQ] at j2
         have hval:=OG h1
         have jj:=hm.boxes b bx hb
         unfold cP at jj
         rw[bK] at jj
         obtain⟨dF,cap,cur,tid,fr,a1,a2,a3,iq,a4⟩:=jj
         rw[j1] at a1
         obtain⟨rfl,rfl⟩:=Prod.mk.inj (Option.some.inj a1)
         rw[hval] at a4
         have Z6:b∉ns1:=fun hq=>by rw[OE.2 hq] at hmn;cases hmn
         exact⟨blk::bs,⟨blk,rest,bs,by rw[j2],rfl,k1⟩,⟨b,ns1,blk,bs,bx,k,rfl,rfl,Z6,hb,bK,hlk,⟨hro,X6⟩,hval,j1,k2⟩,blk,bs,rfl,⟨cur,tid,fr,a2,a3,a4⟩,k3⟩
end
end Go.Ge
