/- A ghost interpreter of the model's code, and that it tells the truth: part 4. It says of a function of plain data what a call of it comes to. -/
import Derived.Test.YtjkmocnbjhpilaaGreatDoorGeC
import Derived.Great.BuildSlice
import Derived.Laws.IdiomStrings
import Derived.Laws.BytesArg
import Derived.Laws.MakeOwn
import Derived.Deep.AppendSrc
namespace Go.Ge
set_option linter.unusedVariables false
set_option linter.unusedSimpArgs false
open RowKit
def Mr(γ:Gh)(blk:Nat):Gh:={ γ with I:=fun b o=>γ.I b o∨b=blk }
theorem bz.UE{B:nY}{γ:Gh}{mem:Nat→Option bL}{w:World}(h:bz B γ mem w)(cs:Array Value)(t':TypeId) :
  bz B (Mr γ w.heap.size) mem (w.alloc (.cells cs t'))∧Ext B γ mem w (Mr γ w.heap.size) mem (w.alloc (.cells cs t')):=by
 have hx:Ext B γ mem w (Mr γ w.heap.size) mem (w.alloc (.cells cs t')) :=
  { below:=(rM.refl _ _).alloc h.base _
    I:=fun _ _ x=>.inl x
    nh:=fun blk o x=>by
     rcases x with x|x
     ·exact .inl x
     ·exact .inr (.inl (by rw[x];exact h.base))
    cells:=fun blk o x=>cQ (cr w _ blk (h.qu blk o x))
    boxes:=fun b bx hb=>⟨bx,hb,Nat.le_refl _,fun _=>⟨rfl,rfl,rfl⟩⟩ }
 refine⟨?_,hx⟩
 have hsz:(w.alloc (.cells cs t')).heap.size=w.heap.size+1:=by simp
 exact
  { aU:=h.zY hx
    base:=by rw[hsz];exact Nat.le_succ_of_le h.base
    boxes:=fun b bx hb=>(h.boxes b bx hb).keep hx rfl fun blk k hl=>cr w _ blk (h.fresh b blk k (by rw[hb];simp) hl).2
    inj:=h.inj
    fresh:=fun b blk k hb hl=>by have:=h.fresh b blk k hb hl;exact⟨this.1,by rw[hsz];omega⟩
    qu:=fun blk off hi=>by
     rw[hsz]
     rcases hi with hi|hi
     ·have:=h.qu blk off hi;omega
     ·omega
    sep:=fun b bx blk k off hb hl hi=>by
     rcases hi with hi|hi
     ·exact h.sep b bx blk k off hb hl hi
     ·have:=(h.fresh b blk k (by rw[hb];simp) hl).2;omega }
theorem El(off:Nat):∀(l:List Value) (k:Nat) (cells:Array Value),off+k+l.length≤cells.size →
  (l.zipIdx k).foldl (fun cs (x:Value×Nat)=>cs.setIfInBounds (off+x.2) x.1) cells=(splice cells.toList (off+k) l).toArray
 | [],k,cells,h=>by simp[splice]
 | v::r,k,cells,h=>by
   simp only[List.zipIdx_cons,List.foldl_cons]
   rw[El off r (k+1) _ (by simp at h⊢;omega)]
   have e:=list_seg_step cells.toList (off+k) v r (by simp at h⊢;omega)
   congr 1
   simpa [splice,Array.toList_setIfInBounds,Nat.add_assoc] using e
theorem xM{place:Nat→Option (Nat×Nat)}{cells:Array Value}{i off size:Nat}{v:Value}{rest:List (Nat×Value)}(hp:place i=some (off,size))(hs:v.cells.toList.length=size)
  (hle:off+size≤cells.size):Instr.fill place cells ((i,v)::rest)=Instr.fill place (splice cells.toList off v.cells.toList).toArray rest:=by
 have hs':v.cells.size=size:=by simpa using hs
 have hc:(v.cells.size≠size||off+v.cells.size > cells.size)=false:=by
  simp only[Bool.or_eq_false_iff,decide_eq_false_iff_not]
  constructor
  ·simp[hs']
  ·omega
 simp only[Instr.fill,hp]
 rw[hc]
 simp only[Bool.false_eq_true,if_false]
 congr 1
 rw[←Array.foldl_toList,Array.toList_zipIdx]
 have:=El off v.cells.toList 0 cells (by rw[hs];omega)
 simpa using this
theorem Ms{w:World}{I:Nat→Nat→Prop}{u:Ty}{y:u.den}{es:List Value}(he:bE w I u y es):∀{t:Ty} {x x':t.den} {cs:List Value} {k o:Nat},
  bE w I t x cs→gR t k=some o→D4 t x k u y=some x'→bE w I t x' (splice cs o es)∧o+es.length≤cs.length:=by
 intro t
 induction t with
 | pair a b iQ kX =>
   intro x x' cs k o h ho hp
   obtain⟨c1,c2,rfl,h1,h2⟩:=h
   cases k with
   | zero =>
     simp only[gR,Option.some.injEq] at ho
     subst ho
     simp only[D4] at hp
     split at hp
     ·rename_i y' hy
      obtain⟨q,hq⟩:=Ty.iY hy
      subst q;subst hq
      obtain rfl:=Option.some.inj hp
      have hl:es.length=c1.length:=by rw[he.length,h1.length]
      refine⟨⟨es,c2,?_,he,h2⟩,by rw[List.length_append];omega⟩
      simp only[splice,List.take_zero,List.nil_append,Nat.zero_add]
      rw[hl,List.drop_left]
     ·cases hp
   | succ k =>
     simp only[gR] at ho
     cases hb:gR b k with
     | none=>rw[hb] at ho;cases ho
     | some o' =>
       rw[hb] at ho
       simp only[Option.map_some,Option.some.injEq] at ho
       simp only[D4] at hp
       split at hp
       ·rename_i z hz
        obtain rfl:=Option.some.inj hp
        obtain⟨r1,r2⟩:=kX h2 hb hz
        have hl:=h1.length
        refine⟨⟨c1,splice c2 o' es,?_,h1,r1⟩,by rw[List.length_append];omega⟩
        subst ho
        rw[←hl]
        simp only[splice]
        first
         | (rw[List.take_length_add_append,List.append_assoc,List.append_assoc,Nat.add_assoc,←List.drop_drop,List.drop_left];simp[List.append_assoc];done)
         | (rw[Nat.add_comm o' c1.length,List.take_length_add_append,List.append_assoc,List.append_assoc,Nat.add_assoc,←List.drop_drop,List.drop_left];simp[List.append_assoc])
       ·cases hp
 | _=>intro x x' cs k o h ho;cases k<;>simp[gR] at ho
theorem Dj:∀{t:Ty} {k:Nat} {u:Ty},rG t k=some u→∃o,gR t k=some o:=by
 intro t
 induction t with
 | pair a b iQ kX =>
   intro k u h
   cases k with
   | zero=>exact⟨0,rfl⟩
   | succ k =>
     obtain⟨o,ho⟩:=kX (show rG b k=some u from h)
     simp only[gR,ho]
     exact⟨_,rfl⟩
 | _=>intro k u h;cases k<;>cases h
section
variable {P:Program} {B:nY} {N:Nat} {γ:Gh} {σ σ':St} {a:Act} {w:World} {d:Option Nat} {cx:Ctx}
theorem BE{place:Nat→Option (Nat×Nat)}{t:Ty}(hpl:∀k u o,rG t k=some u→gR t k=some o→place k=some (o,u.size)) :
  ∀{parts:List (Nat×Operand)} {x x':t.den} {cells:Array Value} {σ σ':St} {γ:Gh},cG B N γ σ a w→bE w γ.I t x cells.toList→eY σ t x parts=some (x',σ') →
   ∃cells' γ',Instr.fill place cells (parts.map fun p=>(p.1,a.eval p.2))=some cells'∧cG B N γ' σ' a w∧Ext B γ σ.mem w γ' σ'.mem w∧bE w γ'.I t x' cells'.toList:=by
 intro parts
 induction parts with
 | nil =>
   intro x x' cells σ σ' γ h hx hb
   obtain⟨rfl,rfl⟩:=Prod.mk.inj (Option.some.inj hb)
   exact⟨cells,γ,rfl,h,Ext.refl _ _ _ _,hx⟩
 | cons p r ih =>
   obtain⟨k,o⟩:=p
   intro x x' cells σ σ' γ h hx hb
   simp only[eY] at hb
   split at hb
   ·rename_i u hu
    split at hb
    ·rename_i y σ1 hg
     split at hb
     ·rename_i x1 hx1
      obtain⟨ij,s1,s2,cs,c1,c2⟩:=jZ h (h.cq o) hg
      obtain hval:a.eval o=_:=by simpa using c2
      have Qe:(a.eval o).cells.toList=cs:=by rw[hval];exact oX c1
      obtain⟨off,hoff⟩:=Dj hu
      obtain⟨r1,r2⟩:=Ms c1 (bE.mono s2.I s2.cells hx) hoff hx1
      have hsz:=c1.length
      obtain⟨cells',BD,k1,k2,k3,k4⟩:=ih (cells:=(splice cells.toList off cs).toArray) s1 (by simpa using r1) hb
      refine⟨cells',BD,?_,k2,s2.trans k3,k4⟩
      simp only[List.map_cons]
      rw[xM (hpl k u off hu hoff) (by rw[Qe];exact hsz) (by rw[hsz] at r2;simpa using r2),Qe]
      exact k1
     ·cases hb
    ·cases hb
   ·cases hb
theorem vA{n:Nat}{e:Ty}{place:Nat→Option (Nat×Nat)}(hpl:∀k,place k=some (k*e.size,e.size)) :
  ∀{parts:List (Nat×Operand)} {l l':List e.den} {cells:Array Value} {σ σ':St} {γ:Gh},cG B N γ σ a w→bE w γ.I (.arr n e) l cells.toList→eT σ e l parts=some (l',σ') →
   ∃cells' γ',Instr.fill place cells (parts.map fun p=>(p.1,a.eval p.2))=some cells'∧cG B N γ' σ' a w∧Ext B γ σ.mem w γ' σ'.mem w∧bE w γ'.I (.arr n e) l' cells'.toList:=by
 intro parts
 induction parts with
 | nil =>
   intro l l' cells σ σ' γ h hx hb
   obtain⟨rfl,rfl⟩:=Prod.mk.inj (Option.some.inj hb)
   exact⟨cells,γ,rfl,h,Ext.refl _ _ _ _,hx⟩
 | cons p r ih =>
   obtain⟨k,o⟩:=p
   intro l l' cells σ σ' γ h hx hb
   simp only[eT] at hb
   split at hb
   ·rename_i y σ1 hg
    cases hlt:Nat.blt k l.length with
    | false=>rw[hlt] at hb;cases hb
    | true =>
      rw[hlt] at hb
      simp only[cond_true] at hb
      have hlt':k<l.length:=by simpa using hlt
      obtain⟨ij,s1,s2,cs,c1,c2⟩:=jZ h (h.cq o) hg
      obtain hval:a.eval o=_:=by simpa using c2
      have Qe:(a.eval o).cells.toList=cs:=by rw[hval];exact oX c1
      obtain⟨j1,j2,j3⟩:=bE.mono s2.I s2.cells hx
      have Zz:l.length=n:=j1
      have hsz:=c1.length
      have hm:(k+1)*e.size≤n*e.size:=Nat.mul_le_mul_right _ (by omega)
      rw[Nat.succ_mul] at hm
      have hle:k*e.size+cs.length≤cells.toList.length:=by rw[hsz,j2];exact hm
      have hnew:bE w ij.I (.arr n e) (l.set k y) (splice cells.toList (k*e.size) cs) :=
       ⟨(@List.length_set _ l _ _).trans j1,by rw[bN hle];exact j2,Ee Zz (by rw[j2];exact Nat.le_refl _) j3 (by omega) c1⟩
      obtain⟨cells',BD,k1,k2,k3,k4⟩:=ih (cells:=(splice cells.toList (k*e.size) cs).toArray) s1 (by simpa using hnew) hb
      refine⟨cells',BD,?_,k2,s2.trans k3,k4⟩
      simp only[List.map_cons]
      rw[xM (hpl k) (by rw[Qe];exact hsz) (by rw[hsz] at hle;simpa using hle),Qe]
      exact k1
   ·cases hb
theorem mS.places{t:Ty}:∀{off:Nat} {fs:List Field},mS P t off fs→∃places:List (Nat×Nat),fs.mapM (fun f=>(P.info? f.type).map fun i=>(f.offset,i.size))=some places ∧
  ∀k u o,rG t k=some u→gR t k=some o→places[k]?=some (off+o,u.size):=by
 induction t with
 | pair a b iQ kX =>
   intro off fs h
   obtain⟨f,r,rfl,h1,h2,h3,h4,h5⟩:=h.cons
   obtain⟨pl,p1,p2⟩:=kX h5
   obtain⟨i,z,i1,i2,_⟩:=h3.info
   refine⟨(f.offset,i.size)::pl,by simp[i1,p1],fun k u o hu ho=>?_⟩
   cases k with
   | zero =>
     simp only[rG,gR,Option.some.injEq] at hu ho
     subst hu ho
     simp[h1,i2]
   | succ k =>
     simp only[rG,gR] at hu ho
     cases hb:gR b k with
     | none=>rw[hb] at ho;cases ho
     | some o' =>
       rw[hb] at ho
       simp only[Option.map_some,Option.some.injEq] at ho
       have:=p2 k u o' hu hb
       rw[List.getElem?_cons_succ,this]
       congr 2;omega
 | unit =>
   intro off fs h
   cases fs with
   | nil=>exact⟨[],rfl,fun k u o hu=>by cases k<;>cases hu⟩
   | cons f r=>simp[mS,eK] at h
 | _=>intro off fs h;cases fs<;>simp[mS,eK] at h
theorem Cu{mem:Nat→Option bL}:∀{fs:List kK} {v:aQ},oW fs=some v→b8 γ mem w v .cells (Eb fs):=by
 intro fs
 induction fs with
 | nil=>intro v h;obtain rfl:=Option.some.inj h;rfl
 | cons f r ih =>
   intro v h
   cases f with
   | dat t =>
     simp only[oW] at h
     split at h
     ·rename_i u hu;obtain rfl:=Option.some.inj h;exact⟨_,_,rfl,mA _ _ t,ih hu⟩
     ·cases h
   | buf e i =>
     simp only[oW] at h
     split at h
     ·rename_i u hu;obtain rfl:=Option.some.inj h;exact⟨[.slice none 0 0],_,rfl,rfl,ih hu⟩
     ·cases h
   | one =>
     simp only[oW] at h
     split at h
     ·rename_i u hu;obtain rfl:=Option.some.inj h;exact⟨[.pointer none],_,rfl,rfl,ih hu⟩
     ·cases h
   | self=>cases h
theorem wA{place:Nat→Option (Nat×Nat)}{fs:List kK}(hpl:∀k o f,uI fs k=some o→fs[k]?=some f→place k=some (o,f.size))(h:cG B N γ σ a w) :
  ∀{parts:List (Nat×Operand)} {v v':aQ} {cells:Array Value},b8 γ σ.mem w v .cells cells.toList→jW σ fs v parts=some v' →
   ∃cells',Instr.fill place cells (parts.map fun p=>(p.1,a.eval p.2))=some cells'∧b8 γ σ.mem w v' .cells cells'.toList:=by
 intro parts
 induction parts with
 | nil=>intro v v' cells hv hb;obtain rfl:=Option.some.inj hb;exact⟨cells,rfl,hv⟩
 | cons p r ih =>
   obtain⟨k,x⟩:=p
   intro v v' cells hv hb
   simp only[jW] at hb
   split at hb
   case h_2=>cases hb
   rename_i o t y0 o' f hf ho ZA
   cases hc:Nat.beq o o'&&Nat.beq t.size f.size with
   | false=>rw[hc] at hb;cases hb
   | true =>
     rw[hc] at hb
     simp only[cond_true] at hb
     simp only[Bool.and_eq_true] at hc
     obtain rfl:=Nat.eq_of_beq_eq_true hc.1
     have hsz:=Nat.eq_of_beq_eq_true hc.2
     split at hb
     case h_2=>cases hb
     rename_i y hy
     split at hb
     case h_2=>cases hb
     rename_i v1 hv1
     have hx:b8 γ σ.mem w (cq σ x) .cells (a.eval x).cells.toList:=(h.cq x).ni (fun u e=>by rw[e] at hy;cases hy) (fun e=>by rw[e] at hy;cases hy)
     have Xd:bE w γ.I t y (a.eval x).cells.toList:=DP hy hx
     obtain⟨b1,_⟩:=BC hv hf
     have ZB:o+t.size≤cells.toList.length:=b1
     have hl:(a.eval x).cells.toList.length=t.size:=Xd.length
     have hn:=Ed (f:=fun _=>.ret (.data t y)) hv hf (fun z hz=>by obtain rfl:=Option.some.inj hz;exact Xd) hv1 hl
     obtain⟨cells',k1,k2⟩:=ih (cells:=(splice cells.toList o (a.eval x).cells.toList).toArray) (by simpa using hn) hb
     refine⟨cells',?_,k2⟩
     simp only[List.map_cons]
     rw[xM (hpl k o f ho ZA) (by rw[hl];exact hsz) (by rw[←hsz];simpa using ZB)]
     exact k1
theorem Dk(hc:eG P cx){t:TypeId}{fs:List kK}{z0 p q:aQ}{parts:Array (Nat×Operand)}(h:cG B N γ σ a w)(hd:∀k,d=some k→k<N)(hO:find cx.nV t=some fs)
  (Uc:oW fs=some z0) (hb:jW σ fs z0 parts.toList=some (.mix p q)) :
  mb P B N γ σ a w d (Instr.build t (parts.map fun(i,x)=>(i,a.eval x))) (σ.aR d (.mix p q)):=by
 have hB:=hc.nV _ _ hO
 simp only[Ec,Bool.and_eq_true] at hB
 obtain⟨h1,h2⟩:=hB
 obtain⟨i,z,i1,i2,i3,i4⟩:=gT h2
 split at h1
 case h_2=>cases h1
 rename_i gs hg
 obtain⟨pl,p1,p2⟩:=z6 h1
 obtain⟨cells',k1,c1,c2,e1,e2,e3⟩:=wA (place:=fun k=>pl.toArray[k]?) (fun k o f ho hf=>by have:=p2 k o f ho hf;simpa using this) h
  (v:=z0) (cells:=z.cells) (by rw[i4];exact Cu Uc) hb
 have hrun:(Instr.build t (parts.map fun(i,x)=>(i,a.eval x))).run P w=.ok (.agg cells') w:=by
  refine run_build w t _ _ ?_
  unfold Program.built
  simp only[i1,hg,i3,p1]
  simpa using k1
 exact bG h hd hrun ⟨c1,c2,by rw[←e1],e2,e3⟩
theorem BF(hc:eG P cx){t:TypeId}{fs:List kK}{z0:aQ}{u:Ty.unit.den}{parts:Array (Nat×Operand)}(h:cG B N γ σ a w)(hd:∀k,d=some k→k<N)(hO:find cx.nV t=some fs)
  (Uc:oW fs=some z0) (hb:jW σ fs z0 parts.toList=some (.data .unit u)) :
  mb P B N γ σ a w d (Instr.build t (parts.map fun(i,x)=>(i,a.eval x))) (σ.aR d (.data .unit ())):=by
 have hB:=hc.nV _ _ hO
 simp only[Ec,Bool.and_eq_true] at hB
 obtain⟨h1,h2⟩:=hB
 obtain⟨i,z,i1,i2,i3,i4⟩:=gT h2
 split at h1
 case h_2=>cases h1
 rename_i gs hg
 obtain⟨pl,p1,p2⟩:=z6 h1
 obtain⟨cells',k1,k2⟩:=wA (place:=fun k=>pl.toArray[k]?) (fun k o f ho hf=>by have:=p2 k o f ho hf;simpa using this) h
  (v:=z0) (cells:=z.cells) (by rw[i4];exact Cu Uc) hb
 have hrun:(Instr.build t (parts.map fun(i,x)=>(i,a.eval x))).run P w=.ok (.agg cells') w:=by
  refine run_build w t _ _ ?_
  unfold Program.built
  simp only[i1,hg,i3,p1]
  simpa using k1
 have e:cells'.toList=[]:=k2
 exact bG h hd hrun ⟨[],rfl,by rw[show cells'=#[] from Array.ext' e];rfl⟩
theorem zb(hc:eG P cx){t:TypeId}{u v:Ty}{parts:Array (Nat×Operand)}{x:(Ty.pair u v).den}(h:cG B N γ σ a w)(hd:∀k,d=some k→k<N)(hT:find cx.T t=some (.pair u v))
  (hb:eY σ (.pair u v) (Ty.pair u v).zero parts.toList=some (x,σ')) :
  mb P B N γ σ a w d (Instr.build t (parts.map fun(i,x)=>(i,a.eval x))) (σ'.aR d (.data (.pair u v) x)):=by
 have hD:=hc.T _ _ hT
 obtain⟨fs,f1,f2,_⟩:=hD.pair
 obtain⟨pl,p1,p2⟩:=f2.places
 obtain⟨i,z,i1,i2,i3,i4⟩:=hD.info
 obtain⟨cells',γ',k1,k2,k3,k4⟩:=BE (place:=fun k=>pl.toArray[k]?) (fun k u o hu ho=>by have:=p2 k u o hu ho;simpa using this) h
  (x:=(Ty.pair u v).zero) (cells:=z.cells) (by rw[i4];exact mA w γ.I _) hb
 have hrun:(Instr.build t (parts.map fun(i,x)=>(i,a.eval x))).run P w=.ok (.agg cells') w:=by
  refine run_build w t _ _ ?_
  unfold Program.built
  simp only[i1,f1,i3,p1]
  simpa using k1
 exact⟨_,_,γ',hrun,k2.rN hd ⟨_,k4,rfl⟩,by cases d<;>exact k3⟩
theorem Af(hc:eG P cx){t:TypeId}{n:Nat}{e:Ty}{parts:Array (Nat×Operand)}{l:List e.den}(h:cG B N γ σ a w)(hd:∀k,d=some k→k<N)(hT:find cx.T t=some (.arr n e))
  (hb:eT σ e (List.replicate n e.zero) parts.toList=some (l,σ')) :
  mb P B N γ σ a w d (Instr.build t (parts.map fun(i,x)=>(i,a.eval x))) (σ'.aR d (.data (.arr n e) l)):=by
 have hD:=hc.T _ _ hT
 obtain⟨eB,f1,f2,f3⟩:=hD.arr
 obtain⟨ie,ze,e1,e2,e3,e4⟩:=f2.info
 obtain⟨i,z,i1,i2,i3,i4⟩:=hD.info
 obtain⟨cells',γ',k1,k2,k3,k4⟩:=vA (n:=n) (place:=fun k=>some (k*ie.size,ie.size)) (fun k=>by rw[e2]) h
  (l:=List.replicate n e.zero) (cells:=z.cells) (by rw[i4];exact mA w γ.I (.arr n e)) hb
 have hrun:(Instr.build t (parts.map fun(i,x)=>(i,a.eval x))).run P w=.ok (.agg cells') w:=by
  refine run_build w t _ _ ?_
  unfold Program.built
  simp only[i1,f1,i3,e1]
  simpa using k1
 exact⟨_,_,γ',hrun,k2.rN hd ⟨_,k4,rfl⟩,by cases d<;>exact k3⟩
theorem rP{e:Ty}{z:Value}(hz:z.cells.toList=eC e)(he:0<e.size)(n:Nat):(madeCells z.cells (n*e.size)).toList=eC (.arr n e):=by
 have hzl:z.cells.size=e.size:=by rw[←dF e,←hz];simp
 apply List.ext_getElem?
 intro j
 have hlen:(eC (.arr n e)).length=n*e.size:=by rw[dF];rfl
 rcases Nat.lt_or_ge j (n*e.size) with hj|hj
 ·have h1:(madeCells z.cells (n*e.size)).toList[j]?=some (z.cells[j % z.cells.size]!):=by simp[madeCells,hj]
  rw[h1]
  have hdiv:j / e.size<n:=by rw[Nat.div_lt_iff_lt_mul he];exact hj
  have hk:=dP (eC e) n (j / e.size) hdiv
  rw[dF] at hk
  have hmod:=Nat.mod_lt j he
  have hkk:j / e.size*e.size+j % e.size=j:=by rw[Nat.mul_comm];exact Nat.div_add_mod j e.size
  have h2:(eC (.arr n e))[j]?=(eC e)[j % e.size]?:=by
   conv=>rhs;rw[←hk]
   rw[List.getElem?_take,if_pos hmod,List.getElem?_drop,hkk]
   rfl
  rw[h2,←hz,hzl]
  have hm:j % e.size<z.cells.size:=by omega
  simp[hm]
 ·rw[List.getElem?_eq_none (by simp[madeCells];omega),List.getElem?_eq_none (by omega)]
theorem Iz{w:World}{I:Nat→Nat→Prop}{e:Ty}{n:Nat}{l:List e.den}{cells:Array Value}{t:TypeId}{blk:Nat}{fr:Nat×Nat}(h:bE w I (.arr n e) l cells.toList)(hg:w.heap[blk]?=some (.cells cells t fr))
  (hI:∀o,I blk o) (hn:n≤maxLen):bE w I (.slice e) l [.slice (some ⟨blk,0,none⟩) n n]:=by
 obtain⟨h1,h2,h3⟩:=h
 have h1':l.length=n:=h1
 refine .inr ⟨blk,0,n,by rw[←h1'],by rw[←h1'];exact Nat.le_refl _,hn,fun i x hx=>?_⟩
 have hx':l[i]?=some x:=hx
 have hi:i<n:=by have:=(List.getElem?_eq_some_iff.1 hx').1;omega
 have hr:=h3 i x hx'
 refine⟨_,hr.length,fun j c hj=>⟨?_,hI _⟩,hr⟩
 rw[cell_of_heap hg]
 rw[List.getElem?_take] at hj
 split at hj
 ·rw[List.getElem?_drop] at hj
  rw[Nat.zero_add];simpa using hj
 ·cases hj
theorem BG(hc:eG P cx){t:TypeId}{n:Nat}{e:Ty}{parts:Array (Nat×Operand)}{l:List e.den}(h:cG B N γ σ a w)(hd:∀k,d=some k→k<N)(hT:find cx.T t=some (.slice e))
  (hn:Nat.ble (n*e.size) 65536=true) (hb:eT σ e (List.replicate n e.zero) parts.toList=some (l,σ')) :
  mb P B N γ σ a w d (Instr.buildSlice t n (parts.map fun(i,x)=>(i,a.eval x))) (σ'.aR d (.data (.slice e) l)):=by
 have hD:=hc.T _ _ hT
 have hn:n*e.size≤65536:=Nat.le_of_ble_eq_true hn
 obtain⟨eB,f1,f2,f3,f4⟩:=hD.slice
 obtain⟨ie,ze,e1,e2,e3,e4⟩:=f2.info
 obtain⟨cells',γ',k1,k2,k3,k4⟩:=vA (n:=n) (place:=fun k=>some (k*ie.size,ie.size)) (fun k=>by rw[e2]) h
  (l:=List.replicate n e.zero) (cells:=madeCells ze.cells (n*e.size)) (by rw[rP e4 f4];exact mA w γ.I (.arr n e)) hb
 obtain⟨m1,m2⟩:=k2.ok.UE cells' eB
 have hrun:(Instr.buildSlice t n (parts.map fun(i,x)=>(i,a.eval x))).run P w=.ok (.slice (some ⟨w.heap.size,0,none⟩) n n) (w.alloc (.cells cells' eB)):=by
  have hk1:Instr.fill (fun i=>some (i*ie.size,ie.size)) (madeCells ze.cells (n*ie.size)) (parts.map fun(i,x)=>(i,a.eval x)).toList=some cells':=by rw[e2] at k1⊢;simpa using k1
  by_cases h0:n*ie.size=0
  ·have Uc:madeCells ze.cells (n*ie.size)=#[]:=by rw[h0];simp[madeCells]
   rw[Uc] at hk1
   simp only[Array.toList_map] at hk1
   simp[Instr.buildSlice,run_underlying f1,Go.sizeOf,typeInfo,zeroValue,e1,e3,h0,newRow]
   have hz:(Array.map (fun x:Nat=>(default:Value)) (Array.range 0))=#[]:=by simp[Array.range]
   rw[hz,hk1]
   rfl
  ·exact run_buildSlice w t eB n _ cells' ie ze f1 e1 e3 (by rw[e2];omega) h0 hk1
 refine⟨_,_,_,hrun,k2.aR m2 m1 hd (v:=.data (.slice e) l) ⟨[.slice (some ⟨w.heap.size,0,none⟩) n n],?_,rfl⟩,by cases d<;>exact k3.trans m2⟩
 refine Iz (bE.mono m2.I m2.cells k4) (heap_alloc_new w _) (fun o=>.inr rfl) ?_
 have:n*1≤n*e.size:=Nat.mul_le_mul_left _ f4
 have:(65536:Nat)≤maxLen:=by decide
 omega
theorem IA{α:Type}{l r:List α}{c:α}{j:Nat}(h:l.length=j):(l++([c]++r)).take (j+1)=l++[c]:=by
 subst h
 rw[List.take_append,List.take_of_length_le (by omega)]
 simp
theorem IB{place:Nat→Option (Nat×Nat)}(hpl:∀k,place k=some (k,1))(h:cG B N γ σ a w) :
  ∀{parts:List (Nat×Operand)} {k:Nat} {v:aQ} {cells:Array Value},cells.size=k+parts.length→v8 σ k parts=some v →
   ∃vals:List Value,Instr.fill place cells (parts.map fun p=>(p.1,a.eval p.2))=some (cells.toList.take k++vals).toArray∧b8 γ σ.mem w v .cells vals:=by
 intro parts
 induction parts with
 | nil =>
   intro k v cells hs hv
   obtain rfl:=Option.some.inj hv
   refine⟨[],?_,rfl⟩
   have:cells.toList.take k=cells.toList:=List.take_of_length_le (by simp only[List.length_nil,Nat.add_zero] at hs;simp[hs])
   rw[this]
   simp[Instr.fill]
 | cons p r ih =>
   obtain⟨j,x⟩:=p
   intro k v cells hs hv
   simp only[v8] at hv
   cases hj:Nat.beq j k with
   | false=>rw[hj] at hv;cases hv
   | true =>
     rw[hj] at hv
     simp only[cond_true] at hv
     obtain rfl:=Nat.eq_of_beq_eq_true hj
     simp only[List.length_cons] at hs
     have key:∀(u u':aQ) (c:Value),(∀t,u≠.yT t)→u≠.undef→cq σ x=u→v8 σ (j+1) r=some u'→v=.mix u u'→(a.eval x).cells.toList=[c] →
       ∃vals:List Value,Instr.fill place cells (((j,x)::r).map fun p=>(p.1,a.eval p.2))=some (cells.toList.take j++vals).toArray∧b8 γ σ.mem w v .cells vals:=by
      intro u u' c h1 h2 hu UF Xc hcell
      have hx:=h.cq x
      rw[hu] at hx
      have hx':=hx.ni h1 (fun e=>absurd e h2)
      have hlen:(splice cells.toList j [c]).length=cells.toList.length:=bN (by simp;omega)
      obtain⟨vals,k1,k2⟩:=ih (k:=j+1) (cells:=(splice cells.toList j [c]).toArray) (by simp only[List.size_toArray,hlen,Array.length_toList];omega) UF
      have ht:(splice cells.toList j [c]).take (j+1)=cells.toList.take j++[c]:=by
       have:(cells.toList.take j).length=j:=by rw[List.length_take,Array.length_toList];omega
       simp only[splice]
       rw[List.append_assoc,IA this]
      refine⟨c::vals,?_,?_⟩
      ·simp only[List.map_cons]
       rw[xM (hpl j) (by rw[hcell];rfl) (by omega),hcell,k1]
       rw[ht];simp
      ·rw[Xc]
       exact⟨[c],vals,rfl,by rw[hcell] at hx';exact hx',k2⟩
     split at hv
     ·rename_i u' hu UF
      obtain rfl:=Option.some.inj hv
      have hx:=h.cq x
      rw[hu] at hx
      obtain hx:a.eval x=_:=by simpa [b8] using hx
      exact key .oA u' (.pointer none) (fun t e=>by cases e) (fun e=>by cases e) hu UF rfl (by rw[hx];rfl)
     ·rename_i b ax q u' hu UF
      obtain rfl:=Option.some.inj hv
      have hx:=h.cq x
      rw[hu] at hx
      obtain⟨⟨y,hy,ho⟩,_⟩:=hx
      obtain rfl:a.eval x=y:=by simpa using hy
      refine key (.ptr b ax q) u' (a.eval x) (fun t e=>by cases e) (fun e=>by cases e) hu UF rfl ?_
      generalize a.eval x=y at ho⊢
      cases y<;>first|rfl|(simp[Value.oneCell'] at ho)
     ·cases hv
theorem Gp(hc:eG P cx){t:TypeId}{nb n:Nat}{parts:Array (Nat×Operand)}(h:cG B N γ σ a w)(hd:∀k,d=some k→k<N)
  (hr:(xI cx nb d t n parts.toList σ).run=some σ'):mb P B N γ σ a w d (Instr.buildSlice t n (parts.map fun(i,x)=>(i,a.eval x))) σ':=by
 unfold xI at hr
 split at hr
 case h_2=>cases hr
 rename_i k e v he hv
 obtain⟨hb,jl⟩:=aA hr
 simp only[Bool.and_eq_true] at hb
 obtain⟨⟨hn,h0⟩,uQ⟩:=hb
 obtain rfl:=Nat.eq_of_beq_eq_true hn
 have h0':0<parts.toList.length:=by simpa using h0
 have ZC:parts.toList.length≤64:=Nat.le_of_ble_eq_true uQ
 obtain⟨k1,k2⟩:=yZ hc he
 obtain⟨_,hs,z,hz,_⟩:=hc.mU _ k2
 obtain⟨ie,i1,i2⟩:∃ie,P.info? e=some ie∧ie.size=1:=by
  have:=hs w
  cases hi:P.info? e with
  | none=>simp[Go.sizeOf,typeInfo,hi] at this
  | some ie=>simp[Go.sizeOf,typeInfo,hi] at this;exact⟨ie,rfl,this⟩
 obtain⟨z',i3⟩:∃z',ie.zero=some z':=by
  have:=hz w
  cases hi:ie.zero with
  | none=>simp[zeroValue,typeInfo,i1,hi] at this
  | some z'=>exact⟨z',rfl⟩
 obtain⟨ax,aZ,hr2⟩:=dw jl
 obtain rfl:=Option.some.inj hr2
 obtain⟨vals,f1,f2⟩:=IB (place:=fun i=>some (i*ie.size,ie.size)) (fun j=>by rw[i2];simp) h (k:=0) (cells:=(Array.range (parts.toList.length*ie.size)).map (z'.cells[· % z'.cells.size]!)) (by simp[i2]) hv
 have hrun:=run_buildSlice w t e parts.toList.length (parts.map fun(i,x)=>(i,a.eval x)) _ ie z' k1 i1 i3 (by rw[i2];omega) (by rw[i2];omega) (by rw[Array.toList_map];exact f1)
 obtain⟨m1,m2⟩:=h.ok.newVar (b:=nb+k) (v:=v) (tid:=0) aZ (cs:=((((Array.range (parts.toList.length*ie.size)).map (z'.cells[· % z'.cells.size]!)).toList.take 0)++vals).toArray) e (.inl rfl) (by simpa using f2)
 refine⟨_,_,_,hrun,h.step m2 m1 (hd k rfl) ?_,m2⟩
 refine⟨⟨_,rfl,rfl⟩,fN (bt _ _) rfl ⟨by simp,w.heap.size,0,by simp[bD],by omega,by omega,by omega,_,_,rfl,by simp,.inr ?_⟩⟩
 simp[cz]
theorem BH(hc:eG P cx){t:TypeId}{e:Ty}{nb k:Nat}(h:cG B N γ σ a w)(hd:k<N)(hT:find cx.T t=some (.slice e))
  (hr:(σ.aL (nb+k) (.data (.slice e) ([]:List e.den)) 0 true fun ax σ=>.ret (σ.put k (.whole (nb+k) ax))).run=some σ') :
  mb P B N γ σ a w (some k) (Instr.buildSlice t 0 #[]) σ':=by
 obtain⟨eB,f1,f2,f3,f4⟩:=(hc.T _ _ hT).slice
 obtain⟨ie,ze,e1,e2,e3,e4⟩:=f2.info
 obtain⟨ax,aZ,hr2⟩:=dw hr
 obtain rfl:=Option.some.inj hr2
 have hrun:(Instr.buildSlice t 0 #[]).run P w=.ok (.slice (some ⟨w.heap.size,0,none⟩) 0 0) (w.alloc (.cells #[] eB)):=by
  simp[Instr.buildSlice,run_underlying f1,Go.sizeOf,typeInfo,zeroValue,e1,e3,newRow,Instr.fill]
  have hz:(Array.map (fun x:Nat=>(default:Value)) (Array.range 0))=#[]:=by simp[Array.range]
  rw[hz]
 obtain⟨n1,n2⟩:=h.ok.Iu (w':=w.alloc (.cells #[] eB)) (b:=nb+k) (e:=e) (l:=([]:List e.den)) (tid:=0) (ax:=ax) (cap:=0) aZ f4
  ((rM.refl _ _).alloc h.ok.base _) (cr w _) (heap_alloc_new w _) (tY _ _) (.inl rfl) (Nat.le_refl _) (Nat.zero_le _) (by simp) (fun i z hz=>by cases hz)
 refine⟨_,_,_,hrun,h.step n2 n1 hd ?_,n2⟩
 exact⟨⟨_,rfl,rfl⟩,fN (bt _ _) rfl ⟨e,0,rfl,rfl,.inr ⟨w.heap.size,0,by simp[bD],rfl⟩⟩⟩
end
end Go.Ge
namespace Go.Ge
set_option linter.unusedVariables false
set_option linter.unusedSimpArgs false
open RowKit
section
variable {P:Program} {B:nY} {N:Nat} {γ:Gh} {σ σ':St} {a:Act} {w w':World} {d:Option Nat} {cx:Ctx}
theorem zd:(4294967296:Nat)≤maxLen:=by decide
theorem Em{n:Nat}(h:fits (n:Int)=true):n≤4294967296:=by simp[fits] at h;omega
theorem wB{eB:TypeId}{ie:TypeInfo}(hb:BA P eB=true)(hi:P.info? eB=some ie):ie.bytes≤32768:=by
 unfold BA at hb
 rw[hi] at hb
 exact Nat.le_of_ble_eq_true hb
theorem uc{mem:Nat→Option bL}{b cap blk:Nat}{bx:bL}{e:Ty}{n:Nat}(bF:bx.buf=true)(hrow:bx.row=some (e,n)) :
  b8 (bD γ b (some (blk,cap))) (cc mem b bx) w' (.whole b bx.ax) .val [.slice (some ⟨blk,0,none⟩) n cap] :=
 ⟨⟨_,rfl,rfl⟩,fN (bt _ _) rfl ⟨e,n,bF,hrow,.inr ⟨blk,cap,by simp[bD],rfl⟩⟩⟩
theorem Dm(hc:eG P cx){t:TypeId}{nb k:Nat}{e:Ty}{x y:Operand}{kl kc:IntKind}{l c:Int}(h:cG B N γ σ a w)(hd:k<N)(hT:find cx.T t=some (.slice e))
  (hx:cq σ x=.data (.int kl) l) (hy:cq σ y=.data (.int kc) c) (hin:inside 0 l c=true) (hf:fits c=true)
  (hr:(σ.aL (nb+k) (.data (.slice e) (qc l e.zero)) 0 true fun ax σ=>.ret (σ.put k (.whole (nb+k) ax))).run=some σ') :
  mb P B N γ σ a w (some k) (Instr.makeSlice t (a.eval x) (a.eval y)) σ':=by
 obtain⟨ax,aZ,hr2⟩:=dw hr
 obtain rfl:=Option.some.inj hr2
 obtain⟨_,h0,h1⟩:=iS hin
 have ZD:c≤4294967296:=by simpa [fits] using hf
 have Ta:=h.cq x
 have YJ:=h.cq y
 rw[hx] at Ta
 rw[hy] at YJ
 obtain⟨ex,_⟩:=qd Ta
 obtain⟨ey,_⟩:=qd YJ
 obtain⟨eB,f1,f2,f3,f4⟩:=(hc.T _ _ hT).slice
 obtain⟨ie,ze,e1,e2,e3,e4⟩:=f2.info
 have hb:=wB f3 e1
 have hbytes:(ie.bytes:Int)*c≤281474976710656:=by
  have:(ie.bytes:Int)*c≤32768*c:=Int.mul_le_mul_of_nonneg_right (by omega) (by omega)
  omega
 have hrun:=run_make (P:=P) w t eB ie ze f1 e1 e3 kl kc l c h0 h1 hbytes (by omega)
 have hcells:(madeCells ze.cells (c.toNat*ie.size)).toList=eC (.arr c.toNat e):=by rw[e2];exact rP e4 f4 _
 have hlen:(qc l e.zero).length=l.toNat:=by simp[qc]
 obtain⟨m1,m2⟩:=h.ok.Iu (w':=w.alloc (.cells (madeCells ze.cells (c.toNat*ie.size)) eB)) (b:=nb+k) (e:=e) (l:=qc l e.zero) (tid:=0) (ax:=ax) (cap:=c.toNat) aZ f4
  ((rM.refl _ _).alloc h.ok.base _) (cr w _) (heap_alloc_new w _) (tY _ _) (.inl rfl) (by rw[hlen];omega) (by have:=zd;omega)
  (by rw[e2];exact size_madeCells _ _) (fun i z hz=>by
   rw[hcells]
   have SM:(List.replicate l.toNat e.zero)[i]?=some z:=hz
   rw[List.getElem?_replicate] at SM
   split at SM
   ·rename_i hi
    obtain rfl:e.zero=z:=by simpa using SM
    have:=dP (eC e) c.toNat i (by omega)
    rw[dF] at this
    rw[show eC (.arr c.toNat e)=(List.replicate c.toNat (eC e)).flatten from rfl,this]
    exact mA _ _ _
   ·cases SM)
 refine⟨_,_,_,by rw[ex,ey];exact hrun,h.step m2 m1 hd ?_,m2⟩
 have:=uc (γ:=γ) (w':=w.alloc (.cells (madeCells ze.cells (c.toNat*ie.size)) eB)) (mem:=σ.mem) (b:=nb+k) (cap:=c.toNat) (blk:=w.heap.size)
  (bx:={ val:=.data (.slice e) (qc l e.zero),tid:=0,buf:=true,ro:=false,lk:=false,ax }) (e:=e) (n:=l.toNat) rfl (by rw[←hlen];rfl)
 exact this
theorem IC(b:UInt8):IntKind.u8.min≤((b.toNat:Int))∧((b.toNat:Int))≤IntKind.u8.max:=u8_in b
theorem ID(l:List Int):(⟨(bV l).toArray⟩:ByteArray)=strOfNums l:=rfl
theorem OX{I:Nat→Nat→Prop}{l:List Int}{v:Value}{src dst e:TypeId}(h:wz w I (.int .u8) l v)(hs:P.underlying src=some (.slice e))(he:P.underlying e=some (.int .u8))(hd:P.underlying dst=some .string) :
  (convert src dst v).run P w=.ok (.string ⟨(bV l).toArray⟩) w∧l.length≤maxLen:=by
 rcases h with ⟨rfl,base,cap,r1,r2,r3⟩|⟨blk,off,cap,r1,r2,r3,r4⟩
 ·rcases r3 with rfl|⟨blk,off,rfl⟩
  ·rw[r1]
   refine⟨?_,Nat.zero_le _⟩
   cases base with
   | none=>exact run_convert_bytes_nil w src e hs he 0 0 dst hd
   | some ad =>
     rw[run_convert_bytes_string w src dst e _ _ _ hs he hd]
     have hl:(loadCells ad 0).run P w=.ok #[] w:=run_loadCells_list (P:=P) w ad [] (fun j v hv=>by cases hv)
     simp[Conv.bytesToString,Sem.run_bind,hl,bV]
     rfl
  ·rw[r1]
   refine⟨?_,Nat.zero_le _⟩
   exact run_convert_bytes_arg w src e hs he blk off 0 cap [] rfl (fun i hi=>by omega) dst hd
 ·rw[r1]
  refine⟨?_,Nat.le_trans r2 r3⟩
  rw[ID]
  refine run_convert_bytes_arg w src e hs he blk off l.length cap l rfl (fun i hi=>?_) dst hd
  obtain⟨es,g1,g2,g3⟩:=r4 i l[i] (List.getElem?_eq_getElem hi)
  obtain⟨rfl,_⟩:=g3
  have:=g2 0 _ rfl
  simp only[Ty.size,Nat.mul_one,Nat.add_zero] at this
  rw[this]
  simp[List.getD,List.getElem?_eq_getElem hi]
theorem BI(l:List Int):(bV l).length=l.length:=by simp[bV]
theorem bytesRow_at{s:List UInt8}{cap i:Nat}{b:UInt8}(hb:s[i]?=some b):((bytesRow ⟨s.toArray⟩ cap).toList.drop (i*1)).take 1=[.int .u8 (b.toNat:Int)]:=by
 have hi:=(List.getElem?_eq_some_iff.1 hb).1
 apply List.ext_getElem?
 intro j
 rw[List.getElem?_take]
 split
 ·rename_i hj
  obtain rfl:j=0:=by omega
  rw[List.getElem?_drop]
  simp only[bytesRow,Nat.mul_one,Nat.add_zero,Array.toList_append,Array.toList_map]
  rw[List.getElem?_append_left (by simpa using hi)]
  simp[hb]
 ·rename_i hj
  rw[List.getElem?_eq_none (by simp;omega)]
theorem Gq(s:ByteArray){cap:Nat}(h:s.size≤cap):(bytesRow s cap).size=cap:=by
 simp only[bytesRow,Array.size_append,Array.size_map,Array.size_replicate]
 have:s.data.size=s.size:=rfl
 omega
theorem En(hc:eG P cx){nb k:Nat}{src dst:TypeId}{x:Operand}{s:List UInt8}(h:cG B N γ σ a w)(hd:k<N)(hs:find cx.T src=some .str)(hd':find cx.T dst=some (.slice (.int .u8)))
  (hx:cq σ x=.data .str s) (hr:(σ.aL (nb+k) (.data (.slice (.int .u8)) (ai s)) 0 true fun ax σ=>.ret (σ.put k (.whole (nb+k) ax))).run=some σ') :
  mb P B N γ σ a w (some k) (convert src dst (a.eval x)) σ':=by
 have hv:=h.cq x
 rw[hx] at hv
 obtain⟨ex,hl⟩:=td hv
 obtain⟨ax,aZ,iR⟩:=dw hr
 obtain rfl:=Option.some.inj iR
 obtain⟨eB,f1,f2,f3,f4⟩:=(hc.T _ _ hd').slice
 have hrun:=run_bytes_of_string (P:=P) w src dst eB ⟨s.toArray⟩ (hc.T _ _ hs).str f1 f2.int
 have hsz:(⟨s.toArray⟩:ByteArray).size=s.length:=by simp[ByteArray.size]
 rw[hsz] at hrun
 have hge:=grownCap_ge w s.length 0 eB
 have hle:=grownCap_le_maxLen w s.length 0 eB hl
 have hrs:=Gq ⟨s.toArray⟩ (cap:=grownCap w s.length 0 eB) (by rw[hsz];exact hge)
 have hlen:(ai s).length=s.length:=by simp[ai]
 generalize hcap:grownCap w s.length 0 eB=cap at *
 obtain⟨m1,m2⟩:=h.ok.Iu (b:=nb+k) (e:=.int .u8) (l:=(ai s:List Int)) (tid:=0) (ax:=ax) (cap:=cap)
  (w':=w.drew.alloc (.cells (bytesRow ⟨s.toArray⟩ cap) eB ((bytesRow ⟨s.toArray⟩ cap).size,(bytesRow ⟨s.toArray⟩ cap).size+1)))
  aZ (by decide) ((rM.refl B w).drew.alloc h.ok.base _) (cr w.drew _) (heap_alloc_new w.drew _) ⟨fun o ho hh=>by omega,fun he=>by cases he⟩ (.inl rfl) (Nat.le_trans (Nat.le_of_eq hlen) hge) hle
  (by rw[hrs];exact(Nat.mul_one _).symm) (fun i z hz=>by
   have SM:(ai s)[i]?=some z:=hz
   simp only[ai,List.getElem?_map] at SM
   cases hb:s[i]? with
   | none=>rw[hb] at SM;cases SM
   | some b =>
     rw[hb] at SM
     obtain rfl:(b.toNat:Int)=z:=Option.some.inj SM
     exact⟨bytesRow_at (cap:=cap) hb,IC b⟩)
 refine⟨_,_,_,by rw[ex];exact hrun,h.step m2 m1 hd ?_,m2⟩
 have:=uc (γ:=γ) (mem:=σ.mem) (b:=nb+k) (cap:=cap) (blk:=w.heap.size)
  (bx:={ val:=.data (.slice (.int .u8)) (ai s),tid:=0,buf:=true,ro:=false,lk:=false,ax }) (e:=.int .u8) (n:=s.length)
  (w':=w.drew.alloc (.cells (bytesRow ⟨s.toArray⟩ cap) eB ((bytesRow ⟨s.toArray⟩ cap).size,(bytesRow ⟨s.toArray⟩ cap).size+1))) rfl (by rw[←hlen];rfl)
 exact this
theorem Ag(hc:eG P cx){nb:Nat}{src dst:TypeId}{x:Operand}(h:cG B N γ σ a w)(hd:∀k,d=some k→k<N)(hr:(fI cx nb d src dst (cq σ x) σ).run=some σ') :
  mb P B N γ σ a w d (convert src dst (a.eval x)) σ':=by
 have hv:=h.cq x
 unfold fI at hr
 split at hr
 ·rename_i ks k kx n hs hd' hx
  rw[hx] at hv
  obtain⟨ex,_⟩:=qd hv
  obtain rfl:=Option.some.inj hr
  refine bG h hd (x:=.int k (k.wrap n)) ?_ (mkInt (ez _ _))
  rw[ex]
  simp[convert,run_underlying (hc.T _ _ hs).int,run_underlying (hc.T _ _ hd').int,Conv.intToInt]
 ·rename_i s hs hd' hx
  rw[hx] at hv
  obtain rfl:=Option.some.inj hr
  obtain⟨ex,hl⟩:=td hv
  refine bG h hd (x:=a.eval x) ?_ hv
  rw[ex]
  simp[convert,run_underlying (hc.T _ _ hs).str,run_underlying (hc.T _ _ hd').str]
 ·rename_i s hs hd' hx
  split at hr
  ·rename_i k
   obtain⟨hf,hr2⟩:=b9 hr
   exact En hc h (hd k rfl) hs hd' hx hr2
  ·exact absurd hr (by intro k;cases k)
 ·rename_i x0 hs hd'
  split at hr
  ·rename_i l hl
   obtain rfl:=Option.some.inj hr
   obtain⟨eB,f1,f2,f3,f4⟩:=(hc.T _ _ hs).slice
   obtain⟨r1,r2⟩:=OX (dst:=dst) (oE h.ok hv hl) f1 f2.int (hc.T _ _ hd').str
   refine bG h hd r1 ⟨_,⟨rfl,?_⟩,rfl⟩
   exact Nat.le_trans (Nat.le_of_eq (BI l)) r2
  ·exact absurd hr (by intro k;cases k)
 ·exact absurd hr (by intro k;cases k)
end
end Go.Ge
namespace Go.Ge
set_option linter.unusedVariables false
set_option linter.unusedSimpArgs false
open RowKit
section
variable {P:Program} {B:nY} {N:Nat} {γ:Gh} {σ σ':St} {a:Act} {w w':World} {d:Option Nat} {cx:Ctx}
def dS(w:World)(I:Nat→Nat→Prop)(e:Ty)(l:List e.den)(cs:List Value):Prop :=
 ∀(i:Nat) (x:e.den),l[i]?=some x→bE w I e x ((cs.drop (i*e.size)).take e.size)
theorem kN{α:Type}{a b:List α}{i s:Nat}(h:(i+1)*s≤a.length):((a++b).drop (i*s)).take s=(a.drop (i*s)).take s:=by
 rw[Nat.succ_mul] at h
 rw[List.drop_append_of_le_length (by omega),List.take_append_of_le_length (by rw[List.length_drop];omega)]
theorem dS.append{I:Nat→Nat→Prop}{e:Ty}{l m:List e.den}{c1 c2 rest:List Value}(h1:dS w I e l c1)(h2:dS w I e m c2)(hl1:c1.length=l.length*e.size)(Gg:c2.length=m.length*e.size) :
  dS w I e (l++m) (c1++c2++rest):=by
 intro i x hx
 rw[List.getElem?_append] at hx
 split at hx
 ·rename_i hi
  have hm:(i+1)*e.size≤l.length*e.size:=Nat.mul_le_mul_right _ hi
  rw[List.append_assoc,kN (by omega)]
  exact h1 i x hx
 ·rename_i hi
  have hj:i-l.length<m.length:=(List.getElem?_eq_some_iff.1 hx).1
  have hm:(i-l.length+1)*e.size≤m.length*e.size:=Nat.mul_le_mul_right _ hj
  have e1:i*e.size=c1.length+(i-l.length)*e.size:=by rw[hl1,←Nat.add_mul];congr 1;omega
  rw[List.append_assoc,e1,←List.drop_drop,List.drop_left,kN (by omega)]
  exact h2 _ x hx
theorem dS.front{I:Nat→Nat→Prop}{e:Ty}{l:List e.den}{cs:List Value}{n:Nat}(h:dS w I e l cs)(hn:l.length*e.size≤n)(hc:n≤cs.length):dS w I e l (cs.take n):=by
 intro i x hx
 have hi:i<l.length:=(List.getElem?_eq_some_iff.1 hx).1
 have hm:(i+1)*e.size≤l.length*e.size:=Nat.mul_le_mul_right _ hi
 have:(((cs.take n)++cs.drop n).drop (i*e.size)).take e.size=((cs.take n).drop (i*e.size)).take e.size:=kN (by rw[List.length_take];omega)
 rw[←this,List.take_append_drop]
 exact h i x hx
theorem Tb{I:Nat→Nat→Prop}{e:Ty}{m:List e.den}{v:Value}{tx t0 e':TypeId}(hk0:(∃e',P.underlying tx=some (.slice e'))∨P.underlying tx=some .string)(hk:P.underlying t0=some (.slice e'))(h:wz w I e m v) :
  ∃news,Src P e.size tx v m.length news w∧dS w I e m news:=by
 suffices ∃news,Src P e.size t0 v m.length news w∧dS w I e m news by
  obtain⟨news,n1,n2⟩:=this
  exact⟨news,⟨hk0,n1.len,n1.cells,n1.cellsD,n1.newsLen,n1.one⟩,n2⟩
 rcases h with ⟨rfl,base,cap,r1,r2,r3⟩|⟨blk,off,cap,r1,r2,r3,r4⟩
 ·refine⟨[],?_,fun i x hx=>by cases hx⟩
  rcases r3 with rfl|⟨blk,off,rfl⟩
  ·rw[r1]
   cases base with
   | none=>exact Src.ofNil w hk 0
   | some ad=>exact Src.ofSlice w hk ad 0 0 [] (by simp) (fun j u hj=>by cases hj) (fun u hu=>by cases hu)
  ·rw[r1];exact Src.ofSlice w hk _ 0 cap [] (by simp) (fun j u hj=>by cases hj) (fun u hu=>by cases hu)
 ·obtain⟨news,n1,n2,n3,n4⟩:=za (w:=w) r4
  refine⟨news,?_,n4⟩
  rw[r1]
  exact Src.ofSlice w hk _ m.length cap news n1 (fun j u hj=>by rw[addr_add];exact n2 j u hj) n3
theorem Tc{I:Nat→Nat→Prop}{s:List UInt8}{tx:TypeId}(hk:(∃e',P.underlying tx=some (.slice e'))∨P.underlying tx=some .string) :
  ∃news,Src P 1 tx (.string ⟨s.toArray⟩) (ai s).length news w∧dS w I (.int .u8) (ai s:List Int) news:=by
 have hlen:(ai s).length=(⟨s.toArray⟩:ByteArray).size:=by simp[ai,ByteArray.size]
 refine⟨byteCells ⟨s.toArray⟩,by rw[hlen];exact⟨hk,fun _=>rfl,firstCells_string _ w,firstCells_string _ w.drew,by rw[byteCells_length,Nat.mul_one],fun u hu=>by
  obtain⟨_,_,rfl⟩:=List.mem_map.1 hu
  rfl⟩,fun i x hx=>?_⟩
 have hx':(ai s)[i]?=some x:=hx
 simp only[ai,List.getElem?_map] at hx'
 cases hb:s[i]? with
 | none=>rw[hb] at hx';cases hx'
 | some b =>
   rw[hb] at hx'
   obtain rfl:(b.toNat:Int)=x:=Option.some.inj hx'
   refine⟨?_,IC b⟩
   apply List.ext_getElem?
   intro j
   rw[List.getElem?_take]
   split
   ·rename_i hj
    obtain rfl:j=0:=by simp[Ty.size] at hj;exact hj
    rw[List.getElem?_drop]
    simp[byteCells,Ty.size,hb]
   ·rename_i hj
    rw[List.getElem?_eq_none (by simp[Ty.size] at hj⊢;omega)]
theorem wE{I:Nat→Nat→Prop}{t tx ty eB:TypeId}{e:Ty}{l m:List e.den}{base:Option Addr}{sCap:Nat}{olds news:List Value}{x:Value}(ht:P.underlying t=some (.slice eB))(he:Den P e eB)(hb:BA P eB=true)
  (hold:(Builtin.firstCells e.size l.length (.slice base l.length sCap)).run P w.drew=.ok olds.toArray w.drew) (hol:olds.length=l.length*e.size) (ho:dS w I e l olds)
  (hs:Src P e.size tx x m.length news w) (hn:dS w I e m news) (hg:sCap<l.length+m.length) (hf:l.length+m.length≤4294967296) :
  ∃(cap:Nat) (cells:Array Value),(Builtin.append_ #[t,tx] ty #[.slice base l.length sCap,x]).run P w=.ok (.slice (some ⟨w.heap.size,0,none⟩) (l.length+m.length) cap) (w.drew.alloc (.cells cells eB)) ∧
   l.length+m.length≤cap∧cap≤maxLen∧cells.size=cap*e.size∧dS w I e (l++m) cells.toList:=by
 obtain⟨ie,ze,e1,e2,e3,e4⟩:=he.info
 have hby:=wB hb e1
 have hfit:=growslice_fits (need:=l.length+m.length) (old:=sCap) (bytes:=ie.bytes) hg (by
  have:(l.length+m.length)*ie.bytes≤4294967296*32768:=Nat.mul_le_mul hf hby
  omega)
 have hrun:=run_append_grow_src (P:=P) w t tx ty eB ie ze ht e1 e3 base l.length sCap olds (by rw[e2];exact hold) x m.length news (by rw[e2];exact hs) hg (by omega) hfit
 have hge:=grownCap_ge w (l.length+m.length) sCap eB
 have hle:=grownCap_le_maxLen w (l.length+m.length) sCap eB (by have:=zd;omega)
 have hzl:ze.cells.size=e.size:=by rw[←dF e,←e4];simp
 refine⟨_,_,hrun,hge,hle,?_,?_⟩
 ·have QJ:=hs.newsLen
  have hsz:(Builtin.zeroCells ze.cells (grownCap w (l.length+m.length) sCap eB-(l.length+m.length))).size=(grownCap w (l.length+m.length) sCap eB-(l.length+m.length))*e.size:=by
   simp[Builtin.zeroCells,hzl]
  rw[Array.size_append,hsz]
  simp only[List.size_toArray,List.length_append,hol,QJ]
  rw[←Nat.add_mul,←Nat.add_mul]
  congr 1;omega
 ·rw[Array.toList_append]
  exact ho.append hn hol hs.newsLen
theorem bz.grow{mem:Nat→Option bL}(h:bz B γ mem w){b:Nat}{bx:bL}(hb:mem b=some bx){e:Ty}{l l':List e.den}(bF:bx.buf=true)(hval:bx.val=.data (.slice e) l){blk cap:Nat}(hl:γ.loc b=some (blk,cap))
  {cur cur':Array Value} {t:TypeId} {fr:Nat×Nat} (hg:w.heap[blk]?=some (.cells cur t fr)) (JY:SY e cur fr) (gk:bx.tid=0∨t=bx.tid) (hs:cur'.size=cur.size) (hsame:∀o,o<l.length*e.size→cur'[o]?=cur[o]?)
  (he:0<e.size) (hle:l.length≤l'.length) (hcap:l'.length≤cap) (hmax:cap≤maxLen) (hsz:cur.size=cap*e.size) (hel:dS w γ.I e l' cur'.toList) :
  let fJ:bL:={ bx with val:=.data (.slice e) l',ax:=bx.ax+1 }
  bz B γ (cc mem b fJ) (w.setRow blk cur')∧Ext B γ mem w γ (cc mem b fJ) (w.setRow blk cur'):=by
 intro fJ
 have hf:=h.fresh b blk cap (by rw[hb];simp) hl
 have Qz:=setRow_heap w blk cur cur' t fr hg
 have tc:∀i,i≠blk→(w.setRow blk cur').heap[i]?=w.heap[i]?:=fun i hi=>setRow_other w blk i cur' (fun e=>hi e)
 have hrow:=bL.cV bF hval
 have hx:Ext B γ mem w γ (cc mem b fJ) (w.setRow blk cur') :=
  { below:=⟨rfl,rfl,rfl,by simp,fun i hi=>tc i (fun e=>hi (by rw[e];exact hf.1))⟩
    I:=fun _ _ x=>x
    nh:=fun _ _ x=>.inl x
    cells:=fun c o x=>by
     by_cases e':c=blk
     ·subst e'
      have:=(h.sep b bx c cap o hb hl x).2 bF e l.length hrow
      rw[cell_of_heap Qz,cell_of_heap hg]
      exact hsame o this
     ·exact cQ (tc c e')
    boxes:=fun c cx hc=>by
     by_cases e':c=b
     ·subst e'
      obtain rfl:cx=bx:=Option.some.inj (hc.symm.trans hb)
      exact⟨fJ,bt _ _,Nat.le_succ _,fun k=>absurd k (by simp[fJ])⟩
     ·exact⟨cx,by rw[aM _ e'];exact hc,Nat.le_refl _,fun _=>⟨rfl,rfl,rfl⟩⟩ }
 refine⟨?_,hx⟩
 exact
  { aU:=h.zY hx
    base:=by have:=h.base;simpa using this
    boxes:=fun c cx hc=>by
     by_cases e':c=b
     ·subst e'
      rw[bt] at hc
      obtain rfl:=Option.some.inj hc
      unfold cw
      simp only[fJ,bF]
      exact⟨e,l',rfl,he,.inr ⟨blk,cap,cur',t,fr,hl,Qz,JY.same hs,gk,hcap,hmax,by rw[hs];exact hsz,fun i x hi=>bE.mono hx.I hx.cells (hel i x hi)⟩⟩
     ·rw[aM _ e'] at hc
      refine(h.boxes c cx hc).keep hx rfl fun cU k' hl'=>tc cU fun e2=>e' ?_
      subst e2
      exact h.inj c b cU k' cap (by rw[hc];simp) (by rw[hb];simp) hl' hl
    inj:=fun c d cU k1 k2 hc hd h1 h2=>h.inj c d cU k1 k2 (by
     by_cases e:c=b
     ·subst e;rw[hb];simp
     ·rwa [aM _ e] at hc) (by
     by_cases e:d=b
     ·subst e;rw[hb];simp
     ·rwa [aM _ e] at hd) h1 h2
    fresh:=fun c cU k' hc h1=>by
     have:=h.fresh c cU k' (by
      by_cases e:c=b
      ·subst e;rw[hb];simp
      ·rwa [aM _ e] at hc) h1
     exact⟨this.1,by simpa using this.2⟩
    qu:=fun cU off hi=>by have:=h.qu cU off hi;simpa using this
    sep:=fun c cx cU k' off hc h1 hi=>by
     by_cases e':c=b
     ·subst e'
      rw[bt] at hc
      obtain rfl:=Option.some.inj hc
      obtain⟨s1,s2⟩:=h.sep c bx cU k' off hb h1 hi
      refine⟨s1,fun _ u n hr=>?_⟩
      have hr2:fJ.row=some (e,l'.length):=bL.cV (bx:=fJ) bF rfl
      rw[hr2] at hr
      obtain⟨rfl,rfl⟩:=Prod.mk.inj (Option.some.inj hr)
      have:=s2 bF e l.length hrow
      exact Nat.lt_of_lt_of_le this (Nat.mul_le_mul_right _ hle)
     ·rw[aM _ e'] at hc
      exact h.sep c cx cU k' off hc h1 hi }
theorem QK(hm:bz B γ σ.mem w){e:Ty}{m:List e.den}{x:aQ}{v:Value}{tx t0 e':TypeId}(hk0:(∃e',P.underlying tx=some (.slice e'))∨P.underlying tx=some .string)(hk:P.underlying t0=some (.slice e'))
  (hv:b8 γ σ.mem w x .val [v]) (h:rI e σ x=some m):∃news,Src P e.size tx v m.length news w∧dS w γ.I e m news:=by
 unfold rI at h
 split at h
 ·rename_i t
  obtain⟨q,hq⟩:=ji h
  subst q;subst hq
  obtain⟨ev,_⟩:=td hv
  rw[ev]
  exact Tc hk0
 ·exact Tb hk0 hk (oE hm hv h)
theorem uR{α:Type}{c:Bool}{t:Tree α}{y:α}(h:(bif c then .fail else t).run=some y):c=false∧t.run=some y:=by
 cases c with
 | true=>cases h
 | false=>exact⟨rfl,h⟩
theorem nq{base:Option Addr}{t tx ty eB:TypeId}{size:Nat}{x:Value}{news:List Value}(ht:P.underlying t=some (.slice eB))(hsz:(Go.sizeOf eB).run P w=.ok size w)(hs:Src P size tx x 0 news w) :
  (Builtin.append_ #[t,tx] ty #[.slice base 0 0,x]).run P w=.ok (.slice base 0 0) w:=by
 cases base with
 | none=>rcases hs.kind with ⟨e',hk⟩|hk<;>simp[Builtin.append_,run_underlying ht,run_underlying hk,hsz,hs.len,hs.cells]
 | some ad =>
   have hn:news=[]:=by have:=hs.newsLen;simpa using this
   subst hn
   rcases hs.kind with ⟨e',hk⟩|hk<;>simp[Builtin.append_,run_underlying ht,run_underlying hk,hsz,hs.len,hs.cells,storeCells]
theorem yf(size:Nat)(base:Option Addr):(Builtin.firstCells size 0 (.slice base 0 0)).run P w=.ok #[] w:=by
 cases base with
 | none=>exact run_firstCells_none w size 0 0 0
 | some ad=>exact run_firstCells_some w size 0 ad 0 0 [] (by simp) (fun j v hj=>by cases hj)
theorem nr{t tx ty eB:TypeId}{size:Nat}{x:Value}{news:List Value}{n sLen sCap blk:Nat}{cur:Array Value}{tt:TypeId}{fr:Nat×Nat}(ht:P.underlying t=some (.slice eB))(hsz:(Go.sizeOf eB).run P w=.ok size w)
  (hs:Src P size tx x n news w) (hg:w.heap[blk]?=some (.cells cur tt fr)) (JY:l9 cur fr) (hroom:sLen+n≤sCap) (hle:sLen*size+news.length≤cur.size) :
  (Builtin.append_ #[t,tx] ty #[.slice (some ⟨blk,0,none⟩) sLen sCap,x]).run P w=.ok (.slice (some ⟨blk,0,none⟩) (sLen+n) sCap) (w.setRow blk (splice cur.toList (sLen*size) news).toArray):=by
 have hst:=dD (P:=P) blk (sLen*size) tt fr news 0 cur w hg JY (by omega) hs.one
 simp only[Nat.add_zero] at hst
 rcases hs.kind with ⟨e',hk⟩|hk<;>simp[Builtin.append_,run_underlying ht,run_underlying hk,hsz,hs.len,hroom,hs.cells,addr_add,hst]
theorem zf{cs es:List Value}{k o:Nat}(h:o<k)(hk:k≤cs.length):(splice cs k es)[o]?=cs[o]?:=by
 rw[splice,List.append_assoc,List.getElem?_append_left (by rw[List.length_take];omega),List.getElem?_take,if_pos h]
theorem BJ(hc:eG P cx){nb:Nat}{t tx ty:TypeId}{s x:Operand}(h:cG B N γ σ a w)(hd:∀k,d=some k→k<N)(hk0:(∃e',P.underlying tx=some (.slice e'))∨P.underlying tx=some .string)
  (hr:(fP cx nb d t (cq σ s) (cq σ x) σ).run=some σ'):mb P B N γ σ a w d (Builtin.append_ #[t,tx] ty #[a.eval s,a.eval x]) σ':=by
 have hvs:=h.cq s
 have Ta:=h.cq x
 unfold fP at hr
 split at hr
 case h_2=>exact absurd hr (by intro k;cases k)
 rename_i _ _ k e hT
 obtain⟨eB,f1,f2,f3,f4⟩:=(hc.T _ _ hT).slice
 have hsz:=f2.sizeOf w
 split at hr
 case h_2=>exact absurd hr (by intro k;cases k)
 rename_i m hm
 have hm:rI e σ (cq σ x)=some m:=hm
 obtain⟨news,n1,n2⟩:=QK h.ok hk0 f1 Ta hm
 split at hr
 ·rename_i hs
  rw[hs] at hvs
  obtain Qg:a.eval s=_:=by simpa [b8] using hvs
  obtain⟨hf,hr2⟩:=b9 hr
  have hf:m.length≤4294967296:=Em hf
  obtain⟨ax,aZ,iR⟩:=dw hr2
  obtain rfl:=Option.some.inj iR
  rw[Qg]
  rcases Nat.eq_zero_or_pos m.length with h0|h0
  ·obtain rfl:m=[]:=List.length_eq_zero_iff.1 h0
   obtain⟨m1,m2⟩:=h.ok.Ef (b:=nb+k) (tid:=0) aZ f4
   refine⟨_,_,_,nq f1 hsz n1,h.step m2 m1 (hd k rfl) ?_,m2⟩
   exact⟨⟨_,rfl,rfl⟩,fN (bt _ _) rfl ⟨e,0,rfl,rfl,.inl ⟨by simp[bD],rfl⟩⟩⟩
  ·obtain⟨cap,cells,g1,g2,g3,g4,g5⟩:=wE (I:=γ.I) (ty:=ty) (l:=([]:List e.den)) (base:=none) (sCap:=0) (olds:=[]) f1 f2 f3 (by simpa using run_firstCells_none w.drew e.size 0 0 0) (by simp) (fun i x hx=>by cases hx) n1 n2
    (by simpa using h0) (by simpa using hf)
   simp only[List.length_nil,Nat.zero_add,List.nil_append] at g1 g2 g5
   obtain⟨m1,m2⟩:=h.ok.Iu (b:=nb+k) (e:=e) (l:=m) (tid:=0) (ax:=ax) (cap:=cap) aZ f4 ((rM.refl B w).drew.alloc h.ok.base _) (cr w.drew _) (heap_alloc_new w.drew _) (tY _ _) (.inl rfl) g2 g3 g4 g5
   refine⟨_,_,_,g1,h.step m2 m1 (hd k rfl) ?_,m2⟩
   exact uc (bx:={ val:=.data (.slice e) m,tid:=0,buf:=true,ro:=false,lk:=false,ax }) (e:=e) (n:=m.length) rfl rfl
 ·rename_i b ax hs
  rw[hs] at hvs
  split at hr
  case h_2=>exact absurd hr (by intro k;cases k)
  rename_i bx l hb hl
  obtain⟨fJ,hb',aZ,bF,kJ⟩:∃bx,σ.mem b=some bx∧bx.ax=ax∧bx.buf=true∧bx.val=.data (.slice e) l:=by
   rcases jY hl with q|⟨q,_⟩|⟨b',OT,fJ,q,h1,h2,h3,h4⟩|⟨_,_,_,_,_,q,_⟩
   ·cases q
   ·cases q
   ·cases q;exact⟨fJ,h1,h2,h3,h4⟩
   ·cases q
  obtain rfl:bx=fJ:=Option.some.inj (hb.symm.trans hb')
  ·obtain⟨hlk,jl⟩:=uR hr
   obtain⟨hf,hr2⟩:=b9 jl
   obtain rfl:=Option.some.inj hr2
   have hf:l.length+m.length≤4294967296:=by
    have:fits (((l.length+m.length:Nat)):Int)=true:=by rw[←hf];simp[plus,len]
    exact Em this
   have gk:bx.tid=0∨eB=bx.tid:=by
    simp only[Bool.or_eq_false_iff,Bool.not_eq_false'] at hlk
    have h2:=hlk.2
    unfold UA at h2
    simp only[Bool.or_eq_true] at h2
    rcases h2 with h2|h2
    ·exact .inl (Nat.eq_of_beq_eq_true h2)
    ·split at h2
     ·rename_i e' he'
      have:=hc.els _ _ he'
      rw[f1] at this
      have h4:eB=e':=by injection this with this;injection this
      exact .inr (h4.trans (Nat.eq_of_beq_eq_true h2))
     ·cases h2
   subst aZ
   obtain⟨e2,n2',g1,g2,g3⟩:=aW hb rfl hvs.2
   rw[bL.cV bF kJ] at g2
   obtain⟨rfl,rfl⟩:=Prod.mk.inj (Option.some.inj g2)
   have gz:=h.ok.boxes b bx hb
   rw[cw,bF] at gz
   obtain⟨e3,l3,q1,q2,q3⟩:=gz
   rw[kJ] at q1
   cases q1
   have Gr:(app (α:=e.den) l m).length=l.length+m.length:=List.length_append
   rcases g3 with ⟨g3,g4⟩|⟨blk,cap,g3,g4⟩
   ·obtain Qg:a.eval s=_:=by simpa using g4
    have hl0:l=[]:=by
     rcases q3 with ⟨_,q3⟩|⟨blk,cap,cur,tid,fr,q3,_⟩
     ·exact q3
     ·rw[g3] at q3;cases q3
    subst hl0
    rw[Qg]
    rcases Nat.eq_zero_or_pos m.length with h0|h0
    ·obtain rfl:m=[]:=List.length_eq_zero_iff.1 h0
     have pR:cw (bD γ b none) (cc σ.mem b { bx with val:=.data (.slice e) ([]:List e.den),ax:=bx.ax+1 }) w b { bx with val:=.data (.slice e) ([]:List e.den),ax:=bx.ax+1 }:=by
      unfold cw
      simp only[bF]
      exact⟨e,[],rfl,f4,.inl ⟨by simp[bD],rfl⟩⟩
     have Gi:∀cK,σ.mem b=some cK→cK.ax<bx.ax+1:=fun cK h0=>by rw[hb] at h0;obtain rfl:=Option.some.inj h0;omega
     have m1:=h.ok.add (L:=none) Gi (rM.refl B w) (fun _ _=>rfl) (fun blk k e=>by cases e) pR
     have m2:=qL (L:=none) h.ok (bx:={ bx with val:=.data (.slice e) ([]:List e.den),ax:=bx.ax+1 }) Gi (rM.refl B w) (fun _ _=>rfl)
     refine⟨_,_,_,nq f1 hsz n1,h.step m2 m1 (hd k rfl) ?_,m2⟩
     exact⟨⟨_,rfl,rfl⟩,fN (bt _ _) rfl ⟨e,0,bF,bL.cV (bx:={ bx with val:=.data (.slice e) ([]:List e.den),ax:=bx.ax+1 }) bF rfl,.inl ⟨by simp[bD],rfl⟩⟩⟩
    ·obtain⟨cap,cells,j1,j2,j3,j4,j5⟩:=wE (I:=γ.I) (ty:=ty) (l:=([]:List e.den)) (base:=none) (sCap:=0) (olds:=[]) f1 f2 f3 (by simpa using yf (w:=w.drew) e.size none) (by simp) (fun i x hx=>by cases hx) n1 n2
      (by simpa using h0) (by simpa using hf)
     have Gi:∀cK,σ.mem b=some cK→cK.ax<bx.ax+1:=fun cK h0=>by rw[hb] at h0;obtain rfl:=Option.some.inj h0;omega
     have hw:rM B w (w.drew.alloc (.cells cells eB)):=(rM.refl B w).drew.alloc h.ok.base _
     have m2:=qL (L:=some (w.heap.size,cap)) h.ok (bx:={ bx with val:=.data (.slice e) (app (α:=e.den) [] m),ax:=bx.ax+1 }) Gi hw (cr w.drew _)
     have pR:cw (bD γ b (some (w.heap.size,cap))) (cc σ.mem b { bx with val:=.data (.slice e) (app (α:=e.den) [] m),ax:=bx.ax+1 }) (w.drew.alloc (.cells cells eB)) b { bx with val:=.data (.slice e) (app (α:=e.den) [] m),ax:=bx.ax+1 }:=by
      unfold cw
      simp only[bF]
      exact⟨e,_,rfl,f4,.inr ⟨w.heap.size,cap,cells,eB,(0,0),by simp[bD],heap_alloc_new w.drew _,tY _ _,gk,by rw[Gr];exact j2,j3,j4,fun i x hi=>bE.mono m2.I m2.cells (j5 i x hi)⟩⟩
     have m1:=h.ok.add (L:=some (w.heap.size,cap)) Gi hw (cr w.drew _) (fun blk k e=>by obtain⟨rfl,rfl⟩:=Prod.mk.inj (Option.some.inj e);exact⟨Nat.le_refl _,(Array.getElem?_eq_some_iff.1 (heap_alloc_new w.drew _)).1⟩) pR
     refine⟨_,_,_,j1,h.step m2 m1 (hd k rfl) ?_,m2⟩
     exact uc (bx:={ bx with val:=.data (.slice e) (app (α:=e.den) [] m),ax:=bx.ax+1 }) (e:=e) (n:=List.length (α:=e.den) []+m.length) bF (by rw[←Gr];exact bL.cV (bx:={ bx with val:=.data (.slice e) (app (α:=e.den) [] m),ax:=bx.ax+1 }) bF rfl)
   ·obtain Qg:a.eval s=_:=by simpa using g4
    rw[Qg]
    rcases q3 with ⟨q3,_⟩|⟨cU,cap',cur,tid,fr,q3,q4,q5,Wc,q6,q7,q8,q9⟩
    ·rw[g3] at q3;cases q3
    rw[g3] at q3
    obtain⟨rfl,rfl⟩:=Prod.mk.inj (Option.some.inj q3)
    have hcl:cur.toList.length=cap*e.size:=by simpa using q8
    have hlc:l.length*e.size≤cap*e.size:=Nat.mul_le_mul_right _ q6
    rcases Nat.lt_or_ge cap (l.length+m.length) with hgt|hle
    ·have XH:=run_firstCells_some (P:=P) w.drew e.size l.length ⟨blk,0,none⟩ l.length cap (cur.toList.take (l.length*e.size)) (by rw[List.length_take];omega) (fun j v hj=>by
      rw[addr_add]
      show w.cell? ⟨blk,0+j,none⟩=some v
      rw[cell_of_heap q4]
      rw[List.getElem?_take] at hj
      split at hj
      ·simpa using hj
      ·cases hj)
     obtain⟨cap2,cells,j1,j2,j3,j4,j5⟩:=wE (I:=γ.I) (ty:=ty) (l:=l) (base:=some ⟨blk,0,none⟩) (sCap:=cap) f1 f2 f3 XH (by rw[List.length_take];omega) (dS.front q9 (Nat.le_refl _) (by omega)) n1 n2 hgt hf
     have Gi:∀cK,σ.mem b=some cK→cK.ax<bx.ax+1:=fun cK h0=>by rw[hb] at h0;obtain rfl:=Option.some.inj h0;omega
     have hw:rM B w (w.drew.alloc (.cells cells eB)):=(rM.refl B w).drew.alloc h.ok.base _
     have m2:=qL (L:=some (w.heap.size,cap2)) h.ok (bx:={ bx with val:=.data (.slice e) (app (α:=e.den) l m),ax:=bx.ax+1 }) Gi hw (cr w.drew _)
     have pR:cw (bD γ b (some (w.heap.size,cap2))) (cc σ.mem b { bx with val:=.data (.slice e) (app (α:=e.den) l m),ax:=bx.ax+1 }) (w.drew.alloc (.cells cells eB)) b { bx with val:=.data (.slice e) (app (α:=e.den) l m),ax:=bx.ax+1 }:=by
      unfold cw
      simp only[bF]
      exact⟨e,_,rfl,f4,.inr ⟨w.heap.size,cap2,cells,eB,(0,0),by simp[bD],heap_alloc_new w.drew _,tY _ _,gk,by rw[Gr];exact j2,j3,j4,fun i x hi=>bE.mono m2.I m2.cells (j5 i x hi)⟩⟩
     have m1:=h.ok.add (L:=some (w.heap.size,cap2)) Gi hw (cr w.drew _) (fun blk k e=>by obtain⟨rfl,rfl⟩:=Prod.mk.inj (Option.some.inj e);exact⟨Nat.le_refl _,(Array.getElem?_eq_some_iff.1 (heap_alloc_new w.drew _)).1⟩) pR
     refine⟨_,_,_,j1,h.step m2 m1 (hd k rfl) ?_,m2⟩
     exact uc (bx:={ bx with val:=.data (.slice e) (app (α:=e.den) l m),ax:=bx.ax+1 }) (e:=e) (n:=l.length+m.length) bF (by rw[←Gr];exact bL.cV (bx:={ bx with val:=.data (.slice e) (app (α:=e.den) l m),ax:=bx.ax+1 }) bF rfl)
    ·have QJ:=n1.newsLen
     have hmul:(l.length+m.length)*e.size≤cap*e.size:=Nat.mul_le_mul_right _ hle
     rw[Nat.add_mul] at hmul
     have hlen:l.length*e.size+news.length≤cur.toList.length:=by rw[QJ,hcl];exact hmul
     have hrun:=nr (P:=P) (t:=t) (tx:=tx) (ty:=ty) (sCap:=cap) f1 hsz n1 q4 q5.th hle (by simpa using hlen)
     have QG:(splice cur.toList (l.length*e.size) news).toArray.size=cur.size:=by have:=bN hlen;simpa using this
     obtain⟨m1,m2⟩:=h.ok.grow hb bF kJ g3 q4 q5 Wc (cur':=(splice cur.toList (l.length*e.size) news).toArray) (l':=app (α:=e.den) l m) QG (fun o ho=>by
      have:=zf (es:=news) ho (by omega:l.length*e.size≤cur.toList.length)
      simpa using this) f4 (by rw[Gr];omega) (by rw[Gr];exact hle) q7 q8 (by
      have:=(dS.front q9 (Nat.le_refl _) (by omega:l.length*e.size≤cur.toList.length)).append (rest:=cur.toList.drop (l.length*e.size+news.length)) n2 (by rw[List.length_take];omega) QJ
      exact this)
     refine⟨_,_,γ,hrun,h.step m2 m1 (hd k rfl) ?_,m2⟩
     exact⟨⟨_,rfl,rfl⟩,fN (bt _ _) rfl ⟨e,l.length+m.length,bF,by rw[←Gr];exact bL.cV (bx:={ bx with val:=.data (.slice e) (app (α:=e.den) l m),ax:=bx.ax+1 }) bF rfl,.inr ⟨blk,cap,g3,rfl⟩⟩⟩
 ·exact absurd hr (by intro k;cases k)
end
end Go.Ge
namespace Go.Ge
set_option linter.unusedVariables false
set_option linter.unusedSimpArgs false
open RowKit
def gb(w:World)(I:Nat→Nat→Prop):(A:Ty)→A.den→List Value→Prop
 | .pair t r,x,vs=>∃cs rest,vs=bQ t cs::rest∧bE w I t x.1 cs∧gb w I r x.2 rest
 | .unit,_,vs=>vs=[]
 | _,_,_=>False
def jJ(w:World)(I:Nat→Nat→Prop)(R:Ty)(y:R.den)(v:Value):Prop:=b8 ⟨I,fun _=>none⟩ (fun _=>none) w (rH R y) .val [v]
structure Holds (P:Program) (G:eJ) (f:Nat) (c:cZ):Prop where
 body:∃fn code,P.funcs[f]?=some fn∧(fn.name == "runtime.NumGoroutine")=false∧fn.body=some code
 calls:∀(I:Nat→Nat→Prop) (w:World) (args:Array Value) (x:c.A.den) (y:c.R.den),(∀b o,I b o→b<w.heap.size)→Bz G w→gb w I c.A x args.toList→c.spec x=some y →
  Calls P f args w fun e w'=>∃v I',e=.returned v∧Below w.heap.size w w'∧(∀b o,I b o→I' b o)∧(∀b o,I' b o→b<w'.heap.size)∧(∀b o,I' b o→¬I b o→w.heap.size≤b)∧jJ w' I' c.R y v
def mg(P:Program)(G:eJ)(name:String)(c:cZ):Prop :=
 ∀(I:Nat→Nat→Prop) (w:World) (v:Value) (xs:List Value) (x:c.A.den) (y:c.R.den),(∀b o,I b o→b<w.heap.size)→Bz G w→gb w I c.A x (v::xs)→c.spec x=some y →
  ∃f u,(callMethod v name xs.toArray).run P w=(callFunc f (u::xs).toArray).run P w∧(∃fn code,P.funcs[f]?=some fn∧(fn.name == "runtime.NumGoroutine")=false∧fn.body=some code) ∧
  Calls P f (u::xs).toArray w fun e w'=>∃v I',e=.returned v∧Below w.heap.size w w'∧(∀b o,I b o→I' b o)∧(∀b o,I' b o→b<w'.heap.size)∧(∀b o,I' b o→¬I b o→w.heap.size≤b)∧jJ w' I' c.R y v
theorem Eo{P:Program}{G:eJ}{name:String}{B R:Ty}:mg P G name ⟨.pair .vQ B,R,fun _=>none⟩:=fun I w v xs x y _ _ _ h=>by cases h
theorem j7{P:Program}{G:eJ}{name:String}{u f:Nat}{a r B R:Ty}{s:a.den×B.den→Option R.den}{t:r.den×B.den→Option R.den}(h:Holds P G f ⟨.pair a B,R,s⟩)
  (hm:∀(v:Value) (w:World),(method (P.types.size+Made.depth) u v name).run P w=.ok (f,v) w) (hk:r.isAgg=false) (hr:mg P G name ⟨.pair r B,R,t⟩) :
  mg P G name ⟨.pair (.alt u a r) B,R,fun x=>pick (fun y=>s (y,x.2)) (fun z=>t (z,x.2)) x.1⟩:=by
 intro I w v xs x y hI hG ha hs
 obtain⟨x1,x2⟩:=x
 obtain⟨cs,rest,e1,h1,h2⟩:=ha
 obtain⟨ev,rfl⟩:=List.cons.inj e1
 rcases x1 with p|q
 ·obtain⟨h3,c,rfl,h4⟩:=h1
  refine⟨f,bQ a c,?_,h.body,h.calls I w (bQ a c::xs).toArray (p,x2) y hI hG ⟨c,xs,rfl,h4,h2⟩ hs⟩
  have he:v=.iface u (bQ a c):=by
   rw[ev]
   show bQ r [Value.iface u (bQ a c)]=_
   unfold bQ
   rw[hk];rfl
  rw[he]
  have hm':=hm (bQ a c) w
  unfold callMethod
  simp only[Sem.run_bind,run_program,Result.andThen_ok,hm']
  simp
 ·exact hr I w v xs (q,x2) y hI hG ⟨cs,xs,by rw[ev];rfl,h1,h2⟩ hs
theorem bz.Xe{B:nY}{γ:Gh}{mem:Nat→Option bL}{w w':World}(h:bz B γ mem w)(hw:Below w.heap.size w w'){I':Nat→Nat→Prop}(hI:∀b o,γ.I b o→I' b o)(UG:∀b o,I' b o→b<w'.heap.size)
  (hnew:∀b o,I' b o→¬γ.I b o→w.heap.size≤b):bz B ⟨I',γ.loc⟩ mem w'∧Ext B γ mem w ⟨I',γ.loc⟩ mem w':=by
 have hx:Ext B γ mem w ⟨I',γ.loc⟩ mem w' :=
  { below:=.of ⟨hw.os,hw.tape,hw.output,hw.size,fun k hk=>hw.block k (Nat.lt_of_lt_of_le hk h.base)⟩
    I:=hI
    nh:=fun b o x=>by
     by_cases hi:γ.I b o
     ·exact .inl hi
     ·exact .inr (.inl (Nat.le_trans h.base (hnew b o x hi)))
    cells:=fun b o hi=>cQ (hw.block b (h.qu b o hi))
    boxes:=fun b bx hb=>⟨bx,hb,Nat.le_refl _,fun _=>⟨rfl,rfl,rfl⟩⟩ }
 refine⟨?_,hx⟩
 exact
  { aU:=h.zY hx
    base:=Nat.le_trans h.base hw.size
    boxes:=fun b bx hb=>(h.boxes b bx hb).keep hx rfl fun blk k hl=>hw.block blk (h.fresh b blk k (by rw[hb];simp) hl).2
    inj:=h.inj
    fresh:=fun b blk k hb hl=>by have:=h.fresh b blk k hb hl;exact⟨this.1,Nat.lt_of_lt_of_le this.2 hw.size⟩
    qu:=UG
    sep:=fun b bx blk k off hb hl hi=>by
     by_cases SK:γ.I blk off
     ·exact h.sep b bx blk k off hb hl SK
     ·have h1:=hnew blk off hi SK
      have h2:=(h.fresh b blk k (by rw[hb];simp) hl).2
      omega }
theorem OY{w:World}{γ γ':Gh}{mem mem':Nat→Option bL}(hI:∀b o,γ.I b o→γ'.I b o):∀{R:Ty} {y:R.den} {vs:List Value},b8 γ mem w (v7 R y) .many vs→b8 γ' mem' w (v7 R y) .many vs:=by
 intro R
 induction R with
 | pair t r D3 ihr =>
   intro y vs h
   obtain⟨v,rest,h0,⟨cs,h1,h2⟩,h3⟩:=h
   exact⟨v,rest,h0,⟨cs,bE.mono hI (fun _ _ _=>rfl) h1,h2⟩,ihr h3⟩
 | _=>intro y vs h;exact h
theorem Ah(R:Ty)(y:R.den):(∃t,∃q:R=.pair t .unit,rH R y=.data t (show(Ty.pair t .unit).den from q▸y).1)∨rH R y=.yT (v7 R y):=by
 cases R with
 | pair t r =>
   cases r with
   | unit=>exact .inl ⟨t,rfl,rfl⟩
   | _=>exact .inr rfl
 | _=>exact .inr rfl
theorem jJ.rep{w:World}{I:Nat→Nat→Prop}{R:Ty}{y:R.den}{v:Value}(h:jJ w I R y v){γ:Gh}{mem:Nat→Option bL}(hI:∀b o,I b o→γ.I b o):b8 γ mem w (rH R y) .val [v]:=by
 unfold jJ at h
 rcases Ah R y with ⟨t,q,hq⟩|hq
 ·rw[hq] at h⊢
  obtain⟨cs,h1,h2⟩:=h
  exact⟨cs,bE.mono hI (fun _ _ _=>rfl) h1,h2⟩
 ·rw[hq] at h⊢
  obtain⟨arr,h1,h2⟩:=h
  exact⟨arr,h1,OY hI h2⟩
theorem Ep{w w':World}{γ γ':Gh}{mem mem':Nat→Option bL}:∀{R:Ty} {y:R.den} {vs:List Value},R.flat=true→b8 γ mem w (v7 R y) .many vs→b8 γ' mem' w' (v7 R y) .many vs:=by
 intro R
 induction R with
 | pair t r D3 ihr =>
   intro y vs hf h
   simp only[Ty.flat,Bool.and_eq_true] at hf
   obtain⟨v,rest,h0,⟨cs,h1,h2⟩,h3⟩:=h
   exact⟨v,rest,h0,⟨cs,bE.flat hf.1 h1,h2⟩,ihr hf.2 h3⟩
 | _=>intro y vs hf h;exact h
theorem jJ.flat{w w':World}{I:Nat→Nat→Prop}{R:Ty}{y:R.den}{v:Value}(h:jJ w I R y v){γ:Gh}{mem:Nat→Option bL}(hf:R.flat=true):b8 γ mem w' (rH R y) .val [v]:=by
 unfold jJ at h
 rcases Ah R y with ⟨t,q,hq⟩|hq
 ·rw[hq] at h⊢
  subst q
  simp only[Ty.flat,Bool.and_eq_true] at hf
  obtain⟨cs,h1,h2⟩:=h
  exact⟨cs,bE.flat hf.1 h1,h2⟩
 ·rw[hq] at h⊢
  obtain⟨arr,h1,h2⟩:=h
  exact⟨arr,h1,Ep hf h2⟩
section
variable {P:Program} {B:nY} {N:Nat} {γ:Gh} {σ σ':St} {a:Act} {w w':World} {d:Option Nat} {cx:Ctx}
theorem wz.XI{I I':Nat→Nat→Prop}{e:Ty}{l:List e.den}{v:Value}(h:wz w I e l v)(hI:∀b o,I b o→I' b o)(hc:∀blk off cap,v=.slice (some ⟨blk,off,none⟩) l.length cap→l≠[]→∀o,I' blk o) :
  bE w I' (.slice e) l [v]:=by
 rcases h with ⟨rfl,base,cap,r1,r2,r3⟩|⟨blk,off,cap,r1,r2,r3,r4⟩
 ·rcases r3 with rfl|⟨blk,off,rfl⟩
  ·exact .inl ⟨⟨base,by rw[r1]⟩,rfl⟩
  ·exact .inr ⟨blk,off,cap,by rw[r1];rfl,Nat.zero_le _,r2,fun i x hx=>by cases hx⟩
 ·refine .inr ⟨blk,off,cap,by rw[r1],r2,r3,fun i x hx=>?_⟩
  obtain⟨es,g1,g2,g3⟩:=r4 i x hx
  exact⟨es,g1,fun j c hj=>⟨g2 j c hj,hc blk off cap r1 (fun e=>by rw[e] at hx;cases hx) _⟩,bE.mono hI (fun _ _ _=>rfl) g3⟩
theorem IE(hm:bz B γ σ.mem w){e:Ty}{v:aQ}{l:List e.den}{blk off n cap:Nat}(hv:b8 γ σ.mem w v .val [.slice (some ⟨blk,off,none⟩) n cap])(hl:eX e σ v=some l)(hne:l≠[]) :
  (∃q,v=.data (.slice e) q)∨(B.has blk∧blk<w.heap.size):=by
 rcases jY hl with rfl|⟨rfl,rfl⟩|⟨b,ax,bx,rfl,hb,aZ,bF,kJ⟩|⟨b,ax,lo,n',bx,rfl,hb,aZ,Gg⟩
 ·exact .inl ⟨_,rfl⟩
 ·exact absurd rfl hne
 ·obtain⟨e',k,g1,g2,g3⟩:=aW hb aZ hv.2
  rcases g3 with ⟨g3,g4⟩|⟨cU,cap',g3,g4⟩
  ·exfalso
   have gz:=hm.boxes b bx hb
   rw[cw,bF] at gz
   obtain⟨e3,l3,q1,q2,q3⟩:=gz
   rw[kJ] at q1
   cases q1
   rcases q3 with ⟨_,q3⟩|⟨_,_,_,_,_,q3,_⟩
   ·exact hne q3
   ·rw[g3] at q3;cases q3
  ·have q1:blk=cU:=by
    have:=List.head_eq_of_cons_eq g4
    injection this with q1 _ _
    injection q1 with q1
    injection q1
   subst q1
   exact .inr (hm.fresh b blk cap' (by rw[hb];simp) g3)
 ·obtain⟨e',k,g2,g3,g4,g5,base,cap',g6,g7,g8,gF,g9⟩:=aW hb aZ hv.2
  have ZE:=List.head_eq_of_cons_eq g6
  rcases g9 with g9|⟨cU,c,g9,g10⟩
  ·exfalso
   apply hne
   rcases Gg with ⟨_,l0,_,rfl⟩|⟨_,k0,l0,_,rfl⟩<;>simp[sub,g9]
  ·injection ZE with q1 _ _
   rw[g10] at q1
   injection q1 with q1
   injection q1 with q1 _
   subst q1
   exact .inr (hm.fresh b blk c (by rw[hb];simp) g9)
theorem zg(hm:bz B γ σ.mem w){I':Nat→Nat→Prop}(hI:∀b o,γ.I b o→I' b o)(L4:∀b o,B.has b→b<w.heap.size→I' b o):∀{v:aQ} {t:Ty} {x:t.den} {cs:List Value},
  b8 γ σ.mem w v .cells cs→nW σ t v=some x→bE w I' t x cs:=by
 have sl:∀{v:aQ} {e:Ty} {l:List e.den} {cs:List Value},dY v=1→(∀c,b8 γ σ.mem w v .cells [c]→b8 γ σ.mem w v .val [c])→(∀t x,v≠.data t x)→b8 γ σ.mem w v .cells cs→eX e σ v=some l→bE w I' (.slice e) l cs:=by
  intro v e l cs h1 hval hnd hc hl
  obtain⟨c,rfl⟩:=Cq hc h1
  have hv:=hval c hc
  refine(oE hm hv hl).XI hI fun blk off cap e0 hne o=>?_
  subst e0
  rcases IE hm hv hl hne with ⟨q,hq⟩|⟨h2,h3⟩
  ·exact absurd hq (hnd _ _)
  ·exact L4 blk o h2 h3
 intro v
 induction v with
 | data u y =>
   intro t x cs hc hl
   have key:(∃q:u=t,x=q▸y):=by
    cases t with
    | slice e =>
      rcases jY (show eX e σ (.data u y)=some x from hl) with g|⟨g,_⟩|⟨_,_,_,g,_⟩|⟨_,_,_,_,_,g,_⟩
      ·injection g with g1 g2;subst g1;exact⟨rfl,(eq_of_heq g2).symm⟩
      ·cases g
      ·cases g
      ·cases g
    | _=>exact Ty.iY hl
   obtain⟨q,hq⟩:=key
   subst q;subst hq
   exact bE.mono hI (fun _ _ _=>rfl) hc
 | mix p q Mn Ka =>
   intro t x cs hc hl
   cases t with
   | pair s r =>
     obtain⟨c1,c2,rfl,h1,h2⟩:=hc
     obtain⟨y,z,hp,hq,rfl⟩:=Ad hl
     exact⟨c1,c2,rfl,Mn h1 hp,Ka h2 hq⟩
   | slice e=>exact absurd hl (by intro k;cases k)
   | _=>cases hl
 | lz =>
   intro t x cs hc hl
   cases t with
   | slice e=>exact sl (v:=.lz) rfl (fun c k=>k) (fun _ _=>by simp) hc hl
   | _=>cases hl
 | whole b ax =>
   intro t x cs hc hl
   cases t with
   | slice e=>exact sl (v:=.whole b ax) rfl (fun c k=>k) (fun _ _=>by simp) hc hl
   | _=>cases hl
 | part b ax lo n =>
   intro t x cs hc hl
   cases t with
   | slice e=>exact sl (v:=.part b ax lo n) rfl (fun c k=>k) (fun _ _=>by simp) hc hl
   | _=>cases hl
 | pN =>
   intro t x cs hc hl
   obtain rfl:cs=[.nilIface]:=hc
   exact(mB hl).1 _ _
 | _ =>
   intro t x cs hc hl
   cases t with
   | slice e=>exact absurd hl (by intro k;cases k)
   | _=>cases hl
theorem Er(hm:bz B γ σ.mem w){I':Nat→Nat→Prop}(hI:∀b o,γ.I b o→I' b o)(L4:∀b o,B.has b→b<w.heap.size→I' b o){v:aQ}{t:Ty}{x:t.den}{val:Value}
  (hv:b8 γ σ.mem w v .val [val]) (hl:nW σ t v=some x):∃cs,bE w I' t x cs∧val=bQ t cs:=by
 have one:∀{v:aQ},b8 γ σ.mem w v .cells [val]→(∃e,t=.slice e)→nW σ t v=some x→∃cs,bE w I' t x cs∧val=bQ t cs:=by
  intro v hc he hl
  obtain⟨e,rfl⟩:=he
  exact⟨[val],zg hm hI L4 hc hl,rfl⟩
 cases v with
 | data u y =>
   obtain⟨cs,h1,h2⟩:=de.1 hv
   have hc:=zg hm hI L4 (v:=.data u y) (cs:=cs) h1 hl
   refine⟨cs,hc,?_⟩
   rw[h2]
   have:u.isAgg=t.isAgg:=by
    cases t with
    | slice e =>
      rcases jY (show eX e σ (.data u y)=some x from hl) with g|⟨g,_⟩|⟨_,_,_,g,_⟩|⟨_,_,_,_,_,g,_⟩
      ·injection g with g1 g2;rw[g1]
      ·cases g
      ·cases g
      ·cases g
    | _=>obtain⟨q,_⟩:=Ty.iY hl;rw[q]
   unfold bQ
   rw[this]
 | mix p q =>
   obtain⟨c1,c2,e1,h1,h2⟩:=hv
   obtain rfl:val=_:=by simpa using e1
   have hc:=zg hm hI L4 (v:=.mix p q) (cs:=c1++c2) ⟨c1,c2,rfl,h1,h2⟩ hl
   refine⟨_,hc,?_⟩
   cases t with
   | pair s r=>rfl
   | slice e=>exact absurd hl (by intro k;cases k)
   | _=>cases hl
 | lz=>cases t with
   | slice e=>exact one hv ⟨e,rfl⟩ hl
   | _=>cases hl
 | whole b ax=>cases t with
   | slice e=>exact one hv ⟨e,rfl⟩ hl
   | _=>cases hl
 | part b ax lo n=>cases t with
   | slice e=>exact one hv ⟨e,rfl⟩ hl
   | _=>cases hl
 | pN =>
   have hv:[val]=[Value.nilIface]:=hv
   obtain rfl:val=.nilIface:=by simpa using hv
   exact⟨[.nilIface],(mB hl).1 _ _,(mB hl).2.2.1.symm⟩
 | _=>cases t with
   | slice e=>exact absurd hl (by intro k;cases k)
   | _=>cases hl
def jR(γ:Gh)(mem:Nat→Option bL)(w:World)(vs:List aQ)(xs:List Value):Prop:=xs.length=vs.length∧∀(i:Nat) v x,vs[i]?=some v→xs[i]?=some x→b8 γ mem w v .val [x]
theorem jR.cons{mem:Nat→Option bL}{v:aQ}{vs:List aQ}{xs:List Value}(h:jR γ mem w (v::vs) xs):∃x r,xs=x::r∧b8 γ mem w v .val [x]∧jR γ mem w vs r:=by
 cases xs with
 | nil=>cases h.1
 | cons x r=>exact⟨x,r,rfl,h.2 0 v x rfl rfl,by simpa using h.1,fun i v' x' h1 h2=>h.2 (i+1) v' x' h1 h2⟩
theorem jR.ext{mem mem':Nat→Option bL}{γ':Gh}{vs:List aQ}{xs:List Value}(h:jR γ mem w vs xs)(hx:Ext B γ mem w γ' mem' w'):jR γ' mem' w' vs xs:=⟨h.1,fun i v x h1 h2=>(h.2 i v x h1 h2).ext hx⟩
theorem Gs(hm:bz B γ σ.mem w){I':Nat→Nat→Prop}(hI:∀b o,γ.I b o→I' b o)(L4:∀b o,B.has b→b<w.heap.size→I' b o):∀{A:Ty} {x:A.den} {vs:List aQ} {xs:List Value},
  jR γ σ.mem w vs xs→fX σ A vs=some x→gb w I' A x xs:=by
 intro A
 induction A with
 | pair t r D3 ihr =>
   intro x vs xs h hl
   cases vs with
   | nil=>cases hl
   | cons v vs =>
     obtain⟨y,rest,rfl,h1,h2⟩:=h.cons
     simp only[fX] at hl
     split at hl
     ·rename_i p q hp hq
      obtain rfl:=Option.some.inj hl
      obtain⟨cs,c1,c2⟩:=Er hm hI L4 h1 hp
      exact⟨cs,rest,by rw[c2],c1,ihr h2 hq⟩
     ·cases hl
 | unit =>
   intro x vs xs h hl
   cases vs with
   | nil=>exact List.length_eq_zero_iff.1 h.1
   | cons v vs=>cases hl
 | _=>intro x vs xs h hl;cases vs<;>cases hl
theorem gb.mono{I I':Nat→Nat→Prop}(hI:∀b o,I b o→I' b o)(hw:∀b o,I b o→w'.cell? ⟨b,o,none⟩=w.cell? ⟨b,o,none⟩):∀{A:Ty} {x:A.den} {xs:List Value},gb w I A x xs→gb w' I' A x xs:=by
 intro A
 induction A with
 | pair t r D3 ihr=>intro x xs h;obtain⟨cs,rest,h0,h1,h2⟩:=h;exact⟨cs,rest,h0,bE.mono hI hw h1,ihr h2⟩
 | _=>intro x xs h;exact h
theorem oZ:∀{A:Ty} {x:A.den} {vs:List aQ} {xs:List Value} {σ σ':St} {γ:Gh},cG B N γ σ a w→jR γ σ.mem w vs xs→iZ σ A vs=some (x,σ') →
  ∃γ',cG B N γ' σ' a w∧Ext B γ σ.mem w γ' σ'.mem w∧gb w γ'.I A x xs:=by
 intro A
 induction A with
 | pair t r D3 ihr =>
   intro x vs xs σ σ' γ h hv hl
   cases vs with
   | nil=>cases hl
   | cons v vs =>
     obtain⟨y,rest,rfl,h1,h2⟩:=hv.cons
     simp only[iZ] at hl
     split at hl
     ·rename_i p σ1 hp
      split at hl
      ·rename_i q σ2 hq
       obtain⟨rfl,rfl⟩:=Prod.mk.inj (Option.some.inj hl)
       obtain⟨ij,s1,s2,cs,c1,c2⟩:=jZ h h1 hp
       obtain c2:y=_:=by simpa using c2
       obtain⟨BD,t1,t2,t3⟩:=ihr s1 (h2.ext s2) hq
       exact⟨BD,t1,s2.trans t2,cs,rest,by rw[c2],bE.mono t2.I t2.cells c1,t3⟩
      ·cases hl
     ·cases hl
 | unit =>
   intro x vs xs σ σ' γ h hv hl
   cases vs with
   | nil=>obtain⟨rfl,rfl⟩:=Prod.mk.inj (Option.some.inj hl);exact⟨γ,h,Ext.refl _ _ _ _,List.length_eq_zero_iff.1 hv.1⟩
   | cons v vs=>cases hl
 | _=>intro x vs xs σ σ' γ h hv hl;cases vs<;>cases hl
def QL(w:World)(I:Nat→Nat→Prop)(t:Ty)(x:t.den)(blk:Nat):Prop:=∃cur tid fr,w.heap[blk]?=some (.cells cur tid fr)∧l9 cur fr∧bE w I t x cur.toList
def tg(w:World)(I:Nat→Nat→Prop):(U:Ty)→U.den→List Nat→Prop
 | .pair t U,u,bs=>∃blk r,bs=blk::r∧QL w I t u.1 blk∧tg w I U u.2 r
 | .unit,_,bs=>bs=[]
 | _,_,_=>False
def Kd(w:World)(I:Nat→Nat→Prop):List Bool→(A U:Ty)→A.den→List Value→List Nat→Prop
 | [],A,U,_,vs,bs=>A=.unit∧U=.unit∧vs=[]∧bs=[]
 | false::ps,A,U,x,vs,bs=>match A,x with
   | .pair t A,x=>∃cs rest,vs=bQ t cs::rest∧bE w I t x.1 cs∧Kd w I ps A U x.2 rest bs
   | _,_=>False
 | true::ps,A,U,x,vs,bs=>match U with
   | .pair _ U=>∃blk rest r,vs=.pointer (some ⟨blk,0,none⟩)::rest∧bs=blk::r∧Kd w I ps A U x rest r
   | _=>False
structure jb (P:Program) (G:eJ) (f:Nat) (c:s7):Prop where
 body:∃fn code,P.funcs[f]?=some fn∧(fn.name == "runtime.NumGoroutine")=false∧fn.body=some code
 calls:∀(I:Nat→Nat→Prop) (w:World) (args:Array Value) (bs:List Nat) (x:c.A.den) (u:c.U.den) (y:c.R.den×c.U.den),(∀b o,I b o→b<w.heap.size)→Bz G w→(∀b Q,G b Q→b∉bs)→Kd w I c.ps c.A c.U x args.toList bs→tg w I c.U u bs→bs.Nodup →
  (∀blk∈bs,∀o,¬I blk o)→c.spec (x,u)=some y →
  Calls P f args w fun e w'=>∃v I',e=.returned v∧rM ⟨w.heap.size,(·∈bs),G⟩ w w'∧(∀b o,I b o→I' b o)∧(∀b o,I' b o→b<w'.heap.size)∧(∀b o,I' b o→¬I b o→w.heap.size≤b)∧jJ w' I' c.R y.1 v∧tg w' I' c.U y.2 bs
structure sC (og:Option Nat) (w w':World):Prop where
 os:w'.os=w.os
 tape:w'.tape=w.tape
 output:w'.output=w.output
 size:w.heap.size≤w'.heap.size
 block:∀k,k<w.heap.size→og≠some k→w'.heap[k]?=w.heap[k]?
 cell:∀k o,k<w.heap.size→w'.cell? ⟨k,o,none⟩=w.cell? ⟨k,o,none⟩
def ud(w:World)(I:Nat→Nat→Prop)(e:Ty)(l:List e.den)(L:Option (Nat×Nat))(v:Value):Prop :=
 (L=none∧l=[]∧v=.slice none 0 0)∨∃blk cap cur tid fr,L=some (blk,cap)∧v=.slice (some ⟨blk,0,none⟩) l.length cap∧w.heap[blk]?=some (.cells cur tid fr)∧SY e cur fr ∧
  l.length≤cap∧cap≤maxLen∧cur.size=cap*e.size∧(∀o,¬I blk o)∧∀(i:Nat) (x:e.den),l[i]?=some x→bE w I e x ((cur.toList.drop (i*e.size)).take e.size)
structure qe (w:World) (I:Nat→Nat→Prop) (X:Nat→Prop) (w':World) (I':Nat→Nat→Prop):Prop where
 below:rM ⟨w.heap.size,X,sG⟩ w w'
 held:∀b o,I b o→I' b o
 qu:∀b o,I' b o→b<w'.heap.size
 nh:∀b o,I' b o→¬I b o→w.heap.size≤b
def nu(P:Program)(f:Nat):OM→Prop
 | .Qr T=>(∃fn code,P.funcs[f]?=some fn∧(fn.name == "runtime.NumGoroutine")=false∧fn.body=some code) ∧
  ∀(w:World) (b:Nat) (p v:Value) (fr:Nat×Nat),w.heap[b]?=some (.cells #[p,v] T fr)→¬(fr.1≤0∧0<fr.2)→(p=.pointer none∨p=.pointer (some ⟨b,0,none⟩)) →
   Calls P f #[.pointer (some ⟨b,0,none⟩)] w fun e w'=>e=.returned (.tuple #[])∧(w'=w∨w'=w.setRow b #[.pointer (some ⟨b,0,none⟩),v])
 | .str T E=>(∃fn code,P.funcs[f]?=some fn∧(fn.name == "runtime.NumGoroutine")=false∧fn.body=some code) ∧
  ∀(w:World) (b:Nat) (p v:Value) (fr:Nat×Nat) (l:List UInt8) (og:Option Nat),w.heap[b]?=some (.cells #[p,v] T fr) →
   ((og=none∧v=.slice none 0 0∧l=[])∨∃(g cap:Nat) (cur:Array Value) (fr':Nat×Nat),og=some g∧v=.slice (some ⟨g,0,none⟩) l.length cap∧w.heap[g]?=some (.cells cur E fr')∧l.length≤cap∧cap≤maxLen∧cur.size=cap∧∀(j:Nat) (x:UInt8),l[j]?=some x→cur[j]?=some (Value.int .u8 x.toNat)) →
   Calls P f #[.pointer (some ⟨b,0,none⟩)] w fun e w'=>e=.returned (.string ⟨l.toArray⟩)∧sC og w w'
 | .clone e=>(∃fn code,P.funcs[f]?=some fn∧(fn.name == "runtime.NumGoroutine")=false∧fn.body=some code) ∧
  ∀(I:Nat→Nat→Prop) (w:World) (args:Array Value) (l:List e.den),(∀b o,I b o→b<w.heap.size)→gb w I (.pair (.slice e) .unit) (l,()) args.toList→fits (len l)=true →
   Calls P f args w fun q w'=>∃v I' L,q=.returned v∧qe w I (fun _=>False) w' I'∧ud w' I' e l L v∧∀blk c,L=some (blk,c)→w.heap.size≤blk
 | .own e A res spec=>(∃fn code,P.funcs[f]?=some fn∧(fn.name == "runtime.NumGoroutine")=false∧fn.body=some code) ∧
  ∀(I:Nat→Nat→Prop) (w:World) (args:Array Value) (v:Value) (rest:List Value) (l l':List e.den) (L:Option (Nat×Nat)) (x:A.den),(∀b o,I b o→b<w.heap.size)→args.toList=v::rest→ud w I e l L v→gb w I A x rest→spec l x=some l' →
   Calls P f args w fun q w'=>∃I',qe w I (fun k=>∃c,L=some (k,c)) w' I' ∧
    match res with
    | true=>∃v' L',q=.returned v'∧ud w' I' e l' L' v'∧∀blk c,L'=some (blk,c)→(∃c,L=some (blk,c))∨w.heap.size≤blk
    | false=>q=.returned (.tuple #[])∧l'.length=l.length∧ud w' I' e l' L v
structure mC (P:Program) (G:eJ) (cx:Ctx):Prop where
 cF:∀f c,find cx.cF f=some c→Holds P G f c
 bg:∀f c,find cx.bg f=some c→jb P G f c
 JR:∀f s,find cx.JR f=some s→nu P f s
 inv:∀name c,JT cx.inv name=some c→mg P G name c
def Refs(γ:Gh)(mem:Nat→Option bL):(U:Ty)→U.den→List Nat→List Nat→Prop
 | .pair t U,u,ns,bs=>∃b r blk q bx k,ns=b::r∧bs=blk::q∧b∉r∧mem b=some bx∧bx.buf=false∧bx.lk=false∧(bx.ro=false∧bx.tid=0)∧bx.val=.data t u.1∧γ.loc b=some (blk,k)∧Refs γ mem U u.2 r q
 | .unit,_,ns,bs=>ns=[]∧bs=[]
 | _,_,_,_=>False
theorem Ke{l:List Nat}{t:Nat}:cT l t=true↔t∈l:=by
 induction l with
 | nil=>simp[cT]
 | cons i r ih =>
   simp only[cT,Bool.or_eq_true,List.mem_cons,ih]
   constructor
   ·rintro(h|h)
    ·exact .inl (Nat.eq_of_beq_eq_true h)
    ·exact .inr h
   ·rintro(h|h)
    ·subst h;exact .inl (by simp)
    ·exact .inr h
theorem Refs.Es{mem:Nat→Option bL}:∀{U:Ty} {u:U.den} {ns bs:List Nat},Refs γ mem U u ns bs→∀blk∈bs,∃b bx k,b∈ns∧mem b=some bx∧bx.ro=false∧γ.loc b=some (blk,k):=by
 intro U
 induction U with
 | pair t U D3 Mt =>
   intro u ns bs h blk hb
   obtain⟨b,r,cU,q,bx,k,rfl,rfl,h1,h2,h3,h4,h5,h6,h7,h8⟩:=h
   rcases List.mem_cons.1 hb with rfl|hb
   ·exact⟨b,bx,k,List.mem_cons_self ..,h2,h5.1,h7⟩
   ·obtain⟨b',fJ,k',g1,g2⟩:=Mt h8 blk hb
    exact⟨b',fJ,k',List.mem_cons_of_mem _ g1,g2⟩
 | unit=>intro u ns bs h blk hb;rw[h.2] at hb;cases hb
 | _=>intro u ns bs h;exact h.elim
theorem Refs.nodup{mem:Nat→Option bL}(hm:bz B γ mem w):∀{U:Ty} {u:U.den} {ns bs:List Nat},Refs γ mem U u ns bs→bs.Nodup:=by
 intro U
 induction U with
 | pair t U D3 Mt =>
   intro u ns bs h
   obtain⟨b,r,blk,q,bx,k,rfl,rfl,h1,h2,h3,h4,h5,h6,h7,h8⟩:=h
   rw[List.nodup_cons]
   refine⟨fun hq=>?_,Mt h8⟩
   obtain⟨b',fJ,k',g1,g2,g3,g4⟩:=h8.Es blk hq
   have:=hm.inj b b' blk k k' (by rw[h2];simp) (by rw[g2];simp) h7 g4
   subst this
   exact h1 g1
 | unit=>intro u ns bs h;rw[h.2];exact List.nodup_nil
 | _=>intro u ns bs h;exact h.elim
theorem Refs.val{mem:Nat→Option bL}{w':World}{I':Nat→Nat→Prop}:∀{U:Ty} {u y:U.den} {ns bs:List Nat},Refs γ mem U u ns bs→tg w' I' U y bs→∀{c:Nat} {v:aQ},mV U y ns c=some v →
  ∃(t:Ty) (x z:t.den) (bx:bL) (blk k:Nat),mem c=some bx∧bx.buf=false∧bx.lk=false∧(bx.ro=false∧bx.tid=0)∧bx.val=.data t x∧v=.data t z∧γ.loc c=some (blk,k)∧blk∈bs∧QL w' I' t z blk:=by
 intro U
 induction U with
 | pair t U D3 Mt =>
   intro u y ns bs h ha c v hv
   obtain⟨b,r,blk,q,bx,k,rfl,rfl,h1,h2,h3,h4,h5,h6,h7,h8⟩:=h
   obtain⟨cU,q',e1,a1,a2⟩:=ha
   obtain⟨rfl,rfl⟩:=List.cons.inj e1
   simp only[mV] at hv
   cases hb:Nat.beq c b with
   | true =>
     rw[hb] at hv
     obtain rfl:=Nat.eq_of_beq_eq_true hb
     exact⟨t,u.1,y.1,bx,blk,k,h2,h3,h4,h5,h6,(Option.some.inj hv).symm,h7,List.mem_cons_self ..,a1⟩
   | false =>
     rw[hb] at hv
     obtain⟨t',x',z',fJ,cU,k',g1,g2,g3,g4,g5,g6,g7,g8,g9⟩:=Mt h8 a2 hv
     exact⟨t',x',z',fJ,cU,k',g1,g2,g3,g4,g5,g6,g7,List.mem_cons_of_mem _ g8,g9⟩
 | unit=>intro u y ns bs h ha c v hv;cases hv
 | _=>intro u y ns bs h;exact h.elim
theorem Refs.QM{mem:Nat→Option bL}:∀{U:Ty} {u y:U.den} {ns bs:List Nat},Refs γ mem U u ns bs→∀blk∈bs,∃b v bx k,mV U y ns b=some v∧mem b=some bx∧bx.ro=false∧γ.loc b=some (blk,k):=by
 intro U
 induction U with
 | pair t U D3 Mt =>
   intro u y ns bs h blk hb
   obtain⟨b,r,cU,q,bx,k,rfl,rfl,h1,h2,h3,h4,h5,h6,h7,h8⟩:=h
   rcases List.mem_cons.1 hb with rfl|hb
   ·exact⟨b,.data t y.1,bx,k,by simp[mV],h2,h5.1,h7⟩
   ·obtain⟨b',v',fJ,k',g1,g2⟩:=Mt (y:=y.2) h8 blk hb
    refine⟨b',?_⟩
    simp only[mV]
    cases hq:Nat.beq b' b with
    | true =>
      obtain rfl:=Nat.eq_of_beq_eq_true hq
      exact⟨.data t y.1,fJ,k',rfl,g2⟩
    | false=>exact⟨v',fJ,k',g1,g2⟩
 | unit=>intro u y ns bs h blk hb;rw[h.2] at hb;cases hb
 | _=>intro u y ns bs h;exact h.elim
theorem pS{U:Ty}{y:U.den}{ns:List Nat}{σ:St}{c:Nat}:(qJ U y ns σ).mem c=match mV U y ns c with|some v=>(match σ.mem c with|some bx=>some { bx with val:=v }|none=>none)|none=>σ.mem c:=rfl
theorem bz.refs(h:bz B γ σ.mem w){U:Ty}{u y:U.den}{ns bs:List Nat}(hr:Refs γ σ.mem U u ns bs){G:eJ}(hw:rM ⟨w.heap.size,(·∈bs),G⟩ w w'){I':Nat→Nat→Prop}(hI:∀b o,γ.I b o→I' b o)(UG:∀b o,I' b o→b<w'.heap.size)
  (hnew:∀b o,I' b o→¬γ.I b o→w.heap.size≤b) (ha:tg w' I' U y bs) :
  bz B ⟨I',γ.loc⟩ (qJ U y ns σ).mem w'∧Ext B γ σ.mem w ⟨I',γ.loc⟩ (qJ U y ns σ).mem w':=by
 have hsame:∀k,k<w.heap.size→k∉bs→w'.heap[k]?=w.heap[k]?:=fun k hk hb=>hw.block k fun q=>by
  rcases q with q|q
  ·have:w.heap.size≤k:=q;omega
  ·exact hb q
 have hown:∀blk∈bs,B.has blk∧blk<w.heap.size:=fun blk hb=>by
  obtain⟨b,bx,k,g1,g2,g3,g4⟩:=hr.Es blk hb
  exact h.fresh b blk k (by rw[g2];simp) g4
 have hfree:∀blk∈bs,∀o,¬γ.I blk o:=fun blk hb o hi=>by
  obtain⟨b,bx,k,g1,g2,g3,g4⟩:=hr.Es blk hb
  have:=(h.sep b bx blk k o g2 g4 hi).1
  rw[g3] at this;cases this
 have UH:∀k,¬B.has k→k<w.heap.size:=fun k hk=>Nat.lt_of_not_le fun q=>hk (.inl (Nat.le_trans h.base q))
 have hne:∀c,(qJ U y ns σ).mem c≠none→σ.mem c≠none:=by
  intro c hc hq
  apply hc
  rw[pS,hq]
  split<;>rfl
 have hx:Ext B γ σ.mem w ⟨I',γ.loc⟩ (qJ U y ns σ).mem w' :=
  { below:=⟨hw.os,hw.tape,hw.output,hw.size,fun k hk=>hsame k (UH k hk) fun hb=>hk (hown k hb).1⟩
    I:=hI
    nh:=fun b o x=>by
     by_cases hi:γ.I b o
     ·exact .inl hi
     ·exact .inr (.inl (Nat.le_trans h.base (hnew b o x hi)))
    cells:=fun b o hi=>cQ (hsame b (h.qu b o hi) fun hb=>hfree b hb o hi)
    boxes:=fun c cx hc=>by
     rw[pS,hc]
     cases hv:mV U y ns c with
     | none=>exact⟨cx,rfl,Nat.le_refl _,fun _=>⟨rfl,rfl,rfl⟩⟩
     | some v =>
       obtain⟨t,x,z,bx,blk,k,g1,g2,g3,g4,g5,g6,g7,g8,g9⟩:=hr.val ha hv
       rw[hc] at g1
       obtain rfl:=Option.some.inj g1
       refine⟨_,rfl,Nat.le_refl _,fun _=>⟨rfl,rfl,?_⟩⟩
       subst g6
       unfold bL.row
       simp only[g2,g5]
       cases t<;>rfl }
 refine⟨?_,hx⟩
 exact
  { aU:=h.zY hx
    base:=Nat.le_trans h.base hw.size
    boxes:=fun c cx hc=>by
     rw[pS] at hc
     cases hv:mV U y ns c with
     | none =>
       rw[hv] at hc
       replace hc:σ.mem c=some cx:=hc
       refine(h.boxes c cx hc).keep hx rfl fun blk k hl=>?_
       refine hsame blk (h.fresh c blk k (by rw[hc];simp) hl).2 fun hb=>?_
       obtain⟨b,v,bx,k',g1,g2,g3,g4⟩:=hr.QM (y:=y) blk hb
       have:=h.inj c b blk k k' (by rw[hc];simp) (by rw[g2];simp) hl g4
       subst this
       rw[hv] at g1;cases g1
     | some v =>
       obtain⟨t,x,z,bx,blk,k,g1,g2,g3,g4,g5,g6,g7,g8,g9⟩:=hr.val ha hv
       rw[hv,g1] at hc
       obtain rfl:=Option.some.inj hc
       obtain⟨cur,tid,fr,j1,j2,j3⟩:=g9
       unfold cw
       simp only[g2]
       subst g6
       exact⟨blk,k,cur,tid,fr,g7,j1,j2,.inl g4.2,j3⟩
    inj:=fun c d blk k k' hc hd=>h.inj c d blk k k' (hne c hc) (hne d hd)
    fresh:=fun c blk k hc hl=>by have:=h.fresh c blk k (hne c hc) hl;exact⟨this.1,Nat.lt_of_lt_of_le this.2 hw.size⟩
    qu:=UG
    sep:=fun c cx blk k off hc hl hi=>by
     obtain⟨Qh,hc0,hro,hrow,bF⟩:∃Qh,σ.mem c=some Qh∧cx.ro=Qh.ro∧cx.row=Qh.row∧cx.buf=Qh.buf:=by
      have QN:=hc
      rw[pS] at hc
      cases hv:mV U y ns c with
      | none=>rw[hv] at hc;exact⟨cx,hc,rfl,rfl,rfl⟩
      | some v =>
        obtain⟨t,x,z,bx,cU,k',g1,g2,g3,g4,g5,g6,g7,g8,g9⟩:=hr.val ha hv
        rw[hv,g1] at hc
        obtain rfl:=Option.some.inj hc
        refine⟨bx,g1,rfl,?_,rfl⟩
        subst g6
        unfold bL.row
        simp only[g2,g5]
        cases t<;>rfl
     by_cases SK:γ.I blk off
     ·have:=h.sep c Qh blk k off hc0 hl SK
      exact⟨by rw[hro];exact this.1,fun hb e n hr'=>this.2 (by rw[←bF];exact hb) e n (by rw[←hrow];exact hr')⟩
     ·have h1:=hnew blk off hi SK
      have h2:=(h.fresh c blk k (by rw[hc0];simp) hl).2
      omega }
theorem OZ{mem:Nat→Option bL}{t:Ty}{v:aQ}{x:t.den}{val:Value}(hv:b8 γ mem w v .val [val])(h:ON t v=some x):∃cs,bE w γ.I t x cs∧val=bQ t cs:=by
 unfold ON at h
 split at h
 ·rename_i u y
  obtain⟨q,hq⟩:=Ty.iY h
  subst q;subst hq
  exact de.1 hv
 ·split at h
  ·rename_i e
   obtain rfl:=Option.some.inj h
   obtain rfl:val=_:=by simpa [b8] using hv
   exact⟨[.slice none 0 0],.inl ⟨⟨none,rfl⟩,rfl⟩,rfl⟩
  ·cases h
 ·cases h
theorem Kf{t:Ty}{v:aQ}{x:t.den}(h:Qb t v=some x):v=.data t x:=by
 unfold Qb at h
 split at h
 ·obtain⟨q,hq⟩:=Ty.iY h
  subst q;subst hq;rfl
 ·cases h
theorem Gt(hm:bz B γ σ.mem w):∀{ps:List Bool} {A U:Ty} {vs:List aQ} {xs:List Value} {x:A.den} {u:U.den} {ns:List Nat},jR γ σ.mem w vs xs→oU σ ps A U vs=some (x,u,ns) →
  ∃bs,Kd w γ.I ps A U x xs bs∧Refs γ σ.mem U u ns bs∧tg w γ.I U u bs:=by
 intro ps
 induction ps with
 | nil =>
   intro A U vs xs x u ns hv h
   cases A<;>first|(cases h;done)|skip
   cases U<;>first|(cases h;done)|skip
   cases vs with
   | cons v r=>cases h
   | nil =>
     obtain⟨rfl,q⟩:=Prod.mk.inj (Option.some.inj h)
     obtain⟨rfl,rfl⟩:=Prod.mk.inj q
     have hx:xs=[]:=by have:=hv.1;simpa using this
     exact⟨[],⟨rfl,rfl,hx,rfl⟩,⟨rfl,rfl⟩,rfl⟩
 | cons p ps ih =>
   intro A U vs xs x u ns hv h
   cases p with
   | false =>
     cases A<;>first|(cases h;done)|skip
     rename_i t A
     cases vs with
     | nil=>cases h
     | cons v r =>
       simp only[oU] at h
       split at h
       ·rename_i x1 y1 u1 VJ h1 h2
        obtain⟨rfl,q⟩:=Prod.mk.inj (Option.some.inj h)
        obtain⟨rfl,rfl⟩:=Prod.mk.inj q
        obtain⟨val,rest,rfl,g1,g2⟩:=hv.cons
        obtain⟨bs,k1,k2,k3⟩:=ih g2 h2
        obtain⟨cs,c1,c2⟩:=OZ g1 h1
        exact⟨bs,⟨cs,rest,by rw[c2],c1,k1⟩,k2,k3⟩
       ·cases h
   | true =>
     cases U<;>first|(cases h;done)|skip
     rename_i t U
     cases vs with
     | nil=>cases h
     | cons v0 r =>
     cases v0<;>first|(cases h;done)|skip
     rename_i b ax XJ
     cases XJ with
     | cons _ _=>cases h
     | nil =>
     simp only[oU] at h
     split at h
     case h_2=>cases h
     rename_i bx hb
     cases hcd:(Nat.beq bx.ax ax&&!bx.buf&&!bx.lk&&!bx.ro&&Nat.beq bx.tid 0) with
     | false=>rw[hcd] at h;cases h
     | true =>
       rw[hcd] at h
       simp only[Bool.and_eq_true,Bool.not_eq_true'] at hcd
       obtain⟨⟨⟨⟨aZ,bF⟩,hlk⟩,hro⟩,Qi⟩:=hcd
       have Qi:=Nat.eq_of_beq_eq_true Qi
       have aZ:=Nat.eq_of_beq_eq_true aZ
       simp only[cond_true] at h
       split at h
       case h_2=>cases h
       rename_i x1 y1 u1 VJ h1 h2
       cases hmn:cT VJ b with
       | true=>rw[hmn] at h;cases h
       | false =>
         rw[hmn] at h
         obtain⟨rfl,q⟩:=Prod.mk.inj (Option.some.inj h)
         obtain⟨rfl,rfl⟩:=Prod.mk.inj q
         obtain⟨val,rest,rfl,g1,g2⟩:=hv.cons
         obtain⟨bs,k1,k2,k3⟩:=ih g2 h2
         obtain⟨blk,k,j1,j2⟩:=aW hb aZ g1.2
         have j2:=List.head_eq_of_cons_eq j2
         simp only[cz] at j2
         have hval:=Kf h1
         have gz:=hm.boxes b bx hb
         unfold cw at gz
         rw[bF] at gz
         obtain⟨cU,cap,cur,tid,fr,a1,a2,a3,gk,a4⟩:=gz
         rw[j1] at a1
         obtain⟨rfl,rfl⟩:=Prod.mk.inj (Option.some.inj a1)
         rw[hval] at a4
         have UI:b∉VJ:=fun hq=>by rw[Ke.2 hq] at hmn;cases hmn
         exact⟨blk::bs,⟨blk,rest,bs,by rw[j2],rfl,k1⟩,⟨b,VJ,blk,bs,bx,k,rfl,rfl,UI,hb,bF,hlk,⟨hro,Qi⟩,hval,j1,k2⟩,blk,bs,rfl,⟨cur,tid,fr,a2,a3,a4⟩,k3⟩
end
end Go.Ge
