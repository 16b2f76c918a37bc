/- Plain laws of what the functions compute: part 5. -/
import Derived.Test.YtpipdmfkbnbchaaGreatDoorPlD
import Derived.Lib.ParseIntBCases
import Derived.Lib.ItoaMem
namespace Go.Ge
set_option linter.unusedSectionVars false
variable [Lp]
set_option linter.unusedVariables false
set_option linter.unusedSimpArgs false
abbrev Nd:=List UInt8×Int×Int×List UInt8×List UInt8×Unit
theorem NM{a b:Int}:(cO a b=true)↔a≤b:=by
 constructor
 ·intro h
  rcases Int.lt_or_le b a with g|g
  ·rw[eU g] at h;cases h
  ·exact g
 ·exact cz
theorem NN{a b:Int}:cO a b=decide (a≤b):=by
 rw[Bool.eq_iff_iff,NM,decide_eq_true_eq]
def zR(p:List UInt8):Bool:=decide (p≠[])&&(parts p).all yS&&decide ((parts p).length≤8)&&decide (p.length≤92)&&decide ((bD p).2.length≤28)&&decide ((mq (bD p).2).1=0)
def TI(n:Nd):Bool:=if n.2.1=1 then decide (n.2.2.2.2.1=[]∧n.2.2.2.1.length≤8192) else if n.2.1=2 then decide (n.2.2.2.2.1=[]∧n.2.2.2.1=[]) else if n.2.1=3 then decide (n.2.2.2.1=[]∧n.2.2.2.2.1≠[]∧n.2.2.2.2.1.length≤100∧0∉n.2.2.2.2.1) else false
def jB(n:Nd):Bool:=zR n.1&&decide (0≤n.2.2.1)&&decide (n.2.2.1≤4095)&&TI n
theorem SN(s:List UInt8)(hs:s.length≤1048576):qd (s,())=some (decide (s≠[]∧s.length≤100∧0∉s),()):=by
 unfold qd
 rcases mM (f:=lC (s,())) s (fun i=>((false,(i,())),())) (fun _ x=>decide (x=0)) (fun i x=>(1,((false,((i:Int),())),()))) ((0:Nat),((false,((s.length:Int),())),())) (by omega) (fun i x hx hi ha=>by
  unfold lC
  dsimp only
  rw[au hi,ag,az hx,aa,acq,lX,ha]
  by_cases h0:x=0<;>simp[h0]) (by unfold lC;dsimp only;rw[aE,af]) with ⟨i,x,hx,hp,_,h⟩|⟨hn,h⟩
 ·rw[h,aa,jc,af]
  have:x=0:=of_decide_eq_true hp
  subst this
  have hm:(0:UInt8)∈s:=bQ.2 ⟨i,hx⟩
  rw[decide_eq_false (by rintro⟨_,_,h⟩;exact h hm)]
 ·rw[h,aa,cG,ag,AO]
  have hm:(0:UInt8)∉s:=fun hm=>by
   obtain⟨i,hi⟩:=bQ.1 hm
   have:=hn i 0 hi
   exact absurd this (by decide)
  congr 2
  rw[Bool.eq_iff_iff]
  simp only[Bool.and_eq_true,NM,len,decide_eq_true_eq]
  constructor
  ·rintro⟨h1,h2⟩;exact⟨fun e=>by rw[e] at h1;simp at h1,by omega,hm⟩
  ·rintro⟨h1,h2,_⟩;exact⟨by have:=List.length_pos_iff.2 h1;omega,by omega⟩
theorem vn(n:Nd)(hp:n.1.length≤4096)(hl:n.2.2.2.2.1.length≤4096):jN (n,())=some (jB n,()):=by
 obtain⟨p,k,m,d,l,u⟩:=n
 unfold jN jB TI
 dsimp only at hp hl⊢
 rw[tu p hp,aa]
 dsimp only
 rw[Gi,aa,L4 p (by omega),SN l (by omega)]
 simp only[aa,AO]
 have e0:(aj (nt (cc p [])) (some ((parts p).all yS&&decide ((parts p).length≤8)&&decide (p.length≤96))) (some false):Option Bool)=some (decide (p≠[])&&(parts p).all yS&&decide ((parts p).length≤8)&&decide (p.length≤96)):=by
  by_cases h:p=[]
  ·subst h;rfl
  ·simp[cc,h,aj,nt]
 rw[e0,aa]
 have e1:((((((decide (p≠[])&&(parts p).all yS&&decide ((parts p).length≤8)&&decide (p.length≤96))&&cO (len p) 92)&&cO (len (bD p).2) 28)&&bC (mq (bD p).2).1 0)&&cO 0 m)&&cO m 4095)=(zR p&&decide (0≤m)&&decide (m≤4095)):=by
  rw[Bool.eq_iff_iff]
  unfold zR
  simp only[Bool.and_eq_true,NM,len,bC,decide_eq_true_eq]
  constructor
  ·rintro⟨⟨⟨⟨⟨⟨⟨⟨a1,a2⟩,a3⟩,a4⟩,a5⟩,a6⟩,a7⟩,a8⟩,a9⟩
   exact⟨⟨⟨⟨⟨⟨⟨a1,a2⟩,a3⟩,by omega⟩,by omega⟩,a7⟩,a8⟩,a9⟩
  ·rintro⟨⟨⟨⟨⟨⟨⟨a1,a2⟩,a3⟩,a5⟩,a6⟩,a7⟩,a8⟩,a9⟩
   exact⟨⟨⟨⟨⟨⟨⟨⟨a1,a2⟩,a3⟩,by omega⟩,by omega⟩,by omega⟩,a7⟩,a8⟩,a9⟩
 simp only[e1]
 generalize (zR p&&decide (0≤m)&&decide (m≤4095))=c
 by_cases k1:k=1
 ·subst k1
  rw[show bC 1 1=true by rfl,ag,if_pos rfl]
  congr 2
  rw[Bool.and_assoc]
  congr 1
  rw[Bool.eq_iff_iff];simp[cc,NN,len];intro _;omega
 ·rw[show bC k 1=false by simp[bC,k1],af,if_neg k1]
  by_cases k2:k=2
  ·subst k2
   rw[show bC 2 2=true by rfl,ag,if_pos rfl]
   congr 2
   rw[Bool.and_assoc]
   congr 1
   rw[Bool.eq_iff_iff];simp[cc]
  ·rw[show bC k 2=false by simp[bC,k2],af,if_neg k2]
   by_cases k3:k=3
   ·subst k3
    rw[show bC 3 3=true by rfl,ag,if_pos rfl]
    cases c with
    | false=>rfl
    | true =>
      by_cases hd:d=[]
      ·simp[cc,hd,aj,ah]
      ·simp[cc,hd,aj,ah]
   ·rw[show bC k 3=false by simp[bC,k3],af,if_neg k3,Bool.and_false]
end Go.Ge
namespace Go.Ge
set_option linter.unusedSectionVars false
variable [Lp]
set_option linter.unusedVariables false
set_option linter.unusedSimpArgs false
def Sm(n:Nd):Prop:=n.1.length≤200∧n.2.2.2.2.1.length≤300∧n.2.2.2.1.length≤8192
def L9(l:List Nd):Prop:=l.length≤4096∧∀x∈l,Sm x
def key(n:Nd):List (List UInt8):=parts n.1
def cmp(n:Nd)(p:List UInt8):Int:=cmpL (parts n.1) (parts p)
theorem L9.at{l:List Nd}(h:L9 l){i:Nat}{x:Nd}(hx:l[i]?=some x):Sm x:=h.2 x (List.mem_of_getElem? hx)
theorem L9.take{l:List Nd}(h:L9 l)(k:Nat):L9 (l.take k):=⟨by rw[List.length_take];have:=h.1;omega,fun x hx=>h.2 x (List.mem_of_mem_take hx)⟩
def Ord(l:List Nd):Prop:=∀(i j:Nat) (x y:Nd),i<j→l[i]?=some x→l[j]?=some y→cmpL (key x) (key y)<0
theorem Ord.mono{l:List Nd}(h:Ord l)(p:List UInt8):∀(i j:Nat) (x y:Nd),i≤j→l[i]?=some x→l[j]?=some y→cmp y p<0→cmp x p<0:=by
 intro i j x y hij hx hy hc
 rcases Nat.lt_or_ge i j with g|g
 ·exact uj (h i j x y g hx hy) hc
 ·obtain rfl:i=j:=by omega
  rw[hx] at hy
  obtain rfl:=Option.some.inj hy
  exact hc
theorem Ord.take{l:List Nd}(h:Ord l)(k:Nat):Ord (l.take k):=fun i j x y hij hx hy=>by
 rw[List.getElem?_take] at hx hy
 split at hx
 ·split at hy
  ·exact h i j x y hij hx hy
  ·cases hy
 ·cases hx
structure Plc (l:List Nd) (p:List UInt8) (k:Nat) (b:Bool):Prop where
 le:k≤l.length
 lo:∀(j:Nat) (y:Nd),j<k→l[j]?=some y→cmp y p<0
 hi:∀(j:Nat) (y:Nd),k≤j→l[j]?=some y→¬cmp y p<0
 is:b=true→∃x,l[k]?=some x∧x.1=p
 no:b=false→∀x∈l,x.1≠p
theorem Xh{n:Nd}{p:List UInt8}(h:cmp n p=0):n.1=p:=by
 have:=UA h
 rw[←fG n.1,this,fG]
theorem Xi{n:Nd}{p:List UInt8}(h:n.1=p):cmp n p=0:=by subst h;exact oW _
theorem zS(l:List Nd)(p:List UInt8)(hl:L9 l):(∃(i:Nat) (x:Nd),l[i]?=some x∧x.1=p∧gj (l,(p,()))=some ((i:Int),()))∨((∀x∈l,x.1≠p)∧gj (l,(p,()))=some (-1,())):=by
 unfold gj
 rcases mM (f:=oC (l,(p,()))) l (fun i=>((0,(i,())),())) (fun _ x=>decide (x.1=p)) (fun i x=>(1,(((i:Int),((i:Int),())),()))) ((0:Nat),((0,((l.length:Int),())),())) (by have:=hl.1;omega) (fun i x hx hi ha=>by
  unfold oC
  dsimp only
  rw[au hi,ag,az hx,aa,Nl,ha]
  by_cases h:x.1=p<;>simp[h,aj]) (by unfold oC;dsimp only;rw[aE,af]) with ⟨i,x,hx,hp,_,h⟩|⟨hn,h⟩
 ·left
  refine⟨i,x,hx,of_decide_eq_true hp,?_⟩
  rw[h];rfl
 ·right
  refine⟨fun x hx e=>?_,by rw[h];rfl⟩
  obtain⟨i,hi⟩:=bQ.1 hx
  have:=hn i x hi
  simp[e] at this
theorem Jv(l:List Nd)(d:List UInt8)(hl:L9 l):∃b,mw (l,(d,()))=some (b,())∧(b=true→d=[]∨∃x∈l,x.1=d∧x.2.1=2)∧(Ord l→b=false→d≠[]∧∀x∈l,x.1=d→x.2.1≠2):=by
 unfold mw
 dsimp only
 by_cases h0:d=[]
 ·subst h0
  rcases zS l [] hl with ⟨i,x,hx,Xj,h⟩|⟨_,h⟩<;>rw[h,aa]<;>exact⟨true,rfl,fun _=>.inl rfl,fun _ h=>by cases h⟩
 ·rcases zS l d hl with ⟨i,x,hx,Xj,h⟩|⟨hn,h⟩
  ·rw[h,aa,cu h0,aF,ag]
   dsimp only
   rw[cz (by omega),ag,az hx,aa,aa,aa]
   refine⟨_,rfl,fun hb=>.inr ⟨x,List.mem_of_getElem? hx,Xj,of_decide_eq_true hb⟩,fun ho hb=>⟨h0,fun y hy hyd hk=>?_⟩⟩
   have hne:=of_decide_eq_false hb
   obtain⟨j,hj⟩:=bQ.1 hy
   have hkk:key x=key y:=by unfold key;rw[Xj,hyd]
   rcases Nat.lt_trichotomy i j with g|g|g
   ·have:=ho i j x y g hx hj;rw[hkk,oW] at this;omega
   ·subst g;rw[hx] at hj;obtain rfl:=Option.some.inj hj;exact hne hk
   ·have:=ho j i y x g hj hx;rw[hkk,oW] at this;omega
  ·rw[h,aa,cu h0,aF,ag]
   exact⟨false,rfl,fun h=>(by cases h),fun _ _=>⟨h0,fun x hx e=>absurd e (hn x hx)⟩⟩
end Go.Ge
namespace Go.Ge
set_option linter.unusedSectionVars false
variable [Lp]
set_option linter.unusedVariables false
set_option linter.unusedSimpArgs false
structure Valid (l:List Nd):Prop where
 BB:l.length≤64
 ord:Ord l
 may:∀x∈l,jB x=true
 up:∀x∈l,(bD x.1).1=[]∨∃y∈l,y.1=(bD x.1).1∧y.2.1=2
theorem xY{p:List UInt8}(h:(bD p).1≠[]):parts p=parts (bD p).1++[(bD p).2]:=by
 rcases si p with ⟨_,e⟩|⟨a,b,e1,e2,e⟩
 ·rw[e] at h;exact absurd rfl h
 ·rw[e] at h⊢
  have hp:p≠[]:=by rw[e1];simp
  unfold parts
  rw[if_neg hp,if_neg h,e1]
  exact zJ a b e2
theorem Ord.uniq{l:List Nd}(h:Ord l){x y:Nd}(hx:x∈l)(hy:y∈l)(e:x.1=y.1):x=y:=by
 obtain⟨i,hi⟩:=bQ.1 hx
 obtain⟨j,hj⟩:=bQ.1 hy
 have hk:key x=key y:=by unfold key;rw[e]
 rcases Nat.lt_trichotomy i j with g|g|g
 ·have:=h i j x y g hi hj;rw[hk,oW] at this;omega
 ·subst g;rw[hi] at hj;exact Option.some.inj hj
 ·have:=h j i y x g hj hi;rw[hk,oW] at this;omega
theorem Jw{l:List Nd}(h:∀(k:Nat) (x y:Nd),l[k]?=some x→l[k+1]?=some y→cmpL (key x) (key y)<0):Ord l:=by
 have run:∀(d i:Nat) (x y:Nd),l[i]?=some x→l[i+1+d]?=some y→cmpL (key x) (key y)<0:=by
  intro d
  induction d with
  | zero=>intro i x y hx hy;exact h i x y hx hy
  | succ d ih =>
    intro i x y hx hy
    have hl:=aH hy
    obtain⟨z,hz⟩:∃z,l[i+1+d]?=some z:=⟨_,List.getElem?_eq_getElem (by omega)⟩
    exact uj (ih i x z hx hz) (h (i+1+d) z y hz hy)
 intro i j x y hij hx hy
 exact run (j-i-1) i x y hx (by rw[show i+1+(j-i-1)=j by omega];exact hy)
def Ma(l:List Nd)(i:Nat)(x:Nd):Bool:=match i with
 | 0=>false
 | k+1=>match l[k]? with
   | some y=>decide (0≤cmpL (key y) (key x))
   | none=>false
theorem CK{l:List Nd}{k:Nat}{x y:Nd}(hy:l[k]?=some y):Ma l (k+1) x=decide (0≤cmpL (key y) (key x)):=by
 show(match l[k]? with|some y=>decide (0≤cmpL (key y) (key x))|none=>false)=_
 rw[hy]
noncomputable def Gk(l:List Nd)(d:List UInt8):Bool:=match mw (l,(d,())) with
 | some y=>y.1
 | none=>false
theorem Fw(l:List Nd)(d:List UInt8)(hl:L9 l):mw (l,(d,()))=some (Gk l d,())∧(Gk l d=true→d=[]∨∃x∈l,x.1=d∧x.2.1=2)∧(Ord l→Gk l d=false→d≠[]∧∀x∈l,x.1=d→x.2.1≠2):=by
 obtain⟨e,h1,h2,h3⟩:=Jv l d hl
 have:Gk l d=e:=by unfold Gk;rw[h1]
 rw[this];exact⟨h1,h2,h3⟩
theorem U9{l:List Nd}(h:∀(i:Nat) (x:Nd),l[i]?=some x→Ma l i x=false):Ord l:=Jw fun k x y hx hy=>by
 have:=h (k+1) y hy
 rw[CK hx] at this
 have:=of_decide_eq_false this
 omega
theorem Va{l:List Nd}(h:Ord l){i:Nat}{x:Nd}(hx:l[i]?=some x):Ma l i x=false:=by
 cases i with
 | zero=>rfl
 | succ k =>
   have hl:=aH hx
   obtain⟨y,hy⟩:∃y,l[k]?=some y:=⟨_,List.getElem?_eq_getElem (by omega)⟩
   rw[CK hy]
   have:=h k (k+1) y x (by omega) hy hx
   exact decide_eq_false (by omega)
theorem qL(l:List Nd)(hl:L9 l):∃b,jX (l,())=some (b,())∧(b=true↔Valid l):=by
 unfold jX
 dsimp only
 have FX:aY 64 (len l)=decide (64<l.length):=by unfold aY len;apply decide_eq_decide.2;omega
 rw[FX]
 by_cases h0:64<l.length
 ·rw[decide_eq_true h0,ag]
  exact⟨false,rfl,fun h=>(by cases h),fun h=>by have:=h.BB;omega⟩
 ·rw[decide_eq_false h0,af]
  rcases mM (f:=rD (l,())) l (fun i=>((false,(i,())),())) (fun i x=>!jB x||!Gk l (bD x.1).1||Ma l i x) (fun i x=>(1,((false,((i:Int),())),()))) ((0:Nat),((false,((l.length:Int),())),())) (by have:=hl.1;omega) (fun i x hx hi ha=>by
   unfold rD
   dsimp only
   rw[au hi,ag,az hx,aa,tu _ (by have:=(hl.at hx).1;omega),aa,aa,vn _ (by have:=(hl.at hx).1;omega) (by have:=(hl.at hx).2.1;omega),aa]
   dsimp only
   cases hm:jB x with
   | false=>rfl
   | true =>
     rw[aK,af,(Fw l (bD x.1).1 hl).1,aa]
     dsimp only
     cases hr:Gk l (bD x.1).1 with
     | false=>rfl
     | true =>
       rw[aK,af,ha]
       cases i with
       | zero=>rw[aJ (by simp),af];simp[Ma]
       | succ k =>
         obtain⟨y,hy⟩:∃y,l[k]?=some y:=⟨_,List.getElem?_eq_getElem (by omega)⟩
         rw[aT (by omega),ag,fZ (by omega) (by omega),show(((k+1:Nat):Int)-1)=(k:Int) by omega,az hy,aa,aa,zK _ _ (by have:=(hl.at hy).1;omega) (by have:=(hl.at hx).1;omega),aa]
         dsimp only
         rw[NN]
         rw[CK hy]
         unfold key
         by_cases hc:0≤cmpL (parts y.1) (parts x.1)
         ·rw[decide_eq_true hc,ag];simp
         ·rw[decide_eq_false hc,af];simp) (by unfold rD;dsimp only;rw[aE,af]) with ⟨i,x,hx,hp,_,h⟩|⟨hn,h⟩
  ·rw[h,aa,jc,af]
   refine⟨false,rfl,fun h=>(by cases h),fun hv=>?_⟩
   rw[hv.may x (List.mem_of_getElem? hx),Va hv.ord hx] at hp
   simp only[Bool.not_true,Bool.false_or,Bool.or_false,Bool.not_eq_true'] at hp
   obtain⟨g1,g2⟩:=(Fw l (bD x.1).1 hl).2.2 hv.ord hp
   rcases hv.up x (List.mem_of_getElem? hx) with hu|⟨y,hy,hy1,hy2⟩
   ·exact absurd hu g1
   ·exact absurd hy2 (g2 y hy hy1)
  ·rw[h,aa,cG,ag]
   have hn':∀(i:Nat) (x:Nd),l[i]?=some x→jB x=true∧Gk l (bD x.1).1=true∧Ma l i x=false:=fun i x hx=>by
    have:=hn i x hx
    simp only[Bool.or_eq_false_iff,Bool.not_eq_false'] at this
    exact⟨this.1.1,this.1.2,this.2⟩
   refine⟨true,rfl,fun _=>⟨by omega,U9 fun i x hx=>(hn' i x hx).2.2,fun x hx=>?_,fun x hx=>?_⟩,fun _=>rfl⟩
   ·obtain⟨i,hi⟩:=bQ.1 hx
    exact(hn' i x hi).1
   ·obtain⟨i,hi⟩:=bQ.1 hx
    exact(Fw l (bD x.1).1 hl).2.1 (hn' i x hi).2.1
end Go.Ge
namespace Go.Ge
set_option linter.unusedSectionVars false
variable [Lp]
set_option linter.unusedVariables false
set_option linter.unusedSimpArgs false
theorem takeWhile_eq{α:Type}{P:α→Bool}:∀{l:List α} {k:Nat},k≤l.length→(∀(j:Nat) (y:α),j<k→l[j]?=some y→P y=true)→(∀y,l[k]?=some y→P y=false)→l.takeWhile P=l.take k∧l.dropWhile P=l.drop k:=by
 intro l
 induction l with
 | nil=>intro k hk _ _;simp
 | cons a r ih =>
   intro k hk h1 h2
   cases k with
   | zero =>
     have:=h2 a rfl
     simp[List.takeWhile_cons,List.dropWhile_cons,this]
   | succ k =>
     have ha:=h1 0 a (by omega) rfl
     obtain⟨g1,g2⟩:=ih (k:=k) (by simpa using hk) (fun j y hj hy=>h1 (j+1) y (by omega) hy) (fun y hy=>h2 y hy)
     simp[List.takeWhile_cons,List.dropWhile_cons,ha,g1,g2]
theorem filter_one{α:Type}{l:List α}{P:α→Bool}{k:Nat}{x:α}(hx:l[k]?=some x)(hP:P x=false)(h:∀(j:Nat) (y:α),j≠k→l[j]?=some y→P y=true):l.filter P=l.take k++l.drop (k+1):=by
 have hk:=aH hx
 have e:l=l.take k++x::l.drop (k+1):=by
  conv=>lhs;rw[←List.take_append_drop k l,List.drop_eq_getElem_cons hk]
  rw[(List.getElem?_eq_some_iff.1 hx).2]
 conv=>lhs;rw[e]
 rw[List.filter_append,List.filter_cons,hP]
 have h1:(l.take k).filter P=l.take k:=List.filter_eq_self.2 fun y hy=>by
  obtain⟨j,hj⟩:=bQ.1 hy
  rw[List.getElem?_take] at hj
  split at hj
  ·exact h j y (by omega) hj
  ·cases hj
 have h2:(l.drop (k+1)).filter P=l.drop (k+1):=List.filter_eq_self.2 fun y hy=>by
  obtain⟨j,hj⟩:=bQ.1 hy
  rw[List.getElem?_drop] at hj
  exact h (k+1+j) y (by omega) hj
 rw[h1,h2]
 simp
def uR(l:List Nd)(n:Nd):List Nd:=l.takeWhile (fun x=>decide (cmp x n.1<0))++n::l.dropWhile (fun x=>decide (cmp x n.1<0))
def gone(p:List UInt8)(x:Nd):Bool:=decide (x.1=p)||cC (parts x.1) (parts p)
def uA(l:List Nd)(p:List UInt8):List Nd:=l.filter fun x=>!gone p x
theorem Ord.filter{l:List Nd}(h:Ord l)(P:Nd→Bool):Ord (l.filter P):=by
 have hp:l.Pairwise fun x y=>cmpL (key x) (key y)<0:=by
  rw[List.pairwise_iff_getElem]
  intro i j hi hj hij
  exact h i j _ _ hij (List.getElem?_eq_getElem hi) (List.getElem?_eq_getElem hj)
 have hq:=hp.filter P
 rw[List.pairwise_iff_getElem] at hq
 intro i j x y hij hx hy
 obtain⟨h1,h2⟩:=List.getElem?_eq_some_iff.1 hx
 obtain⟨h3,h4⟩:=List.getElem?_eq_some_iff.1 hy
 rw[←h2,←h4]
 exact hq i j h1 h3 hij
theorem L9.filter{l:List Nd}(h:L9 l)(P:Nd→Bool):L9 (l.filter P):=⟨Nat.le_trans (List.length_filter_le _ _) h.1,fun x hx=>h.2 x (List.mem_filter.1 hx).1⟩
theorem Jx{l:List Nd}(hv:Valid l){p:List UInt8}(hp:p≠[])(hn:∀x∈l,x.1≠p):∀(m:Nat) (x:Nd),x∈l→(parts x.1).length≤m→cC (parts x.1) (parts p)=false:=by
 intro m
 induction m with
 | zero =>
   intro x hx hm
   unfold cC
   exact decide_eq_false (by omega)
 | succ m ih =>
   intro x hx hm
   cases hu:cC (parts x.1) (parts p) with
   | false=>rfl
   | true =>
     exfalso
     unfold cC at hu
     obtain⟨h1,h2⟩:=of_decide_eq_true hu
     have hmay:=hv.may x hx
     unfold jB zR at hmay
     simp only[Bool.and_eq_true,decide_eq_true_eq] at hmay
     by_cases h0:(bD x.1).1=[]
     ·have hall:=hmay.1.1.1.1.1.1.1.2
      have hone:(parts x.1).length≤1:=by
       rcases si x.1 with ⟨a,_⟩|⟨a,b,e1,e2,e⟩
       ·unfold parts
        split
        ·simp
        ·rw[mT _ a];simp
       ·rw[e] at h0
        have h0:a=[]:=h0
        subst h0
        have:yS []=true:=List.all_eq_true.1 hall [] (by
         unfold parts
         rw[e1,if_neg (by simp)]
         show []∈cv ([]++47::b)
         rw[CA [] (by simp)]
         simp)
        exact absurd this (by decide)
      have:parts p=[]:=List.length_eq_zero_iff.1 (by omega)
      have:=fG p
      rw[‹parts p=[]›] at this
      exact hp this.symm
     ·have hk:=xY h0
      rcases hv.up x hx with e|⟨y,hy,hy1,hy2⟩
      ·exact absurd e h0
      ·rw[←hy1] at hk
       rw[hk] at h1 h2
       have hle:(parts p).length≤(parts y.1).length:=by simp at h1;omega
       rw[List.take_append_of_le_length hle] at h2
       rcases Nat.lt_or_ge (parts p).length (parts y.1).length with g|g
       ·have:=ih y hy (by rw[hk] at hm;simp at hm;omega)
        unfold cC at this
        exact absurd ⟨g,h2⟩ (of_decide_eq_false this)
       ·have he:parts p=parts y.1:=by rw[←h2,List.take_of_length_le (by omega)]
        refine hn y hy ?_
        rw[←fG y.1,←he,fG]
theorem SO{l:List Nd}(hv:Valid l){p:List UInt8}(hp:p≠[])(hn:∀x∈l,x.1≠p):uA l p=l:=List.filter_eq_self.2 fun x hx=>by
 unfold gone
 rw[Jx hv hp hn _ x hx (Nat.le_refl _),decide_eq_false (hn x hx)];rfl
end Go.Ge
namespace Go.Ge
set_option linter.unusedSectionVars false
variable [Lp]
set_option linter.unusedVariables false
set_option linter.unusedSimpArgs false
open Classical in
noncomputable def cg(l:List Nd)(n:Nd):List Nd×Int :=
 if ¬Valid l∨jB n=false then([],1) else
 if(bD n.1).1≠[]∧∀x∈l,x.1≠(bD n.1).1 then([],3) else
 if(bD n.1).1≠[]∧∀x∈l,x.1=(bD n.1).1→x.2.1≠2 then([],12) else
 let r:=if(∃x∈l,x.1=n.1∧x.2.1=2)∧n.2.1=2 then l.filter (fun x=>!decide (x.1=n.1)) else uA l n.1
 if 64≤r.length then([],5) else(uR r n,0)
theorem TJ{n:Nd}(h:jB n=true):n.1≠[]:=by
 unfold jB zR at h
 simp only[Bool.and_eq_true,decide_eq_true_eq] at h
 exact h.1.1.1.1.1.1.1.1
theorem Xk{l:List Nd}(ho:Ord l){n x:Nd}{k:Nat}(hx:l[k]?=some x)(e:x.1=n.1):l.filter (fun x=>!decide (x.1=n.1))=l.take k++l.drop (k+1)∧uR (l.take k++l.drop (k+1)) n=l.take k++[n]++l.drop (k+1):=by
 have hk:=aH hx
 have hkx:key x=parts n.1:=by unfold key;rw[e]
 have hlo:∀(j:Nat) (y:Nd),j<k→l[j]?=some y→cmp y n.1<0:=fun j y hj hy=>by
  have:=ho j k y x hj hy hx
  rw[hkx] at this;exact this
 have hhi:∀(j:Nat) (y:Nd),k<j→l[j]?=some y→¬cmp y n.1<0:=fun j y hj hy hc=>by
  have:=ho k j x y hj hx hy
  rw[hkx] at this
  have:=uj this hc
  rw[oW] at this;omega
 have htl:(l.take k).length=k:=by rw[List.length_take];omega
 constructor
 ·refine filter_one hx (by rw[decide_eq_true e];rfl) fun j y hj hy=>?_
  rw[decide_eq_false];rfl
  intro e2
  have h0:=Xi e2
  rcases Nat.lt_or_ge j k with g|g
  ·have:=hlo j y g hy;omega
  ·have hne:key x=key y:=by rw[hkx];unfold key;rw[e2]
   have:=ho k j x y (by omega) hx hy
   rw[hne,oW] at this;omega
 ·obtain⟨h1,h2⟩:=takeWhile_eq (l:=l.take k++l.drop (k+1)) (k:=k) (P:=fun x=>decide (cmp x n.1<0)) (by rw[List.length_append,htl];omega) (fun j y hj hy=>by
   rw[List.getElem?_append_left (by omega),List.getElem?_take,if_pos hj] at hy
   exact decide_eq_true (hlo j y hj hy)) (fun y hy=>by
   rw[List.getElem?_append_right (by omega),htl,Nat.sub_self,List.getElem?_drop] at hy
   exact decide_eq_false (hhi _ y (by omega) hy))
  unfold uR
  rw[h1,h2,List.take_left' htl,List.drop_left' htl]
  simp
end Go.Ge
namespace Go.Ge
set_option linter.unusedSectionVars false
variable [Lp]
set_option linter.unusedVariables false
set_option linter.unusedSimpArgs false
def jC(l:List Nd)(p:List UInt8)(b:Bool):List Nd:=l.filter fun x=>!cC (parts x.1) (parts p)&&(!b||!decide (x.1=p))
theorem zT(l:List Nd)(p:List UInt8)(b:Bool)(hl:L9 l)(hp:p.length≤4096):iA (l,(p,(b,())))=some (jC l p b,()):=by
 unfold iA
 have hb:=hl.1
 have hfm:∀m:List Nd,m.flatMap (fun x=>if(!cC (parts x.1) (parts p)&&(!b||!decide (x.1=p)))=true then [x] else [])=jC m p b:=by
  intro m
  unfold jC
  induction m with
  | nil=>rfl
  | cons a r ih =>
    rw[List.flatMap_cons,ih,List.filter_cons]
    split<;>simp
 have h:=zw (f:=gR (l,(p,(b,())))) l (fun a i=>(((),(i,())),(a,()))) (fun x=>if(!cC (parts x.1) (parts p)&&(!b||!decide (x.1=p)))=true then [x] else []) (((),((l.length:Int),())),(jC l p b,())) (by omega) (fun i x hx hi ha=>by
  unfold gR
  dsimp only
  have hlen:((l.take i).flatMap fun x=>if(!cC (parts x.1) (parts p)&&(!b||!decide (x.1=p)))=true then [x] else []).length≤4096:=by
   rw[hfm]
   unfold jC
   refine Nat.le_trans (List.length_filter_le _ _) ?_
   rw[List.length_take];omega
  rw[au hi,ag,az hx,aa,NG _ _ (by have:=(hl.at hx).1;omega) hp,aa,aa,aa,ha,cM (by simp only[List.length_singleton];omega)]
  dsimp only
  rw[Nl]
  cases cC (parts x.1) (parts p)<;>cases b<;>cases decide (x.1=p)<;>simp[aj,nt,ah,ep,app]) (by
  unfold gR
  dsimp only
  rw[aE,af,hfm]
  rfl)
 have h':Loop (gR (l,(p,(b,())))) (((),((0:Int),())),(([]:List Nd),()))=some (((),((l.length:Int),())),(jC l p b,())):=h
 rw[h',aa]
theorem KV(l:List Nd)(p:List UInt8):jC l p true=uA l p:=by
 unfold jC uA
 congr 1
 funext x
 unfold gone
 cases cC (parts x.1) (parts p)<;>cases decide (x.1=p)<;>rfl
theorem P4(l r:List Nd)(n:Nd)(hr:L9 r)(hn:n.1.length≤200):∃k:Nat,k≤r.length∧Loop (jy (l,(n,())) ((r,()),())) (((0:Int),()),())=some (((k:Int),()),())∧uR r n=r.take k++[n]++r.drop k:=by
 have hb:=hr.1
 rcases mM (f:=jy (l,(n,())) ((r,()),())) r (fun i=>((i,()),())) (fun _ x=>!decide (cmp x n.1<0)) (fun i _=>(((i:Int),()),())) (((r.length:Int),()),()) (by omega) (fun i x hx hi ha=>by
  unfold jy
  dsimp only
  rw[au hi,ag,az hx,aa,zK _ _ (by have:=(hr.at hx).1;omega) (by omega),aa,ha]
  dsimp only
  unfold cmp aY
  cases decide (cmpL (parts x.1) (parts n.1)<0)<;>rfl) (by
  unfold jy
  dsimp only
  rw[aE,af]
  rfl) with ⟨i,x,hx,hp,hj,h⟩|⟨hn,h⟩
 ·refine⟨i,by have:=aH hx;omega,h,?_⟩
  obtain⟨h1,h2⟩:=takeWhile_eq (l:=r) (k:=i) (P:=fun x=>decide (cmp x n.1<0)) (by have:=aH hx;omega) (fun j y hji hy=>by
   have:=hj j y hji hy
   simpa using this) (fun y hy=>by
   rw[hx] at hy
   obtain rfl:=Option.some.inj hy
   simpa using hp)
  unfold uR
  rw[h1,h2];simp
 ·refine⟨r.length,Nat.le_refl _,h,?_⟩
  obtain⟨h1,h2⟩:=takeWhile_eq (l:=r) (k:=r.length) (P:=fun x=>decide (cmp x n.1<0)) (Nat.le_refl _) (fun j y hji hy=>by
   have:=hn j y hy
   simpa using this) (fun y hy=>by
   have:=aH hy;omega)
  unfold uR
  rw[h1,h2];simp
theorem zU(l r:List Nd)(n:Nd)(hr:L9 r)(hn:n.1.length≤200) :
  aj (cO 64 (len r)) (some (([]:List Nd),((5:Int),()))) (ah (Loop (jy (l,(n,())) ((r,()),())) (((0:Int),()),())) fun(y9:(Int×Unit)×Unit)=>aj (inside 0 y9.1.1 (len r))
   (aj (fits (plus (len ([]:List Nd)) (len (sub r 0 (minus y9.1.1 0)))))
   (aj (fits (plus (len (app ([]:List Nd) (sub r 0 (minus y9.1.1 0)))) (len [n])))
   (aj (inside y9.1.1 (len r) (len r))
   (aj (fits (plus (len (app (app ([]:List Nd) (sub r 0 (minus y9.1.1 0))) [n])) (len (sub r y9.1.1 (minus (len r) y9.1.1)))))
   (some (app (app (app ([]:List Nd) (sub r 0 (minus y9.1.1 0))) [n]) (sub r y9.1.1 (minus (len r) y9.1.1)),((0:Int),())))
   none) none) none) none) none)=some (if 64≤r.length then([],(5,())) else(uR r n,(0,()))):=by
 have hb:=hr.1
 rw[NN]
 by_cases h:64≤r.length
 ·rw[decide_eq_true (by unfold len;omega),ag,if_pos h]
 ·rw[decide_eq_false (by unfold len;omega),af,if_neg h]
  obtain⟨k,k1,k2,k3⟩:=P4 l r n hr hn
  rw[k2,aa]
  dsimp only
  have i1:inside 0 (k:Int) (len r)=true:=qH (a:=0) (Nat.zero_le _) k1
  have i2:inside (k:Int) (len r) (len r)=true:=bB (by omega) (by unfold len;omega) (Int.le_refl _)
  rw[i1,ag,jl,pV r k k1,i2]
  have f1:fits (plus (len ([]:List Nd)) (len (r.take k)))=true:=cM (by rw[List.length_take];simp;omega)
  have f2:fits (plus (len (app ([]:List Nd) (r.take k))) (len [n]))=true:=cM (by rw[Cv,List.nil_append,List.length_take];simp;omega)
  have f3:fits (plus (len (app (app ([]:List Nd) (r.take k)) [n])) (len (r.drop k)))=true:=cM (by rw[Cv,Cv,List.nil_append,List.length_append,List.length_take,List.length_drop];simp;omega)
  rw[f1,f2,f3,ag,ag,ag,ag,k3]
  rfl
theorem zV(l:List Nd)(n:Nd)(hl:L9 l)(hn:Sm n):mz (l,(n,()))=some ((cg l n).1,((cg l n).2,())):=by
 obtain⟨e,c1,c2⟩:=qL l hl
 have I0:=hn.1
 have hb:=hl.1
 unfold mz
 dsimp only
 rw[c1,aa,vn n (by omega) (by have:=hn.2.1;omega),aa]
 dsimp only
 by_cases ZM:¬Valid l∨jB n=false
 ·have hp:cg l n=([],1):=by unfold cg;rw[if_pos ZM]
  rw[hp]
  have:aj (nt (nt e)) (some (nt (jB n))) (some true)=some true:=by
   rcases ZM with h|h
   ·rw[show e=false by
     cases e with
     | false=>rfl
     | true=>exact absurd (c2.1 rfl) h]
    rfl
   ·rw[h];cases nt (nt e)<;>rfl
  rw[this,aa,ag]
 ·have hv:Valid l:=by
   by_cases h:Valid l
   ·exact h
   ·exact absurd (.inl h) ZM
  have hm:jB n=true:=by
   cases h:jB n with
   | true=>rfl
   | false=>exact absurd (.inr h) ZM
  obtain rfl:=c2.2 hv
  rw[hm]
  have:aj (nt (nt true)) (some (nt true)) (some true)=some false:=rfl
  rw[this,aa,af,tu _ (by omega),aa]
  dsimp only
  obtain⟨y4,e4,s4⟩:∃y4,aj (nt (cc (bD n.1).1 [])) (ah (gj (l,((bD n.1).1,()))) (fun(y:Int×Unit)=>some (aY y.1 0))) (some false)=some y4∧(y4=true↔((bD n.1).1≠[]∧∀x∈l,x.1≠(bD n.1).1)):=by
   by_cases h0:(bD n.1).1=[]
   ·refine⟨false,by rw[h0];rfl,fun h=>(by cases h),fun h=>absurd h0 h.1⟩
   ·rw[cu h0,aF,ag]
    rcases zS l (bD n.1).1 hl with ⟨i,x,hx,Xj,h⟩|⟨hno,h⟩
    ·refine⟨false,by rw[h,aa,aJ (by omega)],fun h=>(by cases h),fun h=>absurd Xj (h.2 x (List.mem_of_getElem? hx))⟩
    ·exact⟨true,by rw[h,aa];rfl,fun _=>⟨h0,hno⟩,fun _=>rfl⟩
  rw[e4,aa]
  by_cases g1:(bD n.1).1≠[]∧∀x∈l,x.1≠(bD n.1).1
  ·have hp:cg l n=([],3):=by unfold cg;rw[if_neg ZM,if_pos g1]
   rw[s4.2 g1,hp];rfl
  ·have:y4=false:=by
    cases y4 with
    | false=>rfl
    | true=>exact absurd (s4.1 rfl) g1
   rw[this,af]
   obtain⟨d,d1,d2,d3⟩:=Jv l (bD n.1).1 hl
   rw[d1,aa]
   dsimp only
   by_cases g2:(bD n.1).1≠[]∧∀x∈l,x.1=(bD n.1).1→x.2.1≠2
   ·have hp:cg l n=([],12):=by unfold cg;rw[if_neg ZM,if_neg g1,if_pos g2]
    have:d=false:=by
     cases d with
     | false=>rfl
     | true =>
       rcases d2 rfl with h|⟨x,hx,hx1,hx2⟩
       ·exact absurd h g2.1
       ·exact absurd hx2 (g2.2 x hx hx1)
    rw[this,hp];rfl
   ·have:d=true:=by
     cases d with
     | true=>rfl
     | false=>exact absurd (d3 hv.ord rfl) g2
    rw[this,show nt true=false by rfl,af]
    have hp:cg l n=(let r:=if(∃x∈l,x.1=n.1∧x.2.1=2)∧n.2.1=2 then l.filter (fun x=>!decide (x.1=n.1)) else uA l n.1
      if 64≤r.length then([],5) else(uR r n,0)):=by
     unfold cg;rw[if_neg ZM,if_neg g1,if_neg g2]
    rcases zS l n.1 hl with ⟨i,x,hx,Xj,h⟩|⟨hno,h⟩
    ·have hi:=aH hx
     have hmem:=List.mem_of_getElem? hx
     rw[h,aa]
     dsimp only
     rw[cz (by omega),ag,az hx,aa,aa]
     by_cases hbo:x.2.1=2∧n.2.1=2
     ·obtain⟨s1,s2⟩:=Xk hv.ord hx Xj
      rw[if_pos (show((∃x∈l,x.1=n.1∧x.2.1=2)∧n.2.1=2) from⟨⟨x,hmem,Xj,hbo.1⟩,hbo.2⟩),s1] at hp
      have i1:inside 0 (i:Int) (len l)=true:=qH (a:=0) (Nat.zero_le _) (by omega)
      have i2:inside ((i+1:Nat):Int) (len l) (len l)=true:=bB (by omega) (by unfold len;omega) (Int.le_refl _)
      rw[aR hbo.1,aR hbo.2,ag,ag,i1,ag,jl,aZ (by omega),i2,pV l (i+1) (by omega)]
      have f1:fits (plus (len ([]:List Nd)) (len (l.take i)))=true:=cM (by rw[List.length_take];simp;omega)
      have f2:fits (plus (len (app ([]:List Nd) (l.take i))) (len (l.drop (i+1))))=true:=cM (by rw[Cv,List.nil_append,List.length_take,List.length_drop];omega)
      rw[f1,f2,ag,ag,ag,aa]
      dsimp only
      have hr:L9 (l.take i++l.drop (i+1)):=by rw[←s1];exact hl.filter _
      refine Eq.trans (zU l (l.take i++l.drop (i+1)) n hr I0) ?_
      rw[hp]
      by_cases FX:64≤(l.take i++l.drop (i+1)).length
      ·rw[if_pos FX];simp only[FX,if_true]
      ·rw[if_neg FX];simp only[FX,if_false]
     ·have hs:aj (bC x.2.1 2) (bC n.2.1 2) false=false:=by
       unfold bC
       by_cases h1:x.2.1=2
       ·rw[decide_eq_true h1,ag];exact decide_eq_false fun h2=>hbo ⟨h1,h2⟩
       ·rw[decide_eq_false h1,af]
      rw[if_neg (show ¬((∃x∈l,x.1=n.1∧x.2.1=2)∧n.2.1=2) from fun h=>by
       obtain⟨⟨y,hy,e2,hy2⟩,h2⟩:=h
       have:=hv.ord.uniq hmem hy (by rw[Xj,e2])
       subst this
       exact hbo ⟨hy2,h2⟩)] at hp
      rw[hs,af,zT l n.1 true hl (by omega),KV]
      simp only[aa,ag]
      refine Eq.trans (zU l (uA l n.1) n (hl.filter _) I0) ?_
      rw[hp]
      by_cases FX:64≤(uA l n.1).length
      ·rw[if_pos FX];simp only[FX,if_true]
      ·rw[if_neg FX];simp only[FX,if_false]
    ·have hne:¬((∃x∈l,x.1=n.1∧x.2.1=2)∧n.2.1=2):=fun⟨⟨y,hy,e2,_⟩,_⟩=>hno y hy e2
     rw[if_neg hne,SO hv (TJ hm) hno] at hp
     rw[h,aa]
     dsimp only
     rw[show cO 0 (-1)=false by rfl]
     simp only[aa,af]
     refine Eq.trans (zU l l n hl I0) ?_
     rw[hp]
     by_cases FX:64≤l.length
     ·rw[if_pos FX];simp only[FX,if_true]
     ·rw[if_neg FX];simp only[FX,if_false]
end Go.Ge
namespace Go.Ge
set_option linter.unusedSectionVars false
variable [Lp]
set_option linter.unusedVariables false
set_option linter.unusedSimpArgs false
end Go.Ge
namespace Go.Ge
set_option linter.unusedSectionVars false
variable [Lp]
set_option linter.unusedVariables false
set_option linter.unusedSimpArgs false
def Xl:Nd:=([],(0,(0,([],([],())))))
def findF(l:List Nd)(p:List UInt8):Nd×Bool×Unit:=match l.find? fun x=>decide (x.1=p) with
 | some x=>(x,(true,()))
 | none=>(Xl,(false,()))
theorem SP{l:List Nd}{p:List UInt8}(h:∀x∈l,x.1≠p):findF l p=(Xl,(false,())):=by
 unfold findF
 rw[List.find?_eq_none.2 (fun x hx=>by simp[h x hx])]
theorem Jy{l:List Nd}(ho:Ord l){p:List UInt8}{x:Nd}(hx:x∈l)(e:x.1=p):findF l p=(x,(true,())):=by
 unfold findF
 cases h:l.find? fun x=>decide (x.1=p) with
 | none=>have:=List.find?_eq_none.1 h x hx;simp[e] at this
 | some y =>
   have h1:=List.find?_some h
   have h2:=List.mem_of_find?_eq_some h
   have h1:y.1=p:=by simpa using h1
   have:=ho.uniq hx h2 (by rw[e,h1])
   subst this
   rfl
def Zc:List Nd→Bool
 | a::b::r=>decide (cmpL (key a) (key b)<0)&&Zc (b::r)
 | _=>true
theorem Xm:∀{l:List Nd},Zc l=true→Ord l:=by
 intro l h
 refine Jw ?_
 induction l with
 | nil=>intro k x y hx;simp at hx
 | cons a r ih =>
   cases r with
   | nil=>intro k x y hx hy;simp at hy
   | cons b r =>
     simp only[Zc,Bool.and_eq_true,decide_eq_true_eq] at h
     intro k x y hx hy
     cases k with
     | zero =>
       obtain rfl:a=x:=by simpa using hx
       obtain rfl:b=y:=by simpa using hy
       exact h.1
     | succ k=>exact ih h.2 k x y hx hy
def Jz(l:List Nd):Bool:=decide (l.length≤64)&&Zc l&&l.all jB&&l.all fun x=>decide ((bD x.1).1=[])||l.any fun y=>decide (y.1=(bD x.1).1)&&decide (y.2.1=2)
theorem NO{l:List Nd}(h:Jz l=true):Valid l:=by
 unfold Jz at h
 simp only[Bool.and_eq_true,decide_eq_true_eq] at h
 refine⟨h.1.1.1,Xm h.1.1.2,fun x hx=>List.all_eq_true.1 h.1.2 x hx,fun x hx=>?_⟩
 have:=List.all_eq_true.1 h.2 x hx
 simp only[Bool.or_eq_true,decide_eq_true_eq,List.any_eq_true,Bool.and_eq_true] at this
 exact this
def nD:Nd:=([100],(2,(493,([],([],())))))
def nA:Nd:=([100,47,97],(1,(420,([120],([],())))))
theorem aaQ:Jz []=true∧Jz [nD]=true∧Jz [nD,nA]=true:=by decide +kernel
end Go.Ge
namespace Go.Ge
set_option linter.unusedSectionVars false
variable [Lp]
set_option linter.unusedVariables false
set_option linter.unusedSimpArgs false
set_option synthInstance.maxHeartbeats 200000 in
set_option synthInstance.maxSize 4000 in
instance afm:DecidableEq Nd:=inferInstance
end Go.Ge
namespace Go.Ge
set_option linter.unusedSectionVars false
variable [Lp]
set_option linter.unusedVariables false
set_option linter.unusedSimpArgs false
theorem Mb(a:Nd)(r:List Nd)(n:Nd):uR (a::r) n=if cmp a n.1<0 then a::uR r n else n::a::r:=by
 unfold uR
 by_cases h:cmp a n.1<0
 ·rw[if_pos h,List.takeWhile_cons,List.dropWhile_cons]
  simp[h]
 ·rw[if_neg h,List.takeWhile_cons,List.dropWhile_cons]
  simp[h]
theorem su{r:List Nd}{n x:Nd}:x∈uR r n↔x=n∨x∈r:=by
 induction r with
 | nil=>simp[uR]
 | cons a r ih =>
   rw[Mb]
   split
   ·rw[List.mem_cons,ih,List.mem_cons]
    constructor
    ·rintro(h|h|h)
     ·exact .inr (.inl h)
     ·exact .inl h
     ·exact .inr (.inr h)
    ·rintro(h|h|h)
     ·exact .inr (.inl h)
     ·exact .inl h
     ·exact .inr (.inr h)
   ·rw[List.mem_cons]
theorem Xn(r:List Nd)(n:Nd):(uR r n).length=r.length+1:=by
 unfold uR
 rw[List.length_append,List.length_cons,←Nat.add_assoc,←List.length_append,List.takeWhile_append_dropWhile]
theorem Fx{l:List Nd}:Ord l↔l.Pairwise fun x y=>cmpL (key x) (key y)<0:=by
 constructor
 ·intro h
  rw[List.pairwise_iff_getElem]
  intro i j hi hj hij
  exact h i j _ _ hij (List.getElem?_eq_getElem hi) (List.getElem?_eq_getElem hj)
 ·intro h i j x y hij hx hy
  rw[List.pairwise_iff_getElem] at h
  obtain⟨h1,h2⟩:=List.getElem?_eq_some_iff.1 hx
  obtain⟨h3,h4⟩:=List.getElem?_eq_some_iff.1 hy
  rw[←h2,←h4]
  exact h i j h1 h3 hij
theorem Xo{r:List Nd}{n:Nd}(hr:Ord r)(hn:∀x∈r,x.1≠n.1):Ord (uR r n):=by
 rw[Fx] at hr⊢
 induction r with
 | nil=>simp[uR]
 | cons a r ih =>
   rw[List.pairwise_cons] at hr
   rw[Mb]
   split
   ·rename_i h
    refine List.pairwise_cons.2 ⟨fun y hy=>?_,ih hr.2 fun x hx=>hn x (by simp[hx])⟩
    rcases su.1 hy with rfl|hy
    ·exact h
    ·exact hr.1 y hy
   ·rename_i h
    have ha:cmpL (key n) (key a)<0:=by
     have h1:cmp a n.1≠0:=fun e=>hn a (by simp) (Xh e)
     have h2:cmpL (key n) (key a)=- cmpL (key a) (key n):=WI _ _
     have h3:cmp a n.1=cmpL (key a) (key n):=rfl
     omega
    refine List.pairwise_cons.2 ⟨fun y hy=>?_,List.pairwise_cons.2 hr⟩
    rcases List.mem_cons.1 hy with rfl|hy
    ·exact ha
    ·exact uj ha (hr.1 y hy)
theorem JA{x y:Nd}{p:List UInt8}(hu:(bD x.1).1≠[])(e:y.1=(bD x.1).1)(h:cC (parts y.1) (parts p)=true):cC (parts x.1) (parts p)=true:=by
 have hk:=xY hu
 rw[←e] at hk
 unfold cC at h⊢
 obtain⟨h1,h2⟩:=of_decide_eq_true h
 refine decide_eq_true ⟨?_,?_⟩
 ·rw[hk,List.length_append];omega
 ·rw[hk,List.take_append_of_le_length (by omega),h2]
theorem CL{x:Nd}(hu:(bD x.1).1≠[]):cC (parts x.1) (parts (bD x.1).1)=true:=by
 have hk:=xY hu
 unfold cC
 refine decide_eq_true ⟨?_,?_⟩
 ·rw[hk,List.length_append];simp
 ·rw[hk];simp
def HK(l:List Nd)(n:Nd)(r:List Nd):Prop :=
 (((∃x∈l,x.1=n.1∧x.2.1=2)∧n.2.1=2)∧r=l.filter (fun x=>!decide (x.1=n.1)))∨((¬((∃x∈l,x.1=n.1∧x.2.1=2)∧n.2.1=2))∧r=uA l n.1)
theorem JB(l:List Nd)(n:Nd):((cg l n).1=[]∧(cg l n).2≠0) ∨
  (Valid l∧jB n=true∧((bD n.1).1=[]∨∃x∈l,x.1=(bD n.1).1∧x.2.1=2)∧∃r,HK l n r∧r.length<64∧cg l n=(uR r n,0)):=by
 unfold cg
 by_cases h1:¬Valid l∨jB n=false
 ·rw[if_pos h1];exact .inl ⟨rfl,by decide⟩
 ·rw[if_neg h1]
  by_cases h2:(bD n.1).1≠[]∧∀x∈l,x.1≠(bD n.1).1
  ·rw[if_pos h2];exact .inl ⟨rfl,by decide⟩
  ·rw[if_neg h2]
   by_cases h3:(bD n.1).1≠[]∧∀x∈l,x.1=(bD n.1).1→x.2.1≠2
   ·rw[if_pos h3];exact .inl ⟨rfl,by decide⟩
   ·rw[if_neg h3]
    have hv:Valid l:=Classical.byContradiction fun h=>h1 (.inl h)
    have hm:jB n=true:=by
     cases h:jB n with
     | true=>rfl
     | false=>exact absurd (.inr h) h1
    have hu:(bD n.1).1=[]∨∃x∈l,x.1=(bD n.1).1∧x.2.1=2:=by
     by_cases h0:(bD n.1).1=[]
     ·exact .inl h0
     ·right
      refine Classical.byContradiction fun h=>h3 ⟨h0,fun x hx e h2=>h ⟨x,hx,e,h2⟩⟩
    by_cases h4:(∃x∈l,x.1=n.1∧x.2.1=2)∧n.2.1=2
    ·simp only[if_pos h4]
     by_cases h5:64≤(l.filter fun x=>!decide (x.1=n.1)).length
     ·rw[if_pos h5];exact .inl ⟨rfl,by decide⟩
     ·rw[if_neg h5]
      exact .inr ⟨hv,hm,hu,_,.inl ⟨h4,rfl⟩,by omega,rfl⟩
    ·simp only[if_neg h4]
     by_cases h5:64≤(uA l n.1).length
     ·rw[if_pos h5];exact .inl ⟨rfl,by decide⟩
     ·rw[if_neg h5]
      exact .inr ⟨hv,hm,hu,_,.inr ⟨h4,rfl⟩,by omega,rfl⟩
theorem HK.sub{l r:List Nd}{n:Nd}(h:HK l n r):(∀x∈r,x∈l∧x.1≠n.1)∧∃P,r=l.filter P:=by
 rcases h with ⟨_,rfl⟩|⟨_,rfl⟩
 ·refine⟨fun x hx=>?_,_,rfl⟩
  have:=List.mem_filter.1 hx
  simpa using this
 ·refine⟨fun x hx=>?_,_,rfl⟩
  have:=List.mem_filter.1 hx
  unfold gone at this
  simp at this
  exact⟨this.1,this.2.1⟩
theorem Mc{l r:List Nd}{n:Nd}(hv:Valid l)(hm:jB n=true)(hu:(bD n.1).1=[]∨∃x∈l,x.1=(bD n.1).1∧x.2.1=2)(hr:HK l n r)(FX:r.length<64):Valid (uR r n):=by
 obtain⟨hsub,P,hP⟩:=hr.sub
 have ho:Ord r:=by rw[hP];exact hv.ord.filter P
 refine⟨by rw[Xn];omega,Xo ho fun x hx=>(hsub x hx).2,fun x hx=>?_,fun x hx=>?_⟩
 ·rcases su.1 hx with rfl|hx
  ·exact hm
  ·exact hv.may x (hsub x hx).1
 ·rcases su.1 hx with rfl|hx
  ·
   rcases hu with h|⟨y,hy,hy1,hy2⟩
   ·exact .inl h
   ·by_cases h0:(bD x.1).1=[]
    ·exact .inl h0
    ·right
     refine⟨y,su.2 (.inr ?_),hy1,hy2⟩
     have pT:=CL h0
     rw[←hy1] at pT
     have hlen:(parts y.1).length<(parts x.1).length:=by
      unfold cC at pT
      exact(of_decide_eq_true pT).1
     have hne:y.1≠x.1:=fun e=>by rw[e] at hlen;omega
     have hnu:cC (parts y.1) (parts x.1)=false:=by
      unfold cC
      exact decide_eq_false fun h=>by omega
     rcases hr with ⟨_,rfl⟩|⟨_,rfl⟩
     ·exact List.mem_filter.2 ⟨hy,by simp[hne]⟩
     ·exact List.mem_filter.2 ⟨hy,by unfold gone;simp[hne,hnu]⟩
  ·rcases hv.up x (hsub x hx).1 with h|⟨y,hy,hy1,hy2⟩
   ·exact .inl h
   ·by_cases h0:(bD x.1).1=[]
    ·exact .inl h0
    ·right
     have pT:=CL h0
     by_cases e:y.1=n.1
     ·rcases hr with ⟨h4,rfl⟩|⟨_,rfl⟩
      ·exact⟨n,su.2 (.inl rfl),by rw[←e,hy1],h4.2⟩
      ·have:=(List.mem_filter.1 hx).2
       rw[←hy1,e] at pT
       unfold gone at this
       rw[pT] at this
       simp at this
     ·refine⟨y,su.2 (.inr ?_),hy1,hy2⟩
      rcases hr with ⟨_,rfl⟩|⟨_,rfl⟩
      ·exact List.mem_filter.2 ⟨hy,by simp[e]⟩
      ·refine List.mem_filter.2 ⟨hy,?_⟩
       have hx2:=(List.mem_filter.1 hx).2
       unfold gone at hx2⊢
       cases hun:cC (parts y.1) (parts n.1) with
       | false=>simp[e]
       | true =>
         rw[JA h0 hy1 hun] at hx2
         simp at hx2
end Go.Ge
namespace Go.Ge
set_option linter.unusedSectionVars false
variable [Lp]
set_option linter.unusedVariables false
set_option linter.unusedSimpArgs false
def JC(ns:List (List UInt8)):Prop:=∀x∈ns,47∉x∧x≠[]
def kr(m:Int)(p:List UInt8):Nd:=(p,((2:Int),(m,(([]:List UInt8),(([]:List UInt8),())))))
def eW(ns:List (List UInt8))(j:Nat):List UInt8:=aM (ns.take (j+1))
theorem uB{ns:List (List UInt8)}(h:JC ns){i:Nat}{x:List UInt8}(hx:ns[i]?=some x):sj (aM (ns.take i)) x=eW ns i:=by
 have ht:ns.take (i+1)=ns.take i++[x]:=by rw[List.take_add_one,hx];rfl
 have:=Jn [x] (ns.take i) (fun y hy=>by
  rw[←ht] at hy
  exact h y (List.mem_of_mem_take hy))
 unfold eW
 rw[ht]
 exact this
theorem zW:∀(ns:List (List UInt8)) (k:Nat),(aM (ns.take k)).length≤(aM ns).length:=by
 intro ns
 induction ns with
 | nil=>intro k;simp
 | cons x r ih =>
   intro k
   cases k with
   | zero=>simp[aM]
   | succ k =>
     rw[List.take_succ_cons]
     cases r with
     | nil=>simp
     | cons y r =>
       cases k with
       | zero=>simp[aM]
       | succ k =>
         have:=ih (k+1)
         rw[List.take_succ_cons] at this⊢
         simp only[aM,List.length_append,List.length_cons] at this⊢
         omega
theorem BE:∀(ns:List (List UInt8)) (x:List UInt8),x∈ns→x.length≤(aM ns).length:=by
 intro ns
 induction ns with
 | nil=>intro x hx;cases hx
 | cons a r ih =>
   intro x hx
   cases r with
   | nil =>
     rw[List.mem_singleton] at hx
     subst hx;simp[aM]
   | cons b r =>
     simp only[aM,List.length_append,List.length_cons]
     rcases List.mem_cons.1 hx with rfl|hx
     ·omega
     ·have:=ih x hx
      omega
def Md(ns:List (List UInt8)):Prop:=JC ns∧ns.length≤16∧(aM ns).length≤200
theorem Md.xZ{ns:List (List UInt8)}(h:Md ns)(k:Nat):(aM (ns.take k)).length≤200:=Nat.le_trans (zW ns k) h.2.2
theorem Md.TK{ns:List (List UInt8)}(h:Md ns){x:List UInt8}(hx:x∈ns):x.length≤200:=Nat.le_trans (BE ns x hx) h.2.2
theorem Md.take{ns:List (List UInt8)}(h:Md ns)(k:Nat):Md (ns.take k):=⟨fun x hx=>h.1 x (List.mem_of_mem_take hx),by rw[List.length_take];have:=h.2.1;omega,h.xZ k⟩
def preB(ns:List (List UInt8))(k:Nat):Bool:=(List.range k).all fun j=>jB (kr 0 (eW ns j))
theorem SQ{ns:List (List UInt8)}(h:JC ns){j:Nat}(hj:j<ns.length):(bD (eW ns j)).1=aM (ns.take j):=by
 have hne:ns.take (j+1)≠[]:=by
  intro e
  have:=congrArg List.length e
  rw[List.length_take,List.length_nil] at this
  omega
 unfold eW
 rw[Gj (fun x hx=>h x (List.mem_of_mem_take hx)) hne]
 dsimp only
 rw[List.dropLast_eq_take,List.length_take,List.take_take]
 congr 2
 omega
theorem CN{ns:List (List UInt8)}(h:JC ns)(j:Nat):parts (eW ns j)=ns.take (j+1):=mj _ fun x hx=>h x (List.mem_of_mem_take hx)
theorem AP{ns:List (List UInt8)}(h:JC ns):aM ns=[]↔ns=[]:=by
 constructor
 ·intro e
  have:=mj ns h
  rw[e] at this
  exact this.symm
 ·rintro rfl;rfl
theorem vO{ns:List (List UInt8)}(h:Md ns):jz (aM ns,())=some (preB ns ns.length&&decide (ns≠[]),()):=by
 have hpp:parts (aM ns)=ns:=mj _ h.1
 have hpl:=h.xZ ns.length
 rw[List.take_length] at hpl
 unfold jz
 dsimp only
 rw[gi _ (by omega),aa,hpp]
 have key:∀(d k:Nat),k+d=ns.length→(∀j,j<k→jB (kr 0 (eW ns j))=true) →
   ∃r,Loop (fS (ns,())) ((false,(aM (ns.take k),((k:Int),()))),())=some r∧((r.1=0∧preB ns ns.length=true)∨(r.1=1∧r.2.1.1=false∧preB ns ns.length=false)):=by
  intro d
  induction d with
  | zero =>
    intro k hk hall
    obtain rfl:k=ns.length:=by omega
    refine⟨(0,((false,(aM (ns.take ns.length),((ns.length:Int),()))),())),?_,.inl ⟨rfl,?_⟩⟩
    ·rw[aV]
     unfold fS
     dsimp only
     rw[aE,af];rfl
    ·unfold preB
     rw[List.all_eq_true]
     exact fun j hj=>hall j (List.mem_range.1 hj)
  | succ d ih =>
    intro k hk hall
    have hx:ns[k]?=some ns[k]:=List.getElem?_eq_getElem (by omega)
    have hxl:=h.TK (List.getElem_mem (show k<ns.length by omega))
    have hpk:=h.xZ k
    have agv:=h.xZ (k+1)
    have h16:=h.2.1
    have step:fS (ns,()) ((false,(aM (ns.take k),((k:Int),()))),())=some (if jB (kr 0 (eW ns k))=true then .inl ((false,(eW ns k,(((k+1:Nat):Int),()))),()) else .inr (1,((false,(eW ns k,((k:Int),()))),()))):=by
     unfold fS
     dsimp only
     have hm:=vn (kr 0 (eW ns k)) (by show(eW ns k).length≤4096;unfold eW;omega) (by simp[kr])
     unfold kr at hm
     rw[au (show k<ns.length by omega),ag,az hx,aa,xU _ _ (by omega) (by omega),aa,uB h.1 hx,hm,aa,aZ (by omega)]
     unfold kr
     cases jB (eW ns k,((2:Int),((0:Int),(([]:List UInt8),(([]:List UInt8),())))))<;>rfl
    by_cases hm:jB (kr 0 (eW ns k))=true
    ·rw[if_pos hm] at step
     obtain⟨r,r1,r2⟩:=ih (k+1) (by omega) (fun j hj=>by
      by_cases hjk:j=k
      ·rw[hjk];exact hm
      ·exact hall j (by omega))
     exact⟨r,by rw[aV,step];exact r1,r2⟩
    ·rw[if_neg hm] at step
     refine⟨_,by rw[aV,step];rfl,.inr ⟨rfl,rfl,?_⟩⟩
     unfold preB
     rw[List.all_eq_false]
     exact⟨k,List.mem_range.2 (by omega),hm⟩
 obtain⟨r,r1,r2⟩:=key ns.length 0 (by omega) (fun j hj=>by omega)
 have r1':Loop (fS (ns,())) ((false,(([]:List UInt8),((0:Int),()))),())=some r:=by
  have:aM (ns.take 0)=[]:=by simp[aM]
  rw[this] at r1
  exact r1
 rw[r1',aa]
 rcases r2 with ⟨a1,a2⟩|⟨a1,a2,a3⟩
 ·rw[a1,show fB 0 0=true from rfl,ag,a2,Bool.true_and]
  congr 2
  unfold nt cc
  rw[Bool.eq_iff_iff]
  have:=AP h.1
  simp[this]
 ·rw[a1,show fB 1 0=false from rfl,af,a2,a3];rfl
end Go.Ge
namespace Go.Ge
set_option linter.unusedSectionVars false
variable [Lp]
set_option linter.unusedVariables false
set_option linter.unusedSimpArgs false
def zX(ns:List (List UInt8)):Bool:=preB ns ns.length&&decide (ns≠[])
theorem Zd{ns:List (List UInt8)}(hne:ns≠[]):preB ns ns.length=(preB ns (ns.length-1)&&jB (kr 0 (aM ns))):=by
 have hk:0<ns.length:=List.length_pos_iff.2 hne
 have e:ns.length=ns.length-1+1:=by omega
 unfold preB
 conv=>lhs;rw[e]
 rw[List.range_succ,List.all_append]
 have:eW ns (ns.length-1)=aM ns:=by unfold eW;rw[List.take_of_length_le (by omega)]
 simp[this]
def lg(p:Pt)(path:List UInt8):Nd:=(path,(p.1.2.1,(p.1.2.2.1,(p.2.1,(p.1.2.2.2.2.2.2.2.1,())))))
def Fy(p:Pt):Bool:=decide (p.1.2.1=1)&&decide (p.2.1=[])
def zY(ns:List (List UInt8)):List (List UInt8):=ns.dropLast++[(mq (ns.getLastD [])).2]
def ck(p:Pt):Int×List (List UInt8)×Bool :=
 if tr p.1.1=true then
  let ns:=names p.1.1
  if(mq (ns.getLastD [])).1=1 then(1,(zY ns,Fy p&&zX (zY ns)))
  else if(mq (ns.getLastD [])).1=2 then(2,(ns.dropLast,Fy p&&(decide (ns.dropLast=[])||zX ns.dropLast)))
  else if(mq (ns.getLastD [])).1=0 then(0,(ns,(decide (ns=[])&&decide (p.1.2.1=2))||(jB (lg p (aM ns))&&zX ns)))
  else(0,([],false))
 else(0,([],false))
theorem Ee{s:List UInt8}(h:tr s=true):Md (names s):=by
 obtain⟨h1,h2,h3⟩:=ve h
 exact⟨fun x hx=>⟨(AN s x hx).1,(AN s x hx).2.1⟩,by omega,by omega⟩
theorem JD{s:List UInt8}(h:tr s=true):((names s).getLastD []).length≤96:=by
 obtain⟨h1,h2,h3⟩:=ve h
 cases hn:names s with
 | nil=>simp
 | cons a r =>
   have:(a::r).getLastD []∈names s:=by
    rw[hn,List.getLastD_cons,←List.getLast_eq_getLastD (h:=by simp)]
    exact List.getLast_mem _
   have:=BE (names s) _ this
   omega
theorem Gl{ns:List (List UInt8)}(h:JC ns):bD (aM ns)=(aM ns.dropLast,ns.getLastD []):=by
 by_cases hne:ns=[]
 ·subst hne;decide
 ·rw[Gj h hne]
  cases ns with
  | nil=>exact absurd rfl hne
  | cons a r=>rw[List.getLast_eq_getLastD,List.getLastD_cons]
theorem P5{n:List UInt8}(h:(mq n).1=1):(mq n).2=n.drop 4∧n.drop 4≠[]:=by
 unfold mq at h⊢
 split at h
 ·rename_i hw
  rw[if_pos hw]
  split at h
  ·cases h
  ·rename_i h1
   rw[if_neg h1]
   split at h
   ·cases h
   ·rename_i h2
    rw[if_neg h2]
    exact⟨rfl,fun e=>h2 (.inr (.inl e))⟩
 ·cases h
theorem Xp{n:List UInt8}(h:(mq n).1≠0):n≠[]:=by
 rintro rfl
 exact h (by decide)
theorem SR(n:List UInt8):(mq n).1=0∨(mq n).1=1∨(mq n).1=2∨(mq n).1=3:=by
 unfold mq
 split
 ·split
  ·exact .inr (.inr (.inl rfl))
  ·split
   ·exact .inr (.inr (.inr rfl))
   ·exact .inr (.inl rfl)
 ·exact .inl rfl
theorem Xq(d n:List UInt8):(sj d n).length≤d.length+n.length+1:=by
 unfold sj
 split<;>simp<;>omega
theorem Me{s:List UInt8}(h:tr s=true)(hm:(mq ((names s).getLastD [])).1=1):sj (aM (names s).dropLast) (mq ((names s).getLastD [])).2=aM (zY (names s))∧Md (zY (names s)):=by
 have hsh:=Ee h
 obtain⟨e,hne⟩:=P5 hm
 have aex:(names s).getLastD []≠[]:=Xp (by rw[hm];decide)
 have hnn:names s≠[]:=fun q=>aex (by rw[q];rfl)
 have hmem:(names s).getLastD []∈names s:=by
  cases hn:names s with
  | nil=>exact absurd hn hnn
  | cons a r =>
    rw[List.getLastD_cons,←List.getLast_eq_getLastD (h:=by simp)]
    exact List.getLast_mem _
 have hok:JC (zY (names s)):=fun x hx=>by
  unfold zY at hx
  rcases List.mem_append.1 hx with hx|hx
  ·exact hsh.1 x (by rw[List.dropLast_eq_take] at hx;exact List.mem_of_mem_take hx)
  ·rw[List.mem_singleton] at hx
   subst hx
   rw[e]
   exact⟨fun q=>(hsh.1 _ hmem).1 (List.mem_of_mem_drop q),hne⟩
 have hj:sj (aM (names s).dropLast) (mq ((names s).getLastD [])).2=aM (zY (names s)):=Jn [_] _ hok
 refine⟨hj,hok,?_,?_⟩
 ·unfold zY
  rw[List.length_append,List.length_dropLast]
  have:=hsh.2.1
  simp
  have:=List.length_pos_iff.2 hnn
  omega
 ·rw[←hj]
  have h1:=Xq (aM (names s).dropLast) (mq ((names s).getLastD [])).2
  have h2:=JD h
  have h3:(aM (names s).dropLast).length≤96:=by
   rw[List.dropLast_eq_take]
   have:=zW (names s) ((names s).length-1)
   have:=(ve h).2.2
   omega
  have h4:(mq ((names s).getLastD [])).2.length≤96:=by rw[e,List.length_drop];omega
  omega
theorem NP{ns:List (List UInt8)}(h:Md ns):Md ns.dropLast:=by
 rw[List.dropLast_eq_take];exact h.take _
def SmP(p:Pt):Prop:=p.1.1.length≤300∧p.1.2.2.2.2.2.2.2.1.length≤300∧p.2.1.length≤8192
theorem zZ(p:Pt)(hp:SmP p):mX (p,())=some ((ck p).1,(aM (ck p).2.1,((ck p).2.2,()))):=by
 unfold mX
 dsimp only
 rw[NF p.1.1 (by have:=hp.1;omega),aa]
 dsimp only
 unfold ck
 cases hc:tr p.1.1 with
 | false =>
   have:CB p.1.1=([],2):=by unfold CB;rw[hc];rfl
   rw[this,if_neg (by simp)]
   rfl
 | true =>
   have ZE:CB p.1.1=(aM (names p.1.1),0):=by unfold CB;rw[hc];rfl
   have hsh:=Ee hc
   have h96:=(ve hc).2.2
   rw[ZE,if_pos rfl]
   dsimp only
   rw[show nt (bC 0 0)=false from rfl,af,tu _ (by omega),aa,Gl hsh.1]
   dsimp only
   rw[Gi,aa]
   dsimp only
   have he:∀(A:Option Bool),(aj (aj (bC p.1.2.1 1) (cc p.2.1 []) false) A (some false))=if Fy p=true then A else some false:=fun A=>by
    unfold Fy bC cc
    by_cases h1:p.1.2.1=1
    ·by_cases h2:p.2.1=[]
     ·simp[h1,h2,aj]
     ·simp[h1,h2,aj]
    ·simp[h1,aj]
   have agw:=JD hc
   rcases SR ((names p.1.1).getLastD []) with hm|hm|hm|hm
   ·rw[hm,show bC 0 1=false from rfl,af,show bC 0 2=false from rfl,af,show bC 0 0=true from rfl,ag,if_neg (by decide),if_neg (by decide),if_pos rfl]
    unfold qg
    dsimp only
    rw[aa]
    dsimp only
    have hmay:=vn (lg p (aM (names p.1.1))) (by show(aM (names p.1.1)).length≤4096;omega) (by show p.1.2.2.2.2.2.2.2.1.length≤4096;have:=hp.2.1;omega)
    rw[show jN ((aM (names p.1.1),(p.1.2.1,(p.1.2.2.1,(p.2.1,(p.1.2.2.2.2.2.2.2.1,()))))),())=_ from hmay,aa,vO hsh,aa]
    dsimp only
    have e1:aj (cc (aM (names p.1.1)) []) (bC p.1.2.1 2) false=(decide (names p.1.1=[])&&decide (p.1.2.1=2)):=by
     have:=AP hsh.1
     unfold cc bC
     by_cases h1:names p.1.1=[]
     ·rw[decide_eq_true h1,decide_eq_true (this.2 h1)];simp[aj]
     ·rw[decide_eq_false h1,decide_eq_false fun e=>h1 (this.1 e)];rfl
    rw[e1]
    cases decide (names p.1.1=[])&&decide (p.1.2.1=2) with
    | true=>rfl
    | false =>
      rw[aF,ag]
      unfold zX
      cases jB (lg p (aM (names p.1.1)))<;>rfl
   ·obtain⟨g1,g2⟩:=Me hc hm
    rw[hm,show bC 1 1=true from rfl,ag,if_pos rfl,xU _ _ (by have:=(NP hsh).2.2;omega) (by rw[(P5 hm).1,List.length_drop];omega),aa,g1]
    dsimp only
    rw[vO g2,aa,he]
    unfold zX
    cases Fy p<;>rfl
   ·rw[hm,show bC 2 1=false from rfl,af,show bC 2 2=true from rfl,ag,if_neg (by decide),if_pos rfl]
    have hd:=NP hsh
    rw[vO hd,aa,he]
    have e1:cc (aM (names p.1.1).dropLast) []=decide ((names p.1.1).dropLast=[]):=by
     have:=AP hd.1
     unfold cc
     exact decide_eq_decide.2 this
    rw[e1]
    unfold zX
    cases Fy p<;>cases decide ((names p.1.1).dropLast=[])<;>rfl
   ·rw[hm,show bC 3 1=false from rfl,af,show bC 3 2=false from rfl,af,show bC 3 0=false from rfl,af,if_neg (by decide),if_neg (by decide),if_neg (by decide)]
    rfl
end Go.Ge
namespace Go.Ge
set_option linter.unusedSectionVars false
variable [Lp]
set_option linter.unusedVariables false
set_option linter.unusedSimpArgs false
set_option maxRecDepth 100000
end Go.Ge
namespace Go.Ge
set_option linter.unusedSectionVars false
variable [Lp]
set_option linter.unusedVariables false
set_option linter.unusedSimpArgs false
set_option maxRecDepth 100000
def oG(i:Nat)(n:Nat)(x:UInt8):Option (Nat⊕(Nat×(Int×Bool×Int×Int×Unit)×Unit)) :=
 some (if x.toNat<48∨55<x.toNat then .inr (1,((0,(false,((n:Int),((i:Int),())))),())) else .inl (8*n+(x.toNat-48)))
def z6(i:Nat)(n:Nat):Nat×(Int×Bool×Int×Int×Unit)×Unit:=(0,((0,(false,((n:Int),((i:Int),())))),()))
theorem JE{i n n':Nat}{x:UInt8}(hI:i≤21∧n<8 ^ i)(hi:i<21)(hs:oG i n x=some (.inl n')):i+1≤21∧n'<8 ^ (i+1):=by
 unfold oG at hs
 have hs:=Option.some.inj hs
 split at hs
 ·cases hs
 ·obtain rfl:=Sum.inl.inj hs
  refine⟨by omega,?_⟩
  rw[Nat.pow_succ]
  omega
theorem TL{i:Nat}(h:i≤20):8 ^ i≤1152921504606846976:=by
 have:(8:Nat) ^ i≤8 ^ 20:=Nat.pow_le_pow_right (by decide) h
 have e:(8:Nat) ^ 20=1152921504606846976:=by decide
 omega
theorem BF(s:List UInt8)(hs:s.length≤21):Loop (bH (s,())) ((0,(false,(0,(0,())))),())=uN oG z6 s 0 0:=by
 have key:=uh (f:=bH (s,())) s (fun(n:Nat) i=>((0,(false,((n:Int),((i:Int),())))),())) oG z6 (fun i n=>i≤21∧n<8 ^ i)
  (fun n i x hx hi hI=>by
   have hp:=TL (i:=i) (by omega)
   obtain⟨h1,h2⟩:=List.getElem?_eq_some_iff.1 hx
   have hxl:=x.toNat_lt
   unfold bH oG
   dsimp only
   rw[jx,aT (by omega),ag,cF (by omega) (by omega),ag,wS s hi,h2,aa,aZ (by omega)]
   by_cases a:x.toNat<48
   ·rw[aT (by unfold u8;omega),aK,af,ag,if_pos (.inl a)];rfl
   ·by_cases b:55<x.toNat
    ·rw[aJ (by unfold u8;omega),aF,ag,aT (by unfold u8;omega),ag,if_pos (.inr b)];rfl
    ·rw[aJ (by unfold u8;omega),aF,ag,aJ (by unfold u8;omega),af,show aY 3 0=false from rfl,af,if_neg (by omega)]
     have e:u8 x=((48+(x.toNat-48):Nat):Int):=by unfold u8;omega
     rw[e,ael (by omega) (by omega)]
     rfl)
  (fun n i x n' hx hI hq=>JE hI (by have:=aH hx;omega) hq)
  (fun n hI=>by
   unfold bH z6
   dsimp only
   rw[jx,aJ (by omega),af])
  (fun _ _ _ _ _ h=>by cases h) 0 ⟨by omega,by decide⟩
 exact key
theorem Fz(s:List UInt8)(hs:s.length≤21):Loop (fF (s,())) ((0,(false,(0,(0,())))),())=uN oG z6 s 0 0:=by
 have key:=uh (f:=fF (s,())) s (fun(n:Nat) i=>((0,(false,((n:Int),((i:Int),())))),())) oG z6 (fun i n=>i≤21∧n<8 ^ i)
  (fun n i x hx hi hI=>by
   have hp:=TL (i:=i) (by omega)
   have hxl:=x.toNat_lt
   unfold fF oG
   dsimp only
   rw[au hi,ag,az hx,aa,aa,aa,aZ (by omega)]
   by_cases a:x.toNat<48
   ·rw[aT (by unfold u8;omega),aK,af,aa,aK,af,ag,if_pos (.inl a)];rfl
   ·by_cases b:55<x.toNat
    ·rw[aJ (by unfold u8;omega),aF,ag,aa,aT (by unfold u8;omega),aK,af,ag,if_pos (.inr b)];rfl
    ·rw[aJ (by unfold u8;omega),aF,ag,aa,aJ (by unfold u8;omega),aF,ag,aJ (by omega),af,if_neg (by omega)]
     have e:u8 x=((48+(x.toNat-48):Nat):Int):=by unfold u8;omega
     rw[e,ZQ ⟨x.toNat-48,by omega⟩,DH (by omega) (by omega),iH (by dsimp only;omega) (by dsimp only;omega)]
     have e2:(8:Int)*(n:Int)+((x.toNat-48:Nat):Int)=((8*n+(x.toNat-48):Nat):Int):=by omega
     dsimp only
     rw[e2]
     rfl)
  (fun n i x n' hx hI hq=>JE hI (by have:=aH hx;omega) hq)
  (fun n hI=>by
   unfold fF z6
   dsimp only
   rw[aE,af])
  (fun _ _ _ _ _ h=>by cases h) 0 ⟨by omega,by decide⟩
 exact key
theorem KW:∀(r:List UInt8) (i n:Nat),∃q,uN oG z6 r i n=some q∧(q.1=0∨q.1=1):=by
 intro r
 induction r with
 | nil=>intro i n;exact⟨_,rfl,.inl rfl⟩
 | cons x r ih =>
   intro i n
   unfold uN oG
   by_cases h:x.toNat<48∨55<x.toNat
   ·rw[if_pos h];exact⟨_,rfl,.inr rfl⟩
   ·rw[if_neg h];exact ih (i+1) _
theorem z7(s:List UInt8)(hs:s.length≤1048576):dK (s,())=lq (s,())∧∃n b,dK (s,())=some (n,(b,())):=by
 unfold dK lq
 dsimp only
 by_cases h1:s.length<1
 ·rw[aT (by rw[bN];omega),aK,af,ag,ag];exact⟨rfl,_,_,rfl⟩
 ·by_cases h2:21<s.length
  ·rw[aJ (by rw[bN];omega),aF,ag,aT (by rw[bN];omega),ag,ag];exact⟨rfl,_,_,rfl⟩
  ·rw[aJ (by rw[bN];omega),aF,ag,aJ (by rw[bN];omega),af,af,dD (by rw[bN];omega),ag,BF s (by omega),Fz s (by omega)]
   refine⟨rfl,?_⟩
   obtain⟨q,hq,hc⟩:=KW s 0 0
   rw[hq,aa]
   rcases hc with c|c
   ·rw[c,cG,ag];exact⟨_,_,rfl⟩
   ·rw[c,jc,af];exact⟨_,_,rfl⟩
end Go.Ge
namespace Go.Ge
set_option linter.unusedSectionVars false
variable [Lp]
set_option linter.unusedVariables false
set_option linter.unusedSimpArgs false
theorem Xr{α S R:Type}{f:S→Option (S⊕R)}(l:List α)(mk:Nat→S)(p:α→Bool)(hit:Nat→R)(fin:R)
  (h:∀(i:Nat) (x:α),l[i]?=some x→f (mk i)=some (if p x=true then .inr (hit i) else .inl (mk (i+1)))) (hend:f (mk l.length)=some (.inr fin)) :
  ∀(d i:Nat),i+d=l.length→(∃(j:Nat) (x:α),i≤j∧l[j]?=some x∧p x=true∧(∀(m:Nat) (y:α),i≤m→m<j→l[m]?=some y→p y=false)∧Loop f (mk i)=some (hit j)) ∨
   ((∀(m:Nat) (y:α),i≤m→l[m]?=some y→p y=false)∧Loop f (mk i)=some fin):=by
 intro d
 induction d with
 | zero =>
   intro i hi
   obtain rfl:i=l.length:=by omega
   refine .inr ⟨fun m y hm hy=>?_,by rw[aV,hend];rfl⟩
   have:=aH hy
   omega
 | succ d ih =>
   intro i hi
   have hx:l[i]?=some l[i]:=List.getElem?_eq_getElem (by omega)
   have hs:=h i _ hx
   by_cases hp:p l[i]=true
   ·rw[if_pos hp] at hs
    exact .inl ⟨i,_,Nat.le_refl _,hx,hp,fun m y hm hmi=>absurd hm (by omega),by rw[aV,hs];rfl⟩
   ·rw[if_neg hp] at hs
    have hpf:p l[i]=false:=by simpa using hp
    rcases ih (i+1) (by omega) with ⟨j,x,j1,j2,j3,j4,j5⟩|⟨j1,j2⟩
    ·refine .inl ⟨j,x,by omega,j2,j3,fun m y hm hmj hy=>?_,by rw[aV,hs];exact j5⟩
     by_cases e:m=i
     ·subst e;rw[hx] at hy;rw[←Option.some.inj hy];exact hpf
     ·exact j4 m y (by omega) hmj hy
    ·refine .inr ⟨fun m y hm hy=>?_,by rw[aV,hs];exact j2⟩
     by_cases e:m=i
     ·subst e;rw[hx] at hy;rw[←Option.some.inj hy];exact hpf
     ·exact j1 m y (by omega) hy
theorem P6(p:UInt8→Bool)(s:List UInt8):∃z,s=cj p s++z∧∀x∈z,p x=true:=by
 refine⟨(s.reverse.takeWhile p).reverse,?_,fun x hx=>?_⟩
 ·unfold cj
  rw[←List.reverse_append,List.takeWhile_append_dropWhile,List.reverse_reverse]
 ·rw[List.mem_reverse] at hx
  exact Fi hx
theorem P7{p:UInt8→Bool}{s:List UInt8}{m:Nat}{x:UInt8}(hx:s[m]?=some x)(hp:p x=false):m<(cj p s).length∧∀j,j≤m→(cj p s)[j]?=s[j]?:=by
 obtain⟨z,hz,hall⟩:=P6 p s
 have hm:m<(cj p s).length:=by
  apply Classical.byContradiction
  intro hge
  have h2:(cj p s++z)[m]?=some x:=by rw[←hz];exact hx
  rw[List.getElem?_append_right (by omega)] at h2
  have:=hall x (List.mem_of_getElem? h2)
  rw[hp] at this;cases this
 refine⟨hm,fun j hj=>?_⟩
 conv=>rhs;rw[hz]
 rw[List.getElem?_append_left (by omega)]
theorem x9{p:UInt8→Bool}{s:List UInt8}{j:Nat}(h1:∀(m:Nat) (y:UInt8),j≤m→s[m]?=some y→p y=true)(h2:∀(m:Nat) (y:UInt8),m<j→s[m]?=some y→p y=false):cj p s=s.take j:=by
 have e:s=s.take j++s.drop j:=(List.take_append_drop j s).symm
 conv=>lhs;rw[e]
 rw[L1 _ _ (fun x hx=>by
  obtain⟨i,hi⟩:=bQ.1 hx
  rw[List.getElem?_drop] at hi
  exact h1 (j+i) x (by omega) hi)]
 refine Xb fun x hx=>?_
 rw[List.getLast?_eq_getElem?] at hx
 have hl:=aH hx
 rw[List.length_take] at hx hl
 rw[List.getElem?_take_of_lt (by omega)] at hx
 exact h2 _ x (by omega) hx
def Gm(x:UInt8):Bool:=decide (48≤x.toNat∧x.toNat≤55)
theorem Xs{x:UInt8}(h:Gm x=true):uQ x=false:=by
 unfold Gm at h
 have h:=of_decide_eq_true h
 cases hb:uQ x with
 | false=>rfl
 | true =>
   rcases(PJ x).1 hb with e|e
   ·subst e;exact absurd h.1 (by decide)
   ·subst e;exact absurd h.1 (by decide)
theorem P8:∀(r:List UInt8) (i n:Nat) (x:UInt8),x∈r→Gm x=false→∃q,uN oG z6 r i n=some q∧q.1=1∧q.2.1.2.1=false:=by
 intro r
 induction r with
 | nil=>intro i n x hx;cases hx
 | cons a r ih =>
   intro i n x hx hb
   unfold uN oG
   by_cases h:a.toNat<48∨55<a.toNat
   ·rw[if_pos h];exact⟨_,rfl,rfl,rfl⟩
   ·rw[if_neg h]
    rcases List.mem_cons.1 hx with e|hx
    ·subst e
     unfold Gm at hb
     have:=of_decide_eq_false hb
     omega
    ·exact ih (i+1) _ x hx hb
theorem KX{s:List UInt8}(hs:s.length≤21){x:UInt8}(hx:x∈s)(hb:Gm x=false):∃n,dK (s,())=some (n,(false,())):=by
 have hpos:0<s.length:=List.length_pos_of_mem hx
 unfold dK
 dsimp only
 rw[aJ (by rw[bN];omega),aF,ag,aJ (by rw[bN];omega),af,dD (by rw[bN];omega),ag,BF s hs]
 obtain⟨q,q1,q2,q3⟩:=P8 s 0 0 x hx hb
 rw[q1,aa,q2,jc,af,q3]
 exact⟨_,rfl⟩
theorem aez(x:UInt8):cO 48 (u8 x)=decide (48≤x.toNat):=by unfold cO u8;apply decide_eq_decide.2;omega
theorem aeA(x:UInt8):cO (u8 x) 55=decide (x.toNat≤55):=by unfold cO u8;apply decide_eq_decide.2;omega
theorem pg(s:List UInt8)(hs:s.length≤21):eS (s,())=cY (s,()):=by
 unfold eS cY
 dsimp only
 rw[D1 s (by omega),aa]
 dsimp only
 have first:=Xr (f:=fT (s,())) s (fun i=>(((i:Int),()),())) (fun x=>!Gm x) (fun j=>(((j:Int),()),())) (((s.length:Int),()),()) (fun i x hx=>by
  have hi:=aH hx
  unfold fT
  dsimp only
  rw[au hi,ag,az hx,aa,aa,aa,aez,aeA,aZ (by omega)]
  unfold Gm
  by_cases h1:48≤x.toNat
  ·by_cases h2:x.toNat≤55
   ·rw[decide_eq_true h1,decide_eq_true h2,decide_eq_true ⟨h1,h2⟩];rfl
   ·rw[decide_eq_true h1,decide_eq_false h2,decide_eq_false (fun q:48≤x.toNat∧x.toNat≤55=>h2 q.2)];rfl
  ·rw[decide_eq_false h1,decide_eq_false (fun q:48≤x.toNat∧x.toNat≤55=>h1 q.1)];rfl) (by
  unfold fT
  dsimp only
  rw[aE,af];rfl) s.length 0 (by omega)
 rcases first with ⟨j,x,_,hx,hp,aeB,hL⟩|⟨hall,hL⟩
 ·rw[show Loop (fT (s,())) (((0:Int),()),())=_ from hL,aa]
  have hj:=aH hx
  have hxo:Gm x=false:=by simpa using hp
  dsimp only
  rw[aN (by rw[bN];omega),af]
  have second:=Xr (f:=fU (s,())) s (fun i=>(((0:Int),((i:Int),())),())) (fun x=>!uQ x) (fun j=>(1,(((-1:Int),((j:Int),())),()))) (0,(((0:Int),((s.length:Int),())),())) (fun i y hy=>by
   have hi:=aH hy
   have e0:bC (u8 y) 0=decide (y=0):=Bz (n:=0)
   have e32:bC (u8 y) 32=decide (y=32):=Bz (n:=32)
   unfold fU
   dsimp only
   rw[au hi,ag,az hy,aa,aa,e0,e32,aZ (by omega)]
   have hnb:=PJ y
   by_cases h1:y=0
   ·rw[decide_eq_true h1,hnb.2 (.inl h1)];rfl
   ·by_cases h2:y=32
    ·rw[decide_eq_false h1,decide_eq_true h2,hnb.2 (.inr h2)];rfl
    ·rw[decide_eq_false h1,decide_eq_false h2,show uQ y=false by
     cases hb:uQ y with
     | false=>rfl
     | true=>rcases hnb.1 hb with e|e
             ·exact absurd e h1
             ·exact absurd e h2];rfl) (by
   unfold fU
   dsimp only
   rw[aE,af]) (s.length-j) j (by omega)
  rcases second with ⟨m,y,hm,hy,hq,_,hL2⟩|⟨acC,hL2⟩
  ·rw[show Loop (fU (s,())) (((0:Int),((j:Int),())),())=_ from hL2,aa,jc,af]
   obtain⟨r1,r2⟩:=P7 (p:=uQ) hy (by simpa using hq)
   have hmem:x∈cj uQ s:=by
    refine bQ.2 ⟨j,?_⟩
    rw[r2 j hm,hx]
   have hlen:=nq uQ s
   obtain⟨n,hn⟩:=KX (by omega) hmem hxo
   rw[hn,aa]
   rfl
  ·rw[show Loop (fU (s,())) (((0:Int),((j:Int),())),())=_ from hL2,aa,cG,ag]
   have Lt:cj uQ s=s.take j:=x9 (fun m y hm hy=>by simpa using acC m y hm hy) (fun m y hm hy=>Xs (by simpa using aeB m y (Nat.zero_le _) hm hy))
   have hin:inside (0:Int) (j:Int) (len s)=true:=qH (a:=0) (Nat.zero_le _) (by omega)
   rw[hin,ag,jl,Lt]
   obtain⟨h1,n,b,h2⟩:=z7 (s.take j) (by rw[List.length_take];omega)
   rw[←h1,h2,aa,aa]
   dsimp only
   rw[aN (show len (s.take j)≠len s by rw[bN,bN,List.length_take];omega)]
   cases b<;>rfl
 ·rw[show Loop (fT (s,())) (((0:Int),()),())=_ from hL,aa,aR (by rw[bN]),ag]
  have Lt:cj uQ s=s:=by
   have:=x9 (p:=uQ) (s:=s) (j:=s.length) (fun m y hm hy=>by have:=aH hy;omega) (fun m y hm hy=>Xs (by simpa using hall m y (Nat.zero_le _) hy))
   rw[this,List.take_length]
  rw[Lt]
  obtain⟨_,n,b,h2⟩:=z7 s (by omega)
  rw[h2,aa]
  dsimp only
  rw[aR rfl]
  cases b<;>rfl
theorem FA(s:List UInt8)(hs:s.length≤1000):∃t ok,mZ (s,())=some (t,(ok,()))∧kU (s,())=some (cj b9 s,(ok,()))∧(ok=true→t=cj b9 s)∧t.length≤s.length:=by
 have e0:∀y:UInt8,bC (u8 y) 0=b9 y:=fun y=>rfl
 rw[D3 s (by omega)]
 unfold mZ
 have inner:∀i:Nat,i≤s.length→_:=fun i hi=>Xr (f:=ek (s,())) s (fun k=>((([]:List UInt8),(false,((k:Int),()))),())) (fun x=>!b9 x) (fun j=>(1,((([]:List UInt8),(false,((j:Int),()))),()))) (0,((([]:List UInt8),(false,((s.length:Int),()))),())) (fun k y hy=>by
  have hk:=aH hy
  unfold ek
  dsimp only
  rw[au hk,ag,az hy,aa,e0,aZ (by omega)]
  cases b9 y<;>rfl) (by
  unfold ek
  dsimp only
  rw[aE,af]) (s.length-i) i (by omega)
 have outer:(∃(i:Nat) (x:UInt8),s[i]?=some x∧b9 x=true∧(∀(m:Nat) (y:UInt8),m<i→s[m]?=some y→b9 y=false)∧Loop (cZ (s,())) ((([]:List UInt8),(false,((0:Int),()))),())=(ah (Loop (ek (s,())) ((([]:List UInt8),(false,((i:Int),()))),())) fun y3=>some (if y3.1=0 then(1,((s.take i,(true,((i:Int),()))),())) else(1,((y3.2.1.1,(y3.2.1.2.1,((i:Int),()))),()))))) ∨
   ((∀(m:Nat) (y:UInt8),s[m]?=some y→b9 y=false)∧Loop (cZ (s,())) ((([]:List UInt8),(false,((0:Int),()))),())=some (0,((([]:List UInt8),(false,((s.length:Int),()))),()))):=by
  have key:∀(d i:Nat),i+d=s.length→(∀(m:Nat) (y:UInt8),m<i→s[m]?=some y→b9 y=false)→(∃(j:Nat) (x:UInt8),s[j]?=some x∧b9 x=true∧(∀(m:Nat) (y:UInt8),m<j→s[m]?=some y→b9 y=false)∧Loop (cZ (s,())) ((([]:List UInt8),(false,((i:Int),()))),())=(ah (Loop (ek (s,())) ((([]:List UInt8),(false,((j:Int),()))),())) fun y3=>some (if y3.1=0 then(1,((s.take j,(true,((j:Int),()))),())) else(1,((y3.2.1.1,(y3.2.1.2.1,((j:Int),()))),()))))) ∨
   ((∀(m:Nat) (y:UInt8),s[m]?=some y→b9 y=false)∧Loop (cZ (s,())) ((([]:List UInt8),(false,((i:Int),()))),())=some (0,((([]:List UInt8),(false,((s.length:Int),()))),()))):=by
   intro d
   induction d with
   | zero =>
     intro i hi hb
     obtain rfl:i=s.length:=by omega
     refine .inr ⟨fun m y hy=>hb m y (aH hy) hy,?_⟩
     have hz:cZ (s,()) ((([]:List UInt8),(false,((s.length:Int),()))),())=some (.inr (0,((([]:List UInt8),(false,((s.length:Int),()))),()))):=by
      unfold cZ
      dsimp only
      rw[aE,af]
     rw[aV,hz];rfl
   | succ d ih =>
     intro i hi hb
     have hx:s[i]?=some s[i]:=List.getElem?_eq_getElem (by omega)
     cases hn:b9 s[i] with
     | true =>
       refine .inl ⟨i,s[i],hx,hn,hb,?_⟩
       have hsome:∃z,Loop (ek (s,())) ((([]:List UInt8),(false,((i:Int),()))),())=some z∧(z.1=0∨z.1=1):=by
        rcases inner i (by omega) with ⟨j,x,_,_,_,_,h⟩|⟨_,h⟩
        ·exact⟨_,h,.inr rfl⟩
        ·exact⟨_,h,.inl rfl⟩
       obtain⟨z,hz,hc⟩:=hsome
       have hin:inside (0:Int) (i:Int) (len s)=true:=qH (a:=0) (Nat.zero_le _) (by omega)
       have hz2:cZ (s,()) ((([]:List UInt8),(false,((i:Int),()))),())=some (.inr (if z.1=0 then(1,((s.take i,(true,((i:Int),()))),())) else(1,((z.2.1.1,(z.2.1.2.1,((i:Int),()))),())))):=by
        unfold cZ
        dsimp only
        rw[au (show i<s.length by omega),ag,az hx,aa,e0,hn,ag,hz,aa]
        rcases hc with c|c
        ·rw[c,cG,ag,hin,ag,jl,if_pos rfl]
        ·rw[c,jc,af,if_neg (by decide)]
       rw[hz,aa,aV,hz2];rfl
     | false =>
       have hz2:cZ (s,()) ((([]:List UInt8),(false,((i:Int),()))),())=some (.inl ((([]:List UInt8),(false,(((i+1:Nat):Int),()))),())):=by
        unfold cZ
        dsimp only
        rw[au (show i<s.length by omega),ag,az hx,aa,e0,hn,af,aZ (by omega)]
       rw[aV,hz2]
       exact ih (i+1) (by omega) (fun m y hm hy=>by
        by_cases e:m=i
        ·subst e;rw[hx] at hy;rw[←Option.some.inj hy];exact hn
        ·exact hb m y (by omega) hy)
  exact key s.length 0 (by omega) (fun m y hm=>absurd hm (by omega))
 rcases outer with ⟨i,x,hx,hn,hb,hL⟩|⟨hall,hL⟩
 ·rw[hL]
  have hi:=aH hx
  rcases inner i (by omega) with ⟨j,y,hj,hy,hq,_,h⟩|⟨ha,h⟩
  ·rw[show Loop (ek (s,())) ((([]:List UInt8),(false,((i:Int),()))),())=_ from h,aa,aa,if_neg (show ¬(1:Nat)=0 by decide),jc,af]
   refine⟨[],false,rfl,?_,fun q=>(by cases q),by simp⟩
   obtain⟨r1,r2⟩:=P7 (p:=b9) hy (by simpa using hq)
   have:¬wU (cj b9 s):=fun q=>by
    have hm:x∈cj b9 s:=bQ.2 ⟨i,by rw[r2 i hj,hx]⟩
    exact q x hm ((wT x).1 hn)
   rw[decide_eq_false this]
  ·rw[show Loop (ek (s,())) ((([]:List UInt8),(false,((i:Int),()))),())=_ from h,aa,aa,if_pos rfl,jc,af]
   have Lt:cj b9 s=s.take i:=x9 (fun m y hm hy=>by simpa using ha m y hm hy) (fun m y hm hy=>hb m y hm hy)
   refine⟨_,true,rfl,?_,fun _=>Lt.symm,by dsimp only;rw[List.length_take];omega⟩
   have:wU (cj b9 s):=fun y hy=>by
    rw[Lt] at hy
    obtain⟨m,hm⟩:=bQ.1 hy
    have hml:=aH hm
    rw[List.length_take] at hml
    rw[List.getElem?_take_of_lt (by omega)] at hm
    intro e
    have:=hb m y (by omega) hm
    rw[(wT y).2 e] at this;cases this
   rw[decide_eq_true this]
 ·rw[hL,aa,cG,ag]
  have Lt:cj b9 s=s:=by
   have:=x9 (p:=b9) (s:=s) (j:=s.length) (fun m y hm hy=>by have:=aH hy;omega) (fun m y hm hy=>hall m y hy)
   rw[this,List.take_length]
  refine⟨s,true,rfl,?_,fun _=>Lt.symm,Nat.le_refl _⟩
  have:wU (cj b9 s):=fun y hy e=>by
   rw[Lt] at hy
   obtain⟨m,hm⟩:=bQ.1 hy
   have:=hall m y hm
   rw[(wT y).2 e] at this;cases this
  rw[decide_eq_true this]
end Go.Ge
namespace Go.Ge
set_option linter.unusedSectionVars false
variable [Lp]
set_option linter.unusedVariables false
set_option linter.unusedSimpArgs false
theorem rK(b:List UInt8)(hb:b.length=512)(a e:Nat)(h:a≤e)(he:e≤512):inside (a:Int) (e:Int) (len b)=true∧sub b (a:Int) (minus (e:Int) (a:Int))=fJ b a (e-a):=by
 refine⟨qH h (by omega),?_⟩
 unfold sub minus fJ
 rw[Int.toNat_natCast,show((e:Int)-(a:Int)).toNat=e-a by omega]
theorem Xt(p q r:Bool)(H H':Hd)(hH:p=true→q=true→r=true→H'=H)(h1:H'.1.length≤1048576)(h2:H'.2.2.2.2.2.2.2.1.length≤1048576) :
  ah (aj (nt (aj (nt (aj (nt (nt p)) (nt q) true)) (nt r) true)) (ah (r7 (H',((256:Int),()))) (fun(fh:Bool×Unit)=>some (nt fh.1))) (some true)) (fun(fh:Bool)=>aj fh (some (U6,((2:Int),()))) (some (H',((0:Int),())))) =
  ah (aj (nt (aj (nt (aj (nt (nt p)) (nt q) true)) (nt r) true)) (ah (rZ (H,((256:Int),()))) (fun(UD:Bool×Unit)=>some (nt UD.1))) (some true)) (fun(UD:Bool)=>aj UD (some (U6,((2:Int),()))) (some (H,((0:Int),())))):=by
 rw[Zb H' 256 h1 h2,PN,aa,aa]
 cases p with
 | false=>rfl
 | true =>
   cases q with
   | false=>rfl
   | true =>
     cases r with
     | false=>rfl
     | true=>rw[hH rfl rfl rfl]
theorem take_same(b:List UInt8)(hb:b.length=512):nc (b,())=fy (b,()):=by
 obtain⟨n6,h6⟩:=en (fJ b 148 8) (by have:=b8 b 148 8;omega)
 have r6:=pg (fJ b 148 8) (by have:=b8 b 148 8;omega)
 obtain⟨i9,s9⟩:=rK b hb 257 265 (by omega) (by omega)
 obtain⟨i6,s6⟩:=rK b hb 148 156 (by omega) (by omega)
 have hl:bC (len b) 512=true:=aR (by simp only[len];omega)
 by_cases hm:fJ b 257 8=lF
 case neg =>
  rw[CJ b hb hm]
  unfold nc
  dsimp only
  rw[hl,aK,aF,ag,show inside (257:Int) (265:Int) (len b)=true from i9,ag,show sub b (257:Int) (minus (265:Int) (257:Int))=fJ b 257 8 from s9,show([117,115,116,97,114,0,48,48]:List UInt8)=lF from rfl,show cc (fJ b 257 8) lF=false from decide_eq_false hm,aF,aa,aK,af,aa,ag]
  rfl
 by_cases hs:n6=(pe b 512:Int)
 case neg =>
  rw[PX b hb h6 hs]
  unfold nc
  dsimp only
  rw[hl,aK,aF,ag,show inside (257:Int) (265:Int) (len b)=true from i9,ag,show sub b (257:Int) (minus (265:Int) (257:Int))=fJ b 257 8 from s9,show([117,115,116,97,114,0,48,48]:List UInt8)=lF from rfl,hm,show cc lF lF=true from ug _,aK,aa,aF,ag,show inside (148:Int) (156:Int) (len b)=true from i6,ag,show sub b (148:Int) (minus (156:Int) (148:Int))=fJ b 148 8 from s6,r6,h6,aa,Ec b (by omega),aa]
  dsimp only
  rw[hb,aN hs,aF,aa,ag]
  rfl
 obtain⟨n1,h1⟩:=en (fJ b 100 8) (by have:=b8 b 100 8;omega)
 obtain⟨n2,h2⟩:=en (fJ b 108 8) (by have:=b8 b 108 8;omega)
 obtain⟨n3,h3⟩:=en (fJ b 116 8) (by have:=b8 b 116 8;omega)
 obtain⟨n4,h4⟩:=en (fJ b 124 12) (by have:=b8 b 124 12;omega)
 obtain⟨n5,h5⟩:=en (fJ b 136 12) (by have:=b8 b 136 12;omega)
 have r1:=(pg (fJ b 100 8) (by have:=b8 b 100 8;omega)).trans h1
 have r2:=(pg (fJ b 108 8) (by have:=b8 b 108 8;omega)).trans h2
 have r3:=(pg (fJ b 116 8) (by have:=b8 b 116 8;omega)).trans h3
 have r4:=(pg (fJ b 124 12) (by have:=b8 b 124 12;omega)).trans h4
 have r5:=(pg (fJ b 136 12) (by have:=b8 b 136 12;omega)).trans h5
 have m0:=b8 b 0 100
 have m8:=b8 b 157 100
 have m10:=b8 b 345 155
 obtain⟨t0,k0,ra0,rb0,rc0,rd0⟩:=FA (fJ b 0 100) (by omega)
 obtain⟨t8,k8,ra8,rb8,rc8,rd8⟩:=FA (fJ b 157 100) (by omega)
 obtain⟨t10,k10,aeD,aeE,aeF,agF⟩:=FA (fJ b 345 155) (by omega)
 have l0:=nq b9 (fJ b 0 100)
 have l10:=nq b9 (fJ b 345 155)
 obtain⟨i0,s0⟩:=rK b hb 0 100 (by omega) (by omega)
 obtain⟨i8,s8⟩:=rK b hb 157 257 (by omega) (by omega)
 obtain⟨i10,s10⟩:=rK b hb 345 500 (by omega) (by omega)
 obtain⟨i1,s1⟩:=rK b hb 100 108 (by omega) (by omega)
 obtain⟨i2,s2⟩:=rK b hb 108 116 (by omega) (by omega)
 obtain⟨i3,s3⟩:=rK b hb 116 124 (by omega) (by omega)
 obtain⟨i4,s4⟩:=rK b hb 124 136 (by omega) (by omega)
 obtain⟨i5,s5⟩:=rK b hb 136 148 (by omega) (by omega)
 obtain⟨c,hk,f7⟩:∃c,b[156]?=some c∧fJ b 156 1=[c]:=by
  refine⟨b[156],List.getElem?_eq_getElem (by omega),?_⟩
  unfold fJ
  rw[List.drop_eq_getElem_cons (by omega)]
  rfl
 unfold fy
 dsimp only
 rw[hl,aK,aF,ag,o9 b hb,aa,aa,show([117,115,116,97,114,0,48,48]:List UInt8)=lF from rfl]
 dsimp only
 rw[hm,show cc lF lF=true from ug _,aK,aF,ag,o6 b hb,aa]
 dsimp only
 rw[h6,aa,Fv b (by omega),aa]
 dsimp only
 rw[hb,aR hs,aK,aa,af,o0 b hb,aa]
 dsimp only
 rw[rb0,aa,o8 b hb,aa]
 dsimp only
 rw[rb8,aa,o10 b hb,aa]
 dsimp only
 rw[aeE,aa]
 dsimp only
 have hpre:(aj (nt (cc (cj b9 (fJ b 345 155)) [])) (aj (fits (plus (len (cj b9 (fJ b 345 155))) (len ([47]:List UInt8)))) (aj (fits (plus (len (app (cj b9 (fJ b 345 155)) [47])) (len (cj b9 (fJ b 0 100)))))
   (some ((app (app (cj b9 (fJ b 345 155)) [47]) (cj b9 (fJ b 0 100)),()),())) none) none) (some ((cj b9 (fJ b 0 100),()),())))=some ((if cj b9 (fJ b 345 155)=[] then cj b9 (fJ b 0 100) else cj b9 (fJ b 345 155)++[47]++cj b9 (fJ b 0 100),()),()):=by
  by_cases he:cj b9 (fJ b 345 155)=[]
  ·rw[if_pos he,fE he,aK,af]
  ·rw[if_neg he,cu he,aF,ag,dD (by simp only[plus,len,List.length_cons,List.length_nil];omega),ag,dD (by simp only[plus,len,app,List.length_append,List.length_cons,List.length_nil];omega),ag]
   rfl
 rw[hpre,aa,o1 b hb,aa]
 dsimp only
 rw[h1,aa,o2 b hb,aa]
 dsimp only
 rw[h2,aa,o3 b hb,aa]
 dsimp only
 rw[h3,aa,o4 b hb,aa]
 dsimp only
 rw[h4,aa,o5 b hb,aa]
 dsimp only
 rw[h5,aa,o7 b hb,aa,f7]
 unfold nc
 dsimp only
 rw[hl,aK,aF,ag,show inside (257:Int) (265:Int) (len b)=true from i9,ag,show sub b (257:Int) (minus (265:Int) (257:Int))=fJ b 257 8 from s9,show([117,115,116,97,114,0,48,48]:List UInt8)=lF from rfl,hm,show cc lF lF=true from ug _,aK,aa,aF,ag,show inside (148:Int) (156:Int) (len b)=true from i6,ag,show sub b (148:Int) (minus (156:Int) (148:Int))=fJ b 148 8 from s6,r6,h6,aa,Ec b (by omega),aa]
 dsimp only
 rw[hb,aR hs,aK,aa,af]
 rw[show inside (0:Int) (100:Int) (len b)=true from i0,ag,show sub b (0:Int) (minus (100:Int) (0:Int))=fJ b 0 100 from s0,ra0,aa]
 rw[show inside (157:Int) (257:Int) (len b)=true from i8,ag,show sub b (157:Int) (minus (257:Int) (157:Int))=fJ b 157 100 from s8,ra8,aa]
 rw[show inside (345:Int) (500:Int) (len b)=true from i10,ag,show sub b (345:Int) (minus (500:Int) (345:Int))=fJ b 345 155 from s10,aeD,aa]
 rw[show inside (100:Int) (108:Int) (len b)=true from i1,ag,show sub b (100:Int) (minus (108:Int) (100:Int))=fJ b 100 8 from s1,r1,aa]
 rw[show inside (108:Int) (116:Int) (len b)=true from i2,ag,show sub b (108:Int) (minus (116:Int) (108:Int))=fJ b 108 8 from s2,r2,aa]
 rw[show inside (116:Int) (124:Int) (len b)=true from i3,ag,show sub b (116:Int) (minus (124:Int) (116:Int))=fJ b 116 8 from s3,r3,aa]
 rw[show inside (124:Int) (136:Int) (len b)=true from i4,ag,show sub b (124:Int) (minus (136:Int) (124:Int))=fJ b 124 12 from s4,r4,aa]
 rw[show inside (136:Int) (148:Int) (len b)=true from i5,ag,show sub b (136:Int) (minus (148:Int) (136:Int))=fJ b 136 12 from s5,r5,aa]
 dsimp only
 have acD:∀(x:Int×Int×Int×Int×Int×Int×List UInt8×Unit),(aj (nt (cc t10 [])) (aj (fits (plus (len t10) (len ([47]:List UInt8)))) (aj (fits (plus (len (app t10 [47])) (len t0)))
   (some ((),((app (app t10 [47]) t0,x),()))) none) none) (some ((),((t0,x),()))))=some ((),((if t10=[] then t0 else t10++[47]++t0,x),())):=fun x=>by
  by_cases he:t10=[]
  ·rw[if_pos he,fE he,aK,af]
  ·rw[if_neg he,cu he,aF,ag,dD (by simp only[plus,len,List.length_cons,List.length_nil];omega),ag,dD (by simp only[plus,len,app,List.length_append,List.length_cons,List.length_nil];omega),ag]
   rfl
 rw[acD,aa,show idx b (156:Int)=some c from az (i:=156) hk,aa]
 have c48:cc [c] [48]=decide (c=48):=decide_eq_decide.2 (by simp)
 have c0:cc [c] [0]=decide (c=0):=decide_eq_decide.2 (by simp)
 have c53:cc [c] [53]=decide (c=53):=decide_eq_decide.2 (by simp)
 have c50:cc [c] [50]=decide (c=50):=decide_eq_decide.2 (by simp)
 have d48:bC (u8 c) 48=decide (c=48):=Bz (n:=48)
 have d0:bC (u8 c) 0=decide (c=0):=Bz (n:=0)
 have d53:bC (u8 c) 53=decide (c=53):=Bz (n:=53)
 have d50:bC (u8 c) 50=decide (c=50):=Bz (n:=50)
 rw[c48,c0,c53,c50,d48,d0,d53,d50]
 have acE:(if t10=[] then t0 else t10++[47]++t0).length≤1048576:=by
  split
  ·omega
  ·simp only[List.length_append,List.length_cons,List.length_nil];omega
 refine Xt k0 k8 k10 _ _ (fun a0 a8 a10=>?_) ?_ ?_
 ·rw[rc0 a0,rc8 a8,aeF a10]
  all_goals cases decide (c=48)<;>cases decide (c=0)<;>cases decide (c=53)<;>cases decide (c=50)<;>rfl
 ·cases decide (c=48)<;>cases decide (c=0)<;>cases decide (c=53)<;>cases decide (c=50)<;>exact acE
 ·have h8:t8.length≤1048576:=by omega
  have hn:([]:List UInt8).length≤1048576:=by simp
  cases decide (c=48)<;>cases decide (c=0)<;>cases decide (c=53)<;>cases decide (c=50)<;>first|exact hn|exact h8
end Go.Ge
namespace Go.Ge
set_option linter.unusedSectionVars false
variable [Lp]
set_option linter.unusedVariables false
set_option linter.unusedSimpArgs false
abbrev Stp:=((List UInt8×Unit)⊕((List UInt8×Unit)⊕(Unit⊕((Nd×Unit)⊕Unit))))
def jD(l:List Pt):Bool:=l.all fun p=>(ck p).2.2
def Xu(l:List Pt):Prop:=l.length≤10000∧∀p∈l,SmP p
theorem aaR{l:List Pt}:(∀(i:Nat) (x:Pt),l[i]?=some x→(!(ck x).2.2)=false)→jD l=true:=fun h=>by
 unfold jD
 rw[List.all_eq_true]
 intro x hx
 obtain⟨i,hi⟩:=bQ.1 hx
 have:=h i x hi
 simpa using this
theorem Ze{l:List Pt}{i:Nat}{x:Pt}(hx:l[i]?=some x)(h:(!(ck x).2.2)=true):jD l=false:=by
 unfold jD
 rw[List.all_eq_false]
 exact⟨x,List.mem_of_getElem? hx,by simpa using h⟩
theorem z8(l:List Pt)(hl:Xu l):nU (l,())=some (jD l,()):=by
 unfold nU
 have h1:=hl.1
 rcases mM (f:=mY (l,())) l (fun i=>((false,(i,())),())) (fun _ x=>!(ck x).2.2) (fun i _=>(1,((false,((i:Int),())),()))) (0,((false,((l.length:Int),())),())) (by omega) (fun i x hx hi G7=>by
  unfold mY
  dsimp only
  rw[au hi,ag,az hx,aa,zZ x (hl.2 x (List.mem_of_getElem? hx)),aa,G7]
  dsimp only
  cases (ck x).2.2<;>rfl) (by
  unfold mY
  dsimp only
  rw[aE,af]) with ⟨i,x,hx,hp,_,h⟩|⟨hn,h⟩
 ·rw[h,aa,Ze hx hp];rfl
 ·rw[h,aa,aaR hn];rfl
end Go.Ge
namespace Go.Ge
set_option linter.unusedSectionVars false
variable [Lp]
set_option linter.unusedVariables false
set_option linter.unusedSimpArgs false
theorem P9(l:List Nd)(p:List UInt8)(hl:L9 l)(hv:Valid l):tw (l,(p,()))=some (findF l p):=by
 obtain⟨e,c1,c2⟩:=qL l hl
 obtain rfl:=c2.2 hv
 unfold tw
 dsimp only
 rcases zS l p hl with ⟨i,x,hx,Xj,h⟩|⟨hno,h⟩
 ·rw[h,aa,c1,aa]
  dsimp only
  rw[aJ (by omega),az hx,Jy hv.ord (List.mem_of_getElem? hx) Xj]
  rfl
 ·rw[h,aa,c1,aa,SP hno]
  rfl
end Go.Ge
namespace Go.Ge
set_option linter.unusedSectionVars false
variable [Lp]
set_option linter.unusedVariables false
set_option linter.unusedSimpArgs false
theorem SS{n:Nd}(h:jB n=true):n.1.length≤92∧n.2.2.2.2.1.length≤100∧n.2.2.2.1.length≤8192:=by
 unfold jB at h
 simp only[Bool.and_eq_true] at h
 have hp:=h.1.1.1
 have hk:=h.2
 unfold zR at hp
 simp only[Bool.and_eq_true,decide_eq_true_eq] at hp
 refine⟨hp.1.1.2,?_⟩
 unfold TI at hk
 split at hk
 ·have:=of_decide_eq_true hk
  exact⟨by rw[this.1];simp,this.2⟩
 ·split at hk
  ·have:=of_decide_eq_true hk
   exact⟨by rw[this.1];simp,by rw[this.2];simp⟩
  ·split at hk
   ·have:=of_decide_eq_true hk
    exact⟨this.2.2.1,by rw[this.1];simp⟩
   ·cases hk
theorem sw{l:List Nd}(h:Valid l):L9 l:=⟨by have:=h.BB;omega,fun x hx=>by
 have:=SS (h.may x hx)
 exact⟨by omega,by omega,by omega⟩⟩
theorem Qa{l:List Nd}(h:Valid l)(p:List UInt8):Valid (uA l p):=by
 refine⟨Nat.le_trans (List.length_filter_le _ _) h.BB,h.ord.filter _,fun x hx=>h.may x (List.mem_filter.1 hx).1,fun x hx=>?_⟩
 obtain⟨hx1,hx2⟩:=List.mem_filter.1 hx
 by_cases hu:(bD x.1).1=[]
 ·exact .inl hu
 ·rcases h.up x hx1 with h0|⟨y,hy,e,k⟩
  ·exact absurd h0 hu
  ·refine .inr ⟨y,List.mem_filter.2 ⟨hy,?_⟩,e,k⟩
   cases hg:gone p y with
   | false=>rfl
   | true =>
     have:gone p x=true:=by
      unfold gone at hg⊢
      rw[Bool.or_eq_true] at hg⊢
      rcases hg with hg|hg
      ·right
       rw[←of_decide_eq_true hg,e]
       exact CL hu
      ·exact .inr (JA hu e hg)
     rw[this] at hx2;cases hx2
theorem JF{l:List Nd}(h:Valid l)(p:List UInt8):Valid (jC l p false):=by
 refine⟨Nat.le_trans (List.length_filter_le _ _) h.BB,h.ord.filter _,fun x hx=>h.may x (List.mem_filter.1 hx).1,fun x hx=>?_⟩
 obtain⟨hx1,hx2⟩:=List.mem_filter.1 hx
 by_cases hu:(bD x.1).1=[]
 ·exact .inl hu
 ·rcases h.up x hx1 with h0|⟨y,hy,e,k⟩
  ·exact absurd h0 hu
  ·refine .inr ⟨y,List.mem_filter.2 ⟨hy,?_⟩,e,k⟩
   cases hg:cC (parts y.1) (parts p) with
   | false=>rfl
   | true =>
     rw[JA hu e hg] at hx2;cases hx2
theorem NQ(l:List Nd)(p:List UInt8):jC l p true=uA l p:=by
 unfold jC uA gone
 congr 1
 funext x
 cases decide (x.1=p)<;>cases cC (parts x.1) (parts p)<;>rfl
theorem Aa(p:Pt):Md (ck p).2.1:=by
 have hnil:Md []:=⟨fun x hx=>(by cases hx),(by simp),(by simp[aM])⟩
 unfold ck
 split
 ·rename_i hc
  dsimp only
  split
  ·rename_i hm;exact(Me hc hm).2
  ·split
   ·exact NP (Ee hc)
   ·split
    ·exact Ee hc
    ·exact hnil
 ·exact hnil
def Ab(t:List Nd)(p:Pt):List Nd:=if(ck p).1=1 then uA t (aM (ck p).2.1) else if(ck p).1=2 then jC t (aM (ck p).2.1) false else t
theorem ya{t:List Nd}(h:Valid t)(p:Pt):Valid (Ab t p):=by
 unfold Ab
 split
 ·exact Qa h _
 ·split
  ·exact JF h _
  ·exact h
theorem JG{t:List Nd}(h:Valid t)(p:List UInt8)(hp:p.length≤4096):qe (t,(p,()))=some (uA t p,()):=by
 obtain⟨b,b1,b2⟩:=qL t (sw h)
 unfold qe
 dsimp only
 rw[b1,aa,b2.2 h]
 dsimp only
 rw[aK,af,zT t p true (sw h) hp,aa,NQ]
theorem KY{t:List Nd}(h:Valid t)(p:List UInt8)(hp:p.length≤4096):rE (t,(p,()))=some (jC t p false,()):=by
 obtain⟨b,b1,b2⟩:=qL t (sw h)
 unfold rE
 dsimp only
 rw[b1,aa,b2.2 h]
 dsimp only
 rw[aK,af,zT t p false (sw h) hp,aa]
theorem Vb{α β:Type}(f:β→α→β)(l:List α)(b:β){i:Nat}{x:α}(hx:l[i]?=some x):(l.take (i+1)).foldl f b=f ((l.take i).foldl f b) x:=by
 rw[List.take_add_one,hx,List.foldl_append];rfl
theorem KZ(l0:List Nd)(l:List Pt)(hl:Xu l)(ht:Valid l0):Loop (mA (l0,(l,()))) ((l0,((0:Int),())),())=some ((l.foldl Ab l0,((l.length:Int),())),()):=by
 have h10:=hl.1
 obtain⟨t,h0,h1,_⟩:=Fc (f:=mA (l0,(l,()))) l (fun(t:List Nd) i=>((t,(i,())),())) (fun t _ x=>Ab t x) (fun t=>((t,((l.length:Int),())),())) (fun t i=>t=(l.take i).foldl Ab l0∧Valid t) (by omega) (fun t i x hx hi G7 hI=>by
  have hsh:=Aa x
  constructor
  ·unfold mA
   dsimp only
   rw[au hi,ag,az hx,aa,zZ x (hl.2 x (List.mem_of_getElem? hx)),aa,G7]
   dsimp only
   rw[JG hI.2 _ (by have:=hsh.2.2;omega),aa,KY hI.2 _ (by have:=hsh.2.2;omega),aa]
   unfold Ab
   by_cases h1:(ck x).1=1
   ·rw[aR h1,if_pos h1];rfl
   ·rw[aN h1,if_neg h1]
    by_cases h2:(ck x).1=2
    ·rw[aR h2,if_pos h2];rfl
    ·rw[aN h2,if_neg h2];rfl
  ·exact⟨by rw[Vb Ab l l0 hx,←hI.1],ya hI.2 x⟩) (fun t _=>by
  unfold mA
  dsimp only
  rw[aE,af]
  rfl) l0 ⟨rfl,ht⟩
 rw[List.take_length] at h0
 rw[←h0.1]
 exact h1
end Go.Ge
namespace Go.Ge
set_option linter.unusedSectionVars false
variable [Lp]
set_option linter.unusedVariables false
set_option linter.unusedSimpArgs false
theorem uC{t:List Nd}{n:Nd}(h:(cg t n).2=0):Valid (cg t n).1:=by
 rcases JB t n with ⟨_,h2⟩|⟨h1,h2,h3,r,h4,h5,h6⟩
 ·exact absurd h h2
 ·rw[h6];exact Mc h1 h2 h3 h4 h5
noncomputable def gT:List (List UInt8)→List UInt8→List Nd→List Nd×Int
 | [],_,t=>(t,0)
 | nm::r,at',t =>
   if(findF t (sj at' nm)).2.1=true∧(findF t (sj at' nm)).1.2.1=2 then gT r (sj at' nm) t
   else if(cg t (kr 493 (sj at' nm))).2=0 then gT r (sj at' nm) (cg t (kr 493 (sj at' nm))).1
   else([],(cg t (kr 493 (sj at' nm))).2)
theorem Gn:∀(r:List (List UInt8)) (a:List UInt8) (t:List Nd),Valid t→(gT r a t).2=0→Valid (gT r a t).1:=by
 intro r
 induction r with
 | nil=>intro a t h _;exact h
 | cons nm r ih =>
   intro a t h h2
   unfold gT at h2⊢
   split at h2
   ·rename_i hc;rw[if_pos hc];exact ih _ _ h h2
   ·rename_i hc
    rw[if_neg hc]
    split at h2
    ·rename_i hp;rw[if_pos hp];exact ih _ _ (uC hp) h2
    ·rename_i hp;exact absurd h2 hp
abbrev DS:=((List Nd×(List Nd×(Int×(List UInt8×(Int×Unit)))))×Unit)
theorem Xv{f:DS→Option (DS⊕(Nat×DS))}(ns:List (List UInt8))(h:Md ns)(n:Nat)(hn:n≤ns.length)
  (hstep:∀(i:Nat) (x:List UInt8) (t:List Nd),i<n→ns[i]?=some x→Valid t →
   f ((t,([],((0:Int),(aM (ns.take i),((i:Int),()))))),()) =
    some (if(findF t (eW ns i)).2.1=true∧(findF t (eW ns i)).1.2.1=2 then .inl ((t,([],((0:Int),(eW ns i,(((i+1:Nat):Int),()))))),())
     else if(cg t (kr 493 (eW ns i))).2=0 then .inl (((cg t (kr 493 (eW ns i))).1,([],((0:Int),(eW ns i,(((i+1:Nat):Int),()))))),())
     else .inr (1,((t,([],((cg t (kr 493 (eW ns i))).2,(eW ns i,((i:Int),()))))),()))))
  (hend:∀(t:List Nd) (a:List UInt8),f ((t,([],((0:Int),(a,((n:Int),()))))),())=some (.inr (0,((t,([],((0:Int),(a,((n:Int),()))))),())))) :
  ∀(d i:Nat) (t:List Nd),i+d=n→Valid t→∃z,Loop f ((t,([],((0:Int),(aM (ns.take i),((i:Int),()))))),())=some z ∧
   (((gT ((ns.take n).drop i) (aM (ns.take i)) t).2=0∧z.1=0∧z.2.1.1=(gT ((ns.take n).drop i) (aM (ns.take i)) t).1) ∨
    ((gT ((ns.take n).drop i) (aM (ns.take i)) t).2≠0∧z.1=1∧z.2.1.2.1=[]∧z.2.1.2.2.1=(gT ((ns.take n).drop i) (aM (ns.take i)) t).2)):=by
 intro d
 induction d with
 | zero =>
   intro i t hi hv
   obtain rfl:i=n:=by omega
   refine⟨_,by rw[aV,hend];rfl,.inl ?_⟩
   rw[List.drop_of_length_le (by rw[List.length_take];omega)]
   exact⟨rfl,rfl,rfl⟩
 | succ d ih =>
   intro i t hi hv
   have hx:ns[i]?=some ns[i]:=List.getElem?_eq_getElem (by omega)
   have hs:=hstep i ns[i] t (by omega) hx hv
   have Qb:(ns.take n).drop i=ns[i]::(ns.take n).drop (i+1):=by
    rw[List.drop_eq_getElem_cons (by rw[List.length_take];omega),List.getElem_take]
   have hj:=uB h.1 hx
   rw[Qb]
   unfold gT
   rw[hj]
   have I0:eW ns i=aM (ns.take (i+1)):=rfl
   split
   ·rename_i hc
    rw[if_pos hc] at hs
    obtain⟨z,z1,z2⟩:=ih (i+1) t (by omega) hv
    refine⟨z,?_,by rw[I0];exact z2⟩
    rw[aV,hs]
    exact z1
   ·rename_i hc
    rw[if_neg hc] at hs
    split
    ·rename_i hp
     rw[if_pos hp] at hs
     obtain⟨z,z1,z2⟩:=ih (i+1) _ (by omega) (uC hp)
     refine⟨z,?_,by rw[I0];exact z2⟩
     rw[aV,hs]
     exact z1
    ·rename_i hp
     rw[if_neg hp] at hs
     refine⟨_,by rw[aV,hs];rfl,.inr ⟨hp,rfl,rfl,rfl⟩⟩
theorem aaS(m:Int){ns:List (List UInt8)}(h:Md ns)(i:Nat):Sm (kr m (eW ns i)):=⟨h.xZ (i+1),by simp[kr],by simp[kr]⟩
noncomputable def uD(ns:List (List UInt8))(t:List Nd)(n:Nd):List Nd×Int:=if(gT ns.dropLast [] t).2=0 then cg (gT ns.dropLast [] t).1 n else([],(gT ns.dropLast [] t).2)
theorem Qc{ns:List (List UInt8)}(h:Md ns){t:List Nd}(hv:Valid t):tC (t,(aM ns,()))=some ((if(gT ns.dropLast [] t).2=0 then(gT ns.dropLast [] t).1 else []),((gT ns.dropLast [] t).2,())):=by
 unfold tC
 dsimp only
 rw[gi _ (by have:=h.2.2;omega),aa,mj _ h.1]
 have hlt:ns.take (ns.length-1)=ns.dropLast:=List.dropLast_eq_take.symm
 obtain⟨z,z1,z2⟩:=Xv (f:=kL (ns,())) ns h (ns.length-1) (by omega) (fun i x u hi hx hu=>by
  have hus:=sw hu
  have hxl:=h.TK (List.mem_of_getElem? hx)
  have hpl:=h.xZ i
  have agK:=h.xZ (i+1)
  have h16:=h.2.1
  unfold kL
  dsimp only
  rw[aZ (by omega),au (show i+1<ns.length by omega),ag,az hx,aa,xU _ _ (by omega) (by omega),aa,uB h.1 hx]
  dsimp only
  rw[P9 u _ hus hu,aa]
  have hp:=zV u (kr 493 (eW ns i)) hus (aaS 493 h i)
  rw[show mz (u,((eW ns i,((2:Int),((493:Int),(([]:List UInt8),(([]:List UInt8),()))))),()))=_ from hp,aa]
  dsimp only
  by_cases hf:(findF u (eW ns i)).2.1=true
  ·by_cases hk:(findF u (eW ns i)).1.2.1=2
   ·rw[hf,aR hk,if_pos ⟨rfl,hk⟩];rfl
   ·rw[hf,aN hk,if_neg (fun q=>hk q.2)]
    by_cases he:(cg u (kr 493 (eW ns i))).2=0
    ·rw[aR he,if_pos he];rfl
    ·rw[aN he,if_neg he];rfl
  ·rw[show(findF u (eW ns i)).2.1=false by simpa using hf,if_neg (fun q=>by cases q.1)]
   by_cases he:(cg u (kr 493 (eW ns i))).2=0
   ·rw[aR he,if_pos he];rfl
   ·rw[aN he,if_neg he];rfl) (fun u a=>by
  unfold kL
  dsimp only
  have h16:=h.2.1
  rw[aZ (by omega),show aY ((ns.length-1+1:Nat):Int) (len ns)=false from aJ (by unfold len;omega),af]) (ns.length-1) 0 t (by omega) hv
 rw[List.drop_zero,hlt] at z2
 rw[show Loop (kL (ns,())) ((t,(([]:List Nd),((0:Int),(([]:List UInt8),((0:Int),()))))),())=_ from z1,aa]
 have X6:aM (ns.take 0)=[]:=by simp[aM]
 rw[X6] at z2
 rcases z2 with ⟨a1,a2,a3⟩|⟨a1,a2,a3,a4⟩
 ·rw[a2,show fB 0 0=true from rfl,ag,a3,if_pos a1,a1]
 ·rw[a2,show fB 1 0=false from rfl,af,a3,a4,if_neg a1]
end Go.Ge
namespace Go.Ge
set_option linter.unusedSectionVars false
variable [Lp]
set_option linter.unusedVariables false
set_option linter.unusedSimpArgs false
noncomputable def qo(t:List Nd)(p:Pt):List Nd×Int:=if(ck p).1=0∧(ck p).2.1≠[] then uD (ck p).2.1 t (lg p (aM (ck p).2.1)) else(t,0)
noncomputable def vP:List Pt→List Nd→List Nd×Int
 | [],t=>(t,0)
 | p::r,t=>if(qo t p).2=0 then vP r (qo t p).1 else([],(qo t p).2)
theorem Qd{ns:List (List UInt8)}{t:List Nd}{n:Nd}(h:(uD ns t n).2=0):Valid (uD ns t n).1:=by
 unfold uD at h⊢
 split at h
 ·rename_i hd;rw[if_pos hd];exact uC h
 ·rename_i hd;exact absurd h hd
theorem vo{t:List Nd}{p:Pt}(hv:Valid t)(h:(qo t p).2=0):Valid (qo t p).1:=by
 unfold qo at h⊢
 split at h
 ·rename_i hc;rw[if_pos hc];exact Qd h
 ·rename_i hc;rw[if_neg hc];exact hv
theorem CO:∀(l:List Pt) (t:List Nd),Valid t→(((vP l t).2=0∧Valid (vP l t).1)∨((vP l t).2≠0∧(vP l t).1=[])):=by
 intro l
 induction l with
 | nil=>intro t h;exact .inl ⟨rfl,h⟩
 | cons p r ih =>
   intro t h
   unfold vP
   split
   ·rename_i hp;exact ih _ (vo h hp)
   ·rename_i hp;exact .inr ⟨hp,rfl⟩
theorem Zf{p:Pt}(hp:SmP p){ns:List (List UInt8)}(h:Md ns):Sm (lg p (aM ns)):=⟨h.2.2,hp.2.1,hp.2.2⟩
theorem runs{S R:Type}{f:S→Option (S⊕R)}(l:List Pt)(mk:List Nd→Nat→S)(fin:List Nd→R)(err:Int→List Nd→Nat→R)
  (hstep:∀(i:Nat) (x:Pt) (t:List Nd),l[i]?=some x→Valid t→f (mk t i)=some (if(qo t x).2=0 then .inl (mk (qo t x).1 (i+1)) else .inr (err (qo t x).2 t i)))
  (hend:∀t,f (mk t l.length)=some (.inr (fin t))) :
  ∀(d i:Nat) (t:List Nd),i+d=l.length→Valid t→∃z,Loop f (mk t i)=some z ∧
   (((vP (l.drop i) t).2=0∧z=fin (vP (l.drop i) t).1)∨((vP (l.drop i) t).2≠0∧∃t' i',z=err (vP (l.drop i) t).2 t' i')):=by
 intro d
 induction d with
 | zero =>
   intro i t hi hv
   obtain rfl:i=l.length:=by omega
   refine⟨_,by rw[aV,hend];rfl,.inl ?_⟩
   rw[List.drop_length]
   exact⟨rfl,rfl⟩
 | succ d ih =>
   intro i t hi hv
   have hx:l[i]?=some l[i]:=List.getElem?_eq_getElem (by omega)
   have hs:=hstep i l[i] t hx hv
   rw[List.drop_eq_getElem_cons (by omega)]
   unfold vP
   split
   ·rename_i hp
    rw[if_pos hp] at hs
    obtain⟨z,z1,z2⟩:=ih (i+1) _ (by omega) (vo hv hp)
    exact⟨z,by rw[aV,hs];exact z1,z2⟩
   ·rename_i hp
    rw[if_neg hp] at hs
    exact⟨_,by rw[aV,hs];rfl,.inr ⟨hp,t,i,rfl⟩⟩
open Classical in
noncomputable def nE(l:List Nd)(ps:List Pt):List Nd×Int:=if Valid l then(if jD ps=true then vP ps (ps.foldl Ab l) else([],10)) else([],1)
theorem vp(ps:List Pt):∀(l:List Nd),Valid l→Valid (ps.foldl Ab l):=by
 induction ps with
 | nil=>intro l h;exact h
 | cons p r ih=>intro l h;exact ih _ (ya h p)
theorem SU(l:List Nd)(ps:List Pt)(hl:L9 l)(hp:Xu ps):vj (l,(ps,()))=some ((nE l ps).1,((nE l ps).2,())):=by
 obtain⟨e,c1,c2⟩:=qL l hl
 have h1:=hl.1
 have h2:=hp.1
 unfold vj nE
 dsimp only
 rw[c1,aa]
 dsimp only
 by_cases hv:Valid l
 ·rw[c2.2 hv,aK,af,if_pos hv,z8 ps hp,aa]
  dsimp only
  by_cases ha:jD ps=true
  ·rw[if_pos ha,ha,aK,af]
   have k1:=KZ l ps hp hv
   have k2:=vp ps l hv
   rw[k1,aa]
   dsimp only
   obtain⟨z,z1,z2⟩:=runs (f:=mB (l,(ps,()))) ps (fun t i=>((t,([],((0:Int),((i:Int),())))),())) (fun t=>(0,((t,([],((0:Int),((ps.length:Int),())))),()))) (fun e t i=>(1,((t,([],(e,((i:Int),())))),()))) (fun i x t hx hu=>by
    have hi:=aH hx
    have hpx:=hp.2 x (List.mem_of_getElem? hx)
    have hsh:=Aa x
    unfold mB
    dsimp only
    rw[au hi,ag,az hx,aa,zZ x hpx,aa,aZ (by omega)]
    dsimp only
    rw[Qc hsh hu,aa,aa]
    unfold qg
    dsimp only
    rw[aa]
    dsimp only
    by_cases h0:(ck x).1=0
    ·have hj:=AP hsh.1
     by_cases hn:(ck x).2.1=[]
     ·have hpf:qo t x=(t,0):=by unfold qo;rw[if_neg (fun q=>q.2 hn)]
      rw[hpf,aR h0,fE (hj.2 hn)];rfl
     ·have hpf:qo t x=uD (ck x).2.1 t (lg x (aM (ck x).2.1)):=by unfold qo;rw[if_pos ⟨h0,hn⟩]
      rw[hpf,aR h0,cu (fun q=>hn (hj.1 q))]
      rw[show ∀(A B:Option ((((List Nd)×(List Nd)×Int×Int×Unit)×Unit)⊕(Nat×((List Nd)×(List Nd)×Int×Int×Unit)×Unit))),aj (aj (nt (nt true)) false true) A B=B from fun A B=>rfl]
      by_cases hd:(gT (ck x).2.1.dropLast [] t).2=0
      ·have hnf:uD (ck x).2.1 t (lg x (aM (ck x).2.1))=cg (gT (ck x).2.1.dropLast [] t).1 (lg x (aM (ck x).2.1)):=by unfold uD;rw[if_pos hd]
       have Lv:=Gn _ _ _ hu hd
       have hput:=zV (gT (ck x).2.1.dropLast [] t).1 (lg x (aM (ck x).2.1)) (sw Lv) (Zf hpx hsh)
       rw[hnf,aR hd,if_pos hd,aK,af]
       rw[show mz ((gT (ck x).2.1.dropLast [] t).1,((aM (ck x).2.1,(x.1.2.1,(x.1.2.2.1,(x.2.1,(x.1.2.2.2.2.2.2.2.1,()))))),()))=_ from hput,aa]
       dsimp only
       by_cases he:(cg (gT (ck x).2.1.dropLast [] t).1 (lg x (aM (ck x).2.1))).2=0
       ·rw[aR he,if_pos he];rfl
       ·rw[aN he,if_neg he];rfl
      ·have hnf:uD (ck x).2.1 t (lg x (aM (ck x).2.1))=([],(gT (ck x).2.1.dropLast [] t).2):=by unfold uD;rw[if_neg hd]
       rw[hnf,aN hd,if_neg hd,if_neg hd]
       rfl
    ·have hpf:qo t x=(t,0):=by unfold qo;rw[if_neg (fun q=>h0 q.1)]
     rw[hpf,aN h0];rfl) (fun t=>by
    unfold mB
    dsimp only
    rw[aE,af]) ps.length 0 (ps.foldl Ab l) (by omega) k2
   rw[List.drop_zero] at z2
   rw[show Loop (mB (l,(ps,()))) ((ps.foldl Ab l,([],((0:Int),((0:Int),())))),())=_ from z1,aa]
   rcases z2 with ⟨a1,a2⟩|⟨a1,t',i',a2⟩
   ·rw[a2,a1];rfl
   ·rw[a2]
    rcases CO ps _ k2 with ⟨b1,_⟩|⟨_,b2⟩
    ·exact absurd b1 a1
    ·rw[b2];rfl
  ·rw[if_neg ha,show jD ps=false by simpa using ha];rfl
 ·have:e=false:=by
   cases e with
   | false=>rfl
   | true=>exact absurd (c2.1 rfl) hv
  rw[this,if_neg hv];rfl
end Go.Ge
namespace Go.Ge
set_option linter.unusedSectionVars false
variable [Lp]
set_option linter.unusedVariables false
set_option linter.unusedSimpArgs false
def rd0:Rd:=(false,([],(0,(false,(false,())))))
abbrev Ns:=(Bool×Int×Unit)×(Unit×Unit×Unit)×Rd×Unit
def ns(k:Int):Ns:=((false,(k,())),(((),((),())),(rd0,())))
end Go.Ge
namespace Go.Ge
set_option linter.unusedSectionVars false
variable [Lp]
set_option linter.unusedVariables false
end Go.Ge
namespace Go.Ge
set_option linter.unusedSectionVars false
variable [Lp]
set_option linter.unusedVariables false
set_option linter.unusedSimpArgs false
def Has(t:List Nd)(p:List UInt8):Prop:=p=[]∨∃x∈t,x.1=p∧x.2.1=2
theorem Qe{t:List Nd}{n:Nd}(hv:Valid t)(hm:jB n=true)(h:Has t (bD n.1).1):((cg t n).2=0∧n∈(cg t n).1)∨(cg t n).2=5:=by
 unfold cg
 rw[if_neg (show ¬(¬Valid t∨jB n=false) from fun q=>q.elim (fun q=>q hv) (fun q=>by rw[hm] at q;cases q))]
 have h3:¬((bD n.1).1≠[]∧∀x∈t,x.1≠(bD n.1).1):=fun q=>by
  rcases h with h|⟨x,hx,e,_⟩
  ·exact q.1 h
  ·exact q.2 x hx e
 have h12:¬((bD n.1).1≠[]∧∀x∈t,x.1=(bD n.1).1→x.2.1≠2):=fun q=>by
  rcases h with h|⟨x,hx,e,k⟩
  ·exact q.1 h
  ·exact q.2 x hx e k
 rw[if_neg h3,if_neg h12]
 have key:∀r:List Nd,((if 64≤r.length then(([]:List Nd),(5:Int)) else(uR r n,0)).2=0∧n∈(if 64≤r.length then(([]:List Nd),(5:Int)) else(uR r n,0)).1)∨(if 64≤r.length then(([]:List Nd),(5:Int)) else(uR r n,0)).2=5:=fun r=>by
  split
  ·exact .inr rfl
  ·exact .inl ⟨rfl,su.2 (.inl rfl)⟩
 exact key _
theorem Vc{t:List Nd}{p:List UInt8}(h:(findF t p).2.1=true):(findF t p).1∈t∧(findF t p).1.1=p:=by
 unfold findF at h⊢
 cases hf:t.find? fun x=>decide (x.1=p) with
 | none=>rw[hf] at h;cases h
 | some x=>exact⟨List.mem_of_find?_eq_some hf,by have:=List.find?_some hf;simpa using this⟩
theorem Xw{p:List UInt8}(h:jB (kr 0 p)=true):jB (kr 493 p)=true:=by
 unfold jB at h⊢
 simp only[Bool.and_eq_true] at h⊢
 exact⟨⟨⟨h.1.1.1,by simp[kr]⟩,by simp[kr]⟩,by simp[TI,kr]⟩
theorem Vd{ns:List (List UInt8)}(h:Md ns)(n:Nat)(hn:n≤ns.length)(hm:preB ns n=true):∀(d i:Nat) (t:List Nd),i+d=n→Valid t→Has t (aM (ns.take i)) →
  ((gT ((ns.take n).drop i) (aM (ns.take i)) t).2=0∧Has (gT ((ns.take n).drop i) (aM (ns.take i)) t).1 (aM (ns.take n)))∨(gT ((ns.take n).drop i) (aM (ns.take i)) t).2=5:=by
 intro d
 induction d with
 | zero =>
   intro i t hi hv hh
   obtain rfl:i=n:=by omega
   rw[List.drop_of_length_le (by rw[List.length_take];omega)]
   exact .inl ⟨rfl,hh⟩
 | succ d ih =>
   intro i t hi hv hh
   have hx:ns[i]?=some ns[i]:=List.getElem?_eq_getElem (by omega)
   have Qb:(ns.take n).drop i=ns[i]::(ns.take n).drop (i+1):=by
    rw[List.drop_eq_getElem_cons (by rw[List.length_take];omega),List.getElem_take]
   have hj:=uB h.1 hx
   have I0:eW ns i=aM (ns.take (i+1)):=rfl
   rw[Qb]
   unfold gT
   rw[hj]
   split
   ·rename_i hc
    obtain⟨m1,m2⟩:=Vc hc.1
    rw[I0]
    exact ih (i+1) t (by omega) hv (.inr ⟨_,m1,by rw[m2,I0],hc.2⟩)
   ·have hmay:jB (kr 493 (eW ns i))=true:=by
     unfold preB at hm
     rw[List.all_eq_true] at hm
     exact Xw (hm i (List.mem_range.2 (by omega)))
    have hroom:=Qe hv hmay (by
     show Has t (bD (eW ns i)).1
     rw[SQ h.1 (by omega)]
     exact hh)
    split
    ·rename_i hp
     rcases hroom with ⟨_,hmem⟩|h5
     ·rw[I0]
      exact ih (i+1) _ (by omega) (uC hp) (.inr ⟨_,hmem,rfl,rfl⟩)
     ·rw[h5] at hp;cases hp
    ·rename_i hp
     rcases hroom with ⟨h0,_⟩|h5
     ·exact absurd h0 hp
     ·exact .inr h5
theorem Ve{ns:List (List UInt8)}(h:Md ns){n:Nd}(hn:n.1=aM ns)(hm:jB n=true)(hp:zX ns=true){t:List Nd}(hv:Valid t):(uD ns t n).2=0∨(uD ns t n).2=5:=by
 have hlt:ns.take (ns.length-1)=ns.dropLast:=List.dropLast_eq_take.symm
 have hpre:preB ns (ns.length-1)=true:=by
  unfold zX at hp
  simp only[Bool.and_eq_true,decide_eq_true_eq] at hp
  rw[Zd hp.2] at hp
  simp only[Bool.and_eq_true] at hp
  exact hp.1.1
 have hd:=Vd h (ns.length-1) (by omega) hpre (ns.length-1) 0 t (by omega) hv (.inl (by simp[aM]))
 have X6:aM (ns.take 0)=[]:=by simp[aM]
 rw[List.drop_zero,hlt,X6] at hd
 unfold uD
 rcases hd with ⟨d0,d1⟩|d5
 ·rw[if_pos d0]
  have Lv:=Gn _ _ _ hv d0
  rcases Qe Lv hm (by rw[hn,Gl h.1];exact d1) with ⟨p0,_⟩|p5
  ·exact .inl p0
  ·exact .inr p5
 ·rw[if_neg (by rw[d5];decide)]
  exact .inr d5
theorem SV{p:Pt}(hok:(ck p).2.2=true)(h0:(ck p).1=0)(hn:(ck p).2.1≠[]):jB (lg p (aM (ck p).2.1))=true∧zX (ck p).2.1=true:=by
 have key:∀(ns:List (List UInt8)) (q:Bool),ns≠[]→((decide (ns=[])&&q)||(jB (lg p (aM ns))&&zX ns))=true→jB (lg p (aM ns))=true∧zX ns=true:=fun ns q hne hq=>by
  rw[decide_eq_false hne,Bool.false_and,Bool.false_or,Bool.and_eq_true] at hq
  exact hq
 unfold ck at hok h0 hn⊢
 split at h0
 ·rename_i hc
  rw[if_pos hc] at hok hn⊢
  dsimp only at hok h0 hn⊢
  split at h0
  ·cases h0
  ·rename_i h1
   rw[if_neg h1] at hok hn⊢
   split at h0
   ·cases h0
   ·rename_i h2
    rw[if_neg h2] at hok hn⊢
    split at h0
    ·rename_i h3
     rw[if_pos h3] at hok hn⊢
     exact key _ _ hn hok
    ·rename_i h3
     rw[if_neg h3] at hn
     exact absurd rfl hn
 ·rename_i hc
  rw[if_neg hc] at hn
  exact absurd rfl hn
theorem Qf:∀(ps:List Pt) (t:List Nd),jD ps=true→Valid t→(vP ps t).2=0∨(vP ps t).2=5:=by
 intro ps
 induction ps with
 | nil=>intro t _ _;exact .inl rfl
 | cons p r ih =>
   intro t ha hv
   unfold jD at ha
   simp only[List.all_cons,Bool.and_eq_true] at ha
   unfold vP
   split
   ·rename_i hp;exact ih _ ha.2 (vo hv hp)
   ·rename_i hp
    right
    show(qo t p).2=5
    unfold qo at hp⊢
    split
    ·rename_i hc
     rw[if_pos hc] at hp
     obtain⟨m1,m2⟩:=SV ha.1 hc.1 hc.2
     rcases Ve (Aa p) (n:=lg p (aM (ck p).2.1)) rfl m1 m2 hv with h0|h5
     ·exact absurd h0 hp
     ·exact h5
    ·rename_i hc
     rw[if_neg hc] at hp
     exact absurd rfl hp
theorem Zg{l:List Pt}(h1:l.length≤64)(h2:∀q∈l,RdP q):Xu l:=⟨by omega,fun p hp=>h2 p hp⟩
end Go.Ge
