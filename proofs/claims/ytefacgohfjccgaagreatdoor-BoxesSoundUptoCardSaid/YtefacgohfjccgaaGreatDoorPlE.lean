/- Plain laws of what the functions compute: part 5. -/
import Derived.Test.YtefacgohfjccgaaGreatDoorPlD
import Derived.Lib.ParseIntBCases
import Derived.Lib.ItoaMem
set_option linter.unusedSectionVars false
set_option linter.unusedVariables false
set_option linter.unusedSimpArgs false
noncomputable section
namespace Go.Ge
variable [Lp]
def Sm(n:Nd):Prop:=n.1.length≤200∧n.2.2.2.2.1.length≤300∧n.2.2.2.1.length≤8192
def Rp(l:List Nd):Prop:=l.length≤4096∧∀x∈l,Sm x
def key(n:Nd):List (List UInt8):=parts n.1
def cmp(n:Nd)(p:List UInt8):Int:=cmpL (parts n.1) (parts p)
theorem Rp.at{l:List Nd}(h:Rp l){i:Nat}{x:Nd}(hx:l[i]?=some x):Sm x:=h.2 x (gm hx)
theorem Rp.take{l:List Nd}(h:Rp l)(k:Nat):Rp (l.take k):=⟨by rw[cW];have:=h.1;omega,fun x hx=>h.2 x (O1 hx)⟩
def Ord(l:List Nd):Prop:=∀(i j:Nat) (x y:Nd),i<j→l[i]?=some x→l[j]?=some y→cmpL (key x) (key y)<0
theorem Ord.mono{l:List Nd}(h:Ord l)(p:List UInt8):∀(i j:Nat) (x y:Nd),i≤j→l[i]?=some x→l[j]?=some y→cmp y p<0→cmp x p<0:=by
 intro i j x y hij hx hy hc;rcases xe i j with g|g
 ·exact xI (h i j x y g hx hy) hc
 ·obtain rfl:i=j:=by omega
  rw[hx] at hy;obtain rfl:=aN hy;exact hc
theorem Ord.take{l:List Nd}(h:Ord l)(k:Nat):Ord (l.take k):=fun i j x y hij hx hy=>by
 rw[gN] at hx hy;split at hx
 ·split at hy
  ·exact h i j x y hij hx hy
  ·cases hy
 ·cases hx
structure Plc (l:List Nd) (p:List UInt8) (k:Nat) (b:Bool):Prop where
 le:k≤l.length
 lo:∀(j:Nat) (y:Nd),j<k→l[j]?=some y→cmp y p<0
 hi:∀(j:Nat) (y:Nd),k≤j→l[j]?=some y→¬cmp y p<0
 is:b=true→∃x,l[k]?=some x∧x.1=p
 no:b=false→∀x∈l,x.1≠p
theorem aeN{n:Nd}{p:List UInt8}(h:cmp n p=0):n.1=p:=by
 have:=aaZ h;rw[←gJ n.1,this,gJ]
theorem aeO{n:Nd}{p:List UInt8}(h:n.1=p):cmp n p=0:=by subst h;exact rI _
theorem Dt(l:List Nd)(p:List UInt8)(hl:Rp l):(∃(i:Nat) (x:Nd),l[i]?=some x∧x.1=p∧iE (l,(p,()))=some ((i:Int),()))∨((∀x∈l,x.1≠p)∧iE (l,(p,()))=some (-1,())):=by
 unfold iE;rcases p8 (f:=qK (l,(p,()))) l (fun i=>((0,(i,())),())) (fun _ x=>decide (x.1=p)) (fun i x=>(1,(((i:Int),((i:Int),())),()))) ((0:Nat),((0,((l.length:Int),())),())) (by have:=hl.1;omega) (fun i x hx hi ha=>by
  unfold qK;dsimp only;rw[au hi,ag,aB hx,aa,SU,ha];by_cases h:x.1=p<;>simp[h,aj]) (by unfold qK;dsimp only;rw[aE,af]) with ⟨i,x,hx,hp,_,h⟩|⟨hn,h⟩
 ·left;refine⟨i,x,hx,ic hp,?_⟩;rw[h];rfl
 ·right;refine⟨fun x hx e=>?_,by rw[h];rfl⟩;obtain⟨i,hi⟩:=bJ.1 hx;have:=hn i x hi;simp[e] at this
theorem N6(l:List Nd)(d:List UInt8)(hl:Rp l):∃b,oL (l,(d,()))=some (b,())∧(b=true→d=[]∨∃x∈l,x.1=d∧x.2.1=2)∧(Ord l→b=false→d≠[]∧∀x∈l,x.1=d→x.2.1≠2):=by
 unfold oL;dsimp only;by_cases h0:d=[]
 ·subst h0;rcases Dt l [] hl with ⟨i,x,hx,hxp,h⟩|⟨_,h⟩<;>rw[h,aa]<;>exact⟨true,rfl,fun _=>.inl rfl,fun _ h=>by cases h⟩
 ·rcases Dt l d hl with ⟨i,x,hx,hxp,h⟩|⟨hn,h⟩
  ·rw[h,aa,cJ h0,aF,ag];dsimp only;rw[cE (by omega),ag,aB hx,aa,aa,aa];refine⟨_,rfl,fun hb=>.inr ⟨x,gm hx,hxp,ic hb⟩,fun ho hb=>⟨h0,fun y hy hyd hk=>?_⟩⟩;have hne:=TP hb;obtain⟨j,hj⟩:=bJ.1 hy;have hkk:key x=key y:=by unfold key;rw[hxp,hyd]
   rcases TZ i j with g|g|g
   ·have:=ho i j x y g hx hj;rw[hkk,rI] at this;omega
   ·subst g;rw[hx] at hj;obtain rfl:=aN hj;exact hne hk
   ·have:=ho j i y x g hj hx;rw[hkk,rI] at this;omega
  ·rw[h,aa,cJ h0,aF,ag];exact⟨false,rfl,fun h=>(by cases h),fun _ _=>⟨h0,fun x hx e=>absurd e (hn x hx)⟩⟩
end Go.Ge
namespace Go.Ge
variable [Lp]
structure Valid (l:List Nd):Prop where
 Ep:l.length≤64
 ord:Ord l
 may:∀x∈l,lG x=true
 up:∀x∈l,(bM x.1).1=[]∨∃y∈l,y.1=(bM x.1).1∧y.2.1=2
theorem BE{p:List UInt8}(h:(bM p).1≠[]):parts p=parts (bM p).1++[(bM p).2]:=by
 rcases vu p with ⟨_,e⟩|⟨a,b,e1,e2,e⟩
 ·rw[e] at h;exact absurd rfl h
 ·rw[e] at h⊢;have hp:p≠[]:=by rw[e1];simp
  unfold parts;rw[br hp,br h,e1];exact Dk a b e2
theorem Ord.uniq{l:List Nd}(h:Ord l){x y:Nd}(hx:x∈l)(hy:y∈l)(e:x.1=y.1):x=y:=by
 obtain⟨i,hi⟩:=bJ.1 hx;obtain⟨j,hj⟩:=bJ.1 hy;have hk:key x=key y:=by unfold key;rw[e]
 rcases TZ i j with g|g|g
 ·have:=h i j x y g hi hj;rw[hk,rI] at this;omega
 ·subst g;rw[hi] at hj;exact aN hj
 ·have:=h j i y x g hj hi;rw[hk,rI] at this;omega
theorem N7{l:List Nd}(h:∀(k:Nat) (x y:Nd),l[k]?=some x→l[k+1]?=some y→cmpL (key x) (key y)<0):Ord l:=by
 have run:∀(d i:Nat) (x y:Nd),l[i]?=some x→l[i+1+d]?=some y→cmpL (key x) (key y)<0:=by
  intro d;induction d with
  | zero=>intro i x y hx hy;exact h i x y hx hy
  | succ d ih =>
    intro i x y hx hy;have hl:=aI hy;obtain⟨z,hz⟩:∃z,l[i+1+d]?=some z:=⟨_,kL (by omega)⟩;exact xI (ih i x z hx hz) (h (i+1+d) z y hz hy)
 intro i j x y hij hx hy;exact run (j-i-1) i x y hx (by rw[show i+1+(j-i-1)=j by omega];exact hy)
def Rq(l:List Nd)(i:Nat)(x:Nd):Bool:=match i with
 | 0=>false
 | k+1=>match l[k]? with
   | some y=>decide (0≤cmpL (key y) (key x))
   | none=>false
theorem Gp{l:List Nd}{k:Nat}{x y:Nd}(hy:l[k]?=some y):Rq l (k+1) x=decide (0≤cmpL (key y) (key x)):=by
 show(match l[k]? with|some y=>decide (0≤cmpL (key y) (key x))|none=>false)=_
 rw[hy]
def Ks(l:List Nd)(d:List UInt8):Bool:=match oL (l,(d,())) with
 | some y=>y.1
 | none=>false
theorem JH(l:List Nd)(d:List UInt8)(hl:Rp l):oL (l,(d,()))=some (Ks l d,())∧(Ks l d=true→d=[]∨∃x∈l,x.1=d∧x.2.1=2)∧(Ord l→Ks l d=false→d≠[]∧∀x∈l,x.1=d→x.2.1≠2):=by
 obtain⟨e,h1,h2,h3⟩:=N6 l d hl;have:Ks l d=e:=by unfold Ks;rw[h1]
 rw[this];exact⟨h1,h2,h3⟩
theorem abD{l:List Nd}(h:∀(i:Nat) (x:Nd),l[i]?=some x→Rq l i x=false):Ord l:=N7 fun k x y hx hy=>by
 have:=h (k+1) y hy;rw[Gp hx] at this;have:=TP this;omega
theorem abE{l:List Nd}(h:Ord l){i:Nat}{x:Nd}(hx:l[i]?=some x):Rq l i x=false:=by
 cases i with
 | zero=>rfl
 | succ k =>
   have hl:=aI hx;obtain⟨y,hy⟩:∃y,l[k]?=some y:=⟨_,kL (by omega)⟩;rw[Gp hy];have:=h k (k+1) y x (by omega) hy hx;exact dJ (by omega)
theorem uc(l:List Nd)(hl:Rp l):∃b,l8 (l,())=some (b,())∧(b=true↔Valid l):=by
 unfold l8;dsimp only;have CC:bB 64 (len l)=decide (64<l.length):=by unfold bB len;apply decide_eq_decide.2;omega
 rw[CC];by_cases h0:64<l.length
 ·rw[fo h0,ag];exact⟨false,rfl,fun h=>(by cases h),fun h=>by have:=h.Ep;omega⟩
 ·rw[dJ h0,af];rcases p8 (f:=uL (l,())) l (fun i=>((false,(i,())),())) (fun i x=>!lG x||!Ks l (bM x.1).1||Rq l i x) (fun i x=>(1,((false,((i:Int),())),()))) ((0:Nat),((false,((l.length:Int),())),())) (by have:=hl.1;omega) (fun i x hx hi ha=>by
   unfold uL;dsimp only;rw[au hi,ag,aB hx,aa,wH _ (by have:=(hl.at hx).1;omega),aa,aa,za _ (by have:=(hl.at hx).1;omega) (by have:=(hl.at hx).2.1;omega),aa];dsimp only;cases hm:lG x with
   | false=>rfl
   | true =>
     rw[aJ,af,(JH l (bM x.1).1 hl).1,aa];dsimp only;cases hr:Ks l (bM x.1).1 with
     | false=>rfl
     | true =>
       rw[aJ,af,ha];cases i with
       | zero=>rw[aH (by simp),af];simp[Rq]
       | succ k =>
         obtain⟨y,hy⟩:∃y,l[k]?=some y:=⟨_,kL (by omega)⟩;rw[aT (by omega),ag,eT (by omega) (by omega),show(((k+1:Nat):Int)-1)=(k:Int) by omega,aB hy,aa,aa,Dl _ _ (by have:=(hl.at hy).1;omega) (by have:=(hl.at hx).1;omega),aa];dsimp only;rw[Th];rw[Gp hy];unfold key;by_cases hc:0≤cmpL (parts y.1) (parts x.1)
         ·rw[fo hc,ag];simp
         ·rw[dJ hc,af];simp) (by unfold uL;dsimp only;rw[aE,af]) with ⟨i,x,hx,hp,_,h⟩|⟨hn,h⟩
  ·rw[h,aa,kN,af];refine⟨false,rfl,fun h=>(by cases h),fun hv=>?_⟩;rw[hv.may x (gm hx),abE hv.ord hx] at hp;simp only[ac0,JX,Zf,nq] at hp;obtain⟨g1,g2⟩:=(JH l (bM x.1).1 hl).2.2 hv.ord hp;rcases hv.up x (gm hx) with hu|⟨y,hy,hy1,hy2⟩
   ·exact absurd hu g1
   ·exact absurd hy2 (g2 y hy hy1)
  ·rw[h,aa,cv,ag];have hn':∀(i:Nat) (x:Nd),l[i]?=some x→lG x=true∧Ks l (bM x.1).1=true∧Rq l i x=false:=fun i x hx=>by
    have:=hn i x hx;simp only[Al,WK] at this;exact⟨this.1.1,this.1.2,this.2⟩
   refine⟨true,rfl,fun _=>⟨by omega,abD fun i x hx=>(hn' i x hx).2.2,fun x hx=>?_,fun x hx=>?_⟩,fun _=>rfl⟩
   ·obtain⟨i,hi⟩:=bJ.1 hx;exact(hn' i x hi).1
   ·obtain⟨i,hi⟩:=bJ.1 hx;exact(JH l (bM x.1).1 hl).2.1 (hn' i x hi).2.1
end Go.Ge
namespace Go.Ge
variable [Lp]
theorem takeWhile_eq{α:Type}{P:α→Bool}:∀{l:List α} {k:Nat},k≤l.length→(∀(j:Nat) (y:α),j<k→l[j]?=some y→P y=true)→(∀y,l[k]?=some y→P y=false)→l.takeWhile P=l.take k∧l.dropWhile P=l.drop k:=by
 intro l;induction l with
 | nil=>intro k hk _ _;simp
 | cons a r ih =>
   intro k hk h1 h2;cases k with
   | zero =>
     have:=h2 a rfl;simp[WI,Mk,this]
   | succ k =>
     have ha:=h1 0 a (by omega) rfl;obtain⟨g1,g2⟩:=ih (k:=k) (by simpa using hk) (fun j y hj hy=>h1 (j+1) y (by omega) hy) (fun y hy=>h2 y hy);simp[WI,Mk,ha,g1,g2]
theorem filter_one{α:Type}{l:List α}{P:α→Bool}{k:Nat}{x:α}(hx:l[k]?=some x)(hP:P x=false)(h:∀(j:Nat) (y:α),j≠k→l[j]?=some y→P y=true):l.filter P=l.take k++l.drop (k+1):=by
 have hk:=aI hx;have e:l=l.take k++x::l.drop (k+1):=by
  conv=>lhs;rw[←CE k l,CD hk]
  rw[(List.getElem?_eq_some_iff.1 hx).2]
 conv=>lhs;rw[e]
 rw[Y5,acX,hP];have h1:(l.take k).filter P=l.take k:=List.filter_eq_self.2 fun y hy=>by
  obtain⟨j,hj⟩:=bJ.1 hy;rw[gN] at hj;split at hj
  ·exact h j y (by omega) hj
  ·cases hj
 have h2:(l.drop (k+1)).filter P=l.drop (k+1):=List.filter_eq_self.2 fun y hy=>by
  obtain⟨j,hj⟩:=bJ.1 hy;rw[nW] at hj;exact h (k+1+j) y (by omega) hj
 rw[h1,h2];simp
def yy(l:List Nd)(n:Nd):List Nd:=l.takeWhile (fun x=>decide (cmp x n.1<0))++n::l.dropWhile (fun x=>decide (cmp x n.1<0))
def gone(p:List UInt8)(x:Nd):Bool:=decide (x.1=p)||cO (parts x.1) (parts p)
def xU(l:List Nd)(p:List UInt8):List Nd:=l.filter fun x=>!gone p x
theorem Ord.filter{l:List Nd}(h:Ord l)(P:Nd→Bool):Ord (l.filter P):=by
 have hp:l.Pairwise fun x y=>cmpL (key x) (key y)<0:=by
  rw[aaj];intro i j hi hj hij;exact h i j _ _ hij (kL hi) (kL hj)
 have hq:=hp.filter P;rw[aaj] at hq;intro i j x y hij hx hy;obtain⟨h1,h2⟩:=List.getElem?_eq_some_iff.1 hx;obtain⟨h3,h4⟩:=List.getElem?_eq_some_iff.1 hy;rw[←h2,←h4];exact hq i j h1 h3 hij
theorem Rp.filter{l:List Nd}(h:Rp l)(P:Nd→Bool):Rp (l.filter P):=⟨gY (aak _ _) h.1,fun x hx=>h.2 x (List.mem_filter.1 hx).1⟩
theorem N8{l:List Nd}(hv:Valid l){p:List UInt8}(hp:p≠[])(hn:∀x∈l,x.1≠p):∀(m:Nat) (x:Nd),x∈l→(parts x.1).length≤m→cO (parts x.1) (parts p)=false:=by
 intro m;induction m with
 | zero =>
   intro x hx hm;unfold cO;exact dJ (by omega)
 | succ m ih =>
   intro x hx hm;cases hu:cO (parts x.1) (parts p) with
   | false=>rfl
   | true =>
     exfalso;unfold cO at hu;obtain⟨h1,h2⟩:=ic hu;have hmay:=hv.may x hx;unfold lG Ds at hmay;simp only[dW,nY] at hmay;by_cases h0:(bM x.1).1=[]
     ·have hall:=hmay.1.1.1.1.1.1.1.2;have hone:(parts x.1).length≤1:=by
       rcases vu x.1 with ⟨a,_⟩|⟨a,b,e1,e2,e⟩
       ·unfold parts;split
        ·simp
        ·rw[pI _ a];simp
       ·rw[e] at h0;have h0:a=[]:=h0;subst h0;have:Cz []=true:=List.all_eq_true.1 hall [] (by
         unfold parts;rw[e1,br (by simp)];show []∈cK ([]++47::b)
         rw[Gi [] (by simp)];simp)
        exact absurd this (by decide)
      have:parts p=[]:=List.length_eq_zero_iff.1 (by omega);have:=gJ p;rw[‹parts p=[]›] at this;exact hp this.symm
     ·have hk:=BE h0;rcases hv.up x hx with e|⟨y,hy,hy1,hy2⟩
      ·exact absurd e h0
      ·rw[←hy1] at hk;rw[hk] at h1 h2;have hle:(parts p).length≤(parts y.1).length:=by simp at h1;omega
       rw[aai hle] at h2;rcases xe (parts p).length (parts y.1).length with g|g
       ·have:=ih y hy (by rw[hk] at hm;simp at hm;omega);unfold cO at this;exact absurd ⟨g,h2⟩ (TP this)
       ·have he:parts p=parts y.1:=by rw[←h2,GG (by omega)]
        refine hn y hy ?_;rw[←gJ y.1,←he,gJ]
theorem Yv{l:List Nd}(hv:Valid l){p:List UInt8}(hp:p≠[])(hn:∀x∈l,x.1≠p):xU l p=l:=List.filter_eq_self.2 fun x hx=>by
 unfold gone;rw[N8 hv hp hn _ x hx (cU _),dJ (hn x hx)];rfl
end Go.Ge
namespace Go.Ge
variable [Lp]
open Classical in
def cw(l:List Nd)(n:Nd):List Nd×Int :=
 if ¬Valid l∨lG n=false then([],1) else
 if(bM n.1).1≠[]∧∀x∈l,x.1≠(bM n.1).1 then([],3) else
 if(bM n.1).1≠[]∧∀x∈l,x.1=(bM n.1).1→x.2.1≠2 then([],12) else
 let r:=if(∃x∈l,x.1=n.1∧x.2.1=2)∧n.2.1=2 then l.filter (fun x=>!decide (x.1=n.1)) else xU l n.1
 if 64≤r.length then([],5) else(yy r n,0)
theorem ZT{n:Nd}(h:lG n=true):n.1≠[]:=by
 unfold lG Ds at h;simp only[dW,nY] at h;exact h.1.1.1.1.1.1.1.1
theorem aeP{l:List Nd}(ho:Ord l){n x:Nd}{k:Nat}(hx:l[k]?=some x)(e:x.1=n.1):l.filter (fun x=>!decide (x.1=n.1))=l.take k++l.drop (k+1)∧yy (l.take k++l.drop (k+1)) n=l.take k++[n]++l.drop (k+1):=by
 have hk:=aI hx;have hkx:key x=parts n.1:=by unfold key;rw[e]
 have hlo:∀(j:Nat) (y:Nd),j<k→l[j]?=some y→cmp y n.1<0:=fun j y hj hy=>by
  have:=ho j k y x hj hy hx;rw[hkx] at this;exact this
 have hhi:∀(j:Nat) (y:Nd),k<j→l[j]?=some y→¬cmp y n.1<0:=fun j y hj hy hc=>by
  have:=ho k j x y hj hx hy;rw[hkx] at this;have:=xI this hc;rw[rI] at this;omega
 have htl:(l.take k).length=k:=by rw[cW];omega
 constructor
 ·refine filter_one hx (by rw[fo e];rfl) fun j y hj hy=>?_;rw[dJ];rfl;intro e2;have h0:=aeO e2;rcases xe j k with g|g
  ·have:=hlo j y g hy;omega
  ·have hne:key x=key y:=by rw[hkx];unfold key;rw[e2]
   have:=ho k j x y (by omega) hx hy;rw[hne,rI] at this;omega
 ·obtain⟨h1,h2⟩:=takeWhile_eq (l:=l.take k++l.drop (k+1)) (k:=k) (P:=fun x=>decide (cmp x n.1<0)) (by rw[iO,htl];omega) (fun j y hj hy=>by
   rw[TM (by omega),gN,bu hj] at hy;exact fo (hlo j y hj hy)) (fun y hy=>by
   rw[acq (by omega),htl,Nat.sub_self,nW] at hy;exact dJ (hhi _ y (by omega) hy))
  unfold yy;rw[h1,h2,Za htl,Y9 htl];simp
end Go.Ge
namespace Go.Ge
variable [Lp]
def lH(l:List Nd)(p:List UInt8)(b:Bool):List Nd:=l.filter fun x=>!cO (parts x.1) (parts p)&&(!b||!decide (x.1=p))
theorem Du(l:List Nd)(p:List UInt8)(b:Bool)(hl:Rp l)(hp:p.length≤4096):jI (l,(p,(b,())))=some (lH l p b,()):=by
 unfold jI;have hb:=hl.1;have hfm:∀m:List Nd,m.flatMap (fun x=>if(!cO (parts x.1) (parts p)&&(!b||!decide (x.1=p)))=true then [x] else [])=lH m p b:=by
  intro m;unfold lH;induction m with
  | nil=>rfl
  | cons a r ih =>
    rw[O3,ih,acX];split<;>simp
 have h:=C7 (f:=jh (l,(p,(b,())))) l (fun a i=>(((),(i,())),(a,()))) (fun x=>if(!cO (parts x.1) (parts p)&&(!b||!decide (x.1=p)))=true then [x] else []) (((),((l.length:Int),())),(lH l p b,())) (by omega) (fun i x hx hi ha=>by
  unfold jh;dsimp only;have hlen:((l.take i).flatMap fun x=>if(!cO (parts x.1) (parts p)&&(!b||!decide (x.1=p)))=true then [x] else []).length≤4096:=by
   rw[hfm];unfold lH;refine gY (aak _ _) ?_;rw[cW];omega
  rw[au hi,ag,aB hx,aa,Tb _ _ (by have:=(hl.at hx).1;omega) hp,aa,aa,aa,ha,cG (by simp only[WG];omega)];dsimp only;rw[SU];cases cO (parts x.1) (parts p)<;>cases b<;>cases decide (x.1=p)<;>simp[aj,nt,ah,eP,app]) (by
  unfold jh;dsimp only;rw[aE,af,hfm];rfl)
 have h':Loop (jh (l,(p,(b,())))) (((),((0:Int),())),(([]:List Nd),()))=some (((),((l.length:Int),())),(lH l p b,())):=h;rw[h',aa]
theorem P5(l:List Nd)(p:List UInt8):lH l p true=xU l p:=by
 unfold lH xU
 congr 1
 funext x;unfold gone;cases cO (parts x.1) (parts p)<;>cases decide (x.1=p)<;>rfl
theorem VU(l r:List Nd)(n:Nd)(hr:Rp r)(hn:n.1.length≤200):∃k:Nat,k≤r.length∧Loop (lD (l,(n,())) ((r,()),())) (((0:Int),()),())=some (((k:Int),()),())∧yy r n=r.take k++[n]++r.drop k:=by
 have hb:=hr.1;rcases p8 (f:=lD (l,(n,())) ((r,()),())) r (fun i=>((i,()),())) (fun _ x=>!decide (cmp x n.1<0)) (fun i _=>(((i:Int),()),())) (((r.length:Int),()),()) (by omega) (fun i x hx hi ha=>by
  unfold lD;dsimp only;rw[au hi,ag,aB hx,aa,Dl _ _ (by have:=(hr.at hx).1;omega) (by omega),aa,ha];dsimp only;unfold cmp bB;cases decide (cmpL (parts x.1) (parts n.1)<0)<;>rfl) (by
  unfold lD;dsimp only;rw[aE,af];rfl) with ⟨i,x,hx,hp,hj,h⟩|⟨hn,h⟩
 ·refine⟨i,by have:=aI hx;omega,h,?_⟩;obtain⟨h1,h2⟩:=takeWhile_eq (l:=r) (k:=i) (P:=fun x=>decide (cmp x n.1<0)) (by have:=aI hx;omega) (fun j y hji hy=>by
   have:=hj j y hji hy;simpa using this) (fun y hy=>by
   rw[hx] at hy;obtain rfl:=aN hy;simpa using hp)
  unfold yy;rw[h1,h2];simp
 ·refine⟨r.length,cU _,h,?_⟩;obtain⟨h1,h2⟩:=takeWhile_eq (l:=r) (k:=r.length) (P:=fun x=>decide (cmp x n.1<0)) (cU _) (fun j y hji hy=>by
   have:=hn j y hy;simpa using this) (fun y hy=>by
   have:=aI hy;omega)
  unfold yy;rw[h1,h2];simp
theorem Dv(l r:List Nd)(n:Nd)(hr:Rp r)(hn:n.1.length≤200) :
  aj (cX 64 (len r)) (some (([]:List Nd),((5:Int),()))) (ah (Loop (lD (l,(n,())) ((r,()),())) (((0:Int),()),())) fun(y9:(Int×Unit)×Unit)=>aj (inside 0 y9.1.1 (len r))
   (aj (fits (plus (len ([]:List Nd)) (len (sub r 0 (minus y9.1.1 0)))))
   (aj (fits (plus (len (app ([]:List Nd) (sub r 0 (minus y9.1.1 0)))) (len [n])))
   (aj (inside y9.1.1 (len r) (len r))
   (aj (fits (plus (len (app (app ([]:List Nd) (sub r 0 (minus y9.1.1 0))) [n])) (len (sub r y9.1.1 (minus (len r) y9.1.1)))))
   (some (app (app (app ([]:List Nd) (sub r 0 (minus y9.1.1 0))) [n]) (sub r y9.1.1 (minus (len r) y9.1.1)),((0:Int),())))
   none) none) none) none) none)=some (if 64≤r.length then([],(5,())) else(yy r n,(0,()))):=by
 have hb:=hr.1;rw[Th];by_cases h:64≤r.length
 ·rw[fo (by unfold len;omega),ag,bu h]
 ·rw[dJ (by unfold len;omega),af,br h];obtain⟨k,k1,k2,k3⟩:=VU l r n hr hn;rw[k2,aa];dsimp only;have i1:inside 0 (k:Int) (len r)=true:=tW (a:=0) (rT _) k1;have i2:inside (k:Int) (len r) (len r)=true:=bq (by omega) (by unfold len;omega) (EH _);rw[i1,ag,kY,sw r k k1,i2];have f1:fits (plus (len ([]:List Nd)) (len (r.take k)))=true:=cG (by rw[cW];simp;omega);have f2:fits (plus (len (app ([]:List Nd) (r.take k))) (len [n]))=true:=cG (by rw[F9,zu,cW];simp;omega);have f3:fits (plus (len (app (app ([]:List Nd) (r.take k)) [n])) (len (r.drop k)))=true:=cG (by rw[F9,F9,zu,iO,cW,qV];simp;omega);rw[f1,f2,f3,ag,ag,ag,ag,k3];rfl
theorem Dw(l:List Nd)(n:Nd)(hl:Rp l)(hn:Sm n):oM (l,(n,()))=some ((cw l n).1,((cw l n).2,())):=by
 obtain⟨e,c1,c2⟩:=uc l hl;have Lr:=hn.1;have hb:=hl.1;unfold oM;dsimp only;rw[c1,aa,za n (by omega) (by have:=hn.2.1;omega),aa];dsimp only;by_cases hvm:¬Valid l∨lG n=false
 ·have hp:cw l n=([],1):=by unfold cw;rw[bu hvm]
  rw[hp];have:aj (nt (nt e)) (some (nt (lG n))) (some true)=some true:=by
   rcases hvm with h|h
   ·rw[show e=false by
     cases e with
     | false=>rfl
     | true=>exact absurd (c2.1 rfl) h]
    rfl
   ·rw[h];cases nt (nt e)<;>rfl
  rw[this,aa,ag]
 ·have hv:Valid l:=by
   by_cases h:Valid l
   ·exact h
   ·exact absurd (.inl h) hvm
  have hm:lG n=true:=by
   cases h:lG n with
   | true=>rfl
   | false=>exact absurd (.inr h) hvm
  obtain rfl:=c2.2 hv;rw[hm];have:aj (nt (nt true)) (some (nt true)) (some true)=some false:=rfl;rw[this,aa,af,wH _ (by omega),aa];dsimp only;obtain⟨y4,e4,s4⟩:∃y4,aj (nt (cc (bM n.1).1 [])) (ah (iE (l,((bM n.1).1,()))) (fun(y:Int×Unit)=>some (bB y.1 0))) (some false)=some y4∧(y4=true↔((bM n.1).1≠[]∧∀x∈l,x.1≠(bM n.1).1)):=by
   by_cases h0:(bM n.1).1=[]
   ·refine⟨false,by rw[h0];rfl,fun h=>(by cases h),fun h=>absurd h0 h.1⟩
   ·rw[cJ h0,aF,ag];rcases Dt l (bM n.1).1 hl with ⟨i,x,hx,hxp,h⟩|⟨hno,h⟩
    ·refine⟨false,by rw[h,aa,aH (by omega)],fun h=>(by cases h),fun h=>absurd hxp (h.2 x (gm hx))⟩
    ·exact⟨true,by rw[h,aa];rfl,fun _=>⟨h0,hno⟩,fun _=>rfl⟩
  rw[e4,aa];by_cases g1:(bM n.1).1≠[]∧∀x∈l,x.1≠(bM n.1).1
  ·have hp:cw l n=([],3):=by unfold cw;rw[br hvm,bu g1]
   rw[s4.2 g1,hp];rfl
  ·have:y4=false:=by
    cases y4 with
    | false=>rfl
    | true=>exact absurd (s4.1 rfl) g1
   rw[this,af];obtain⟨d,d1,d2,d3⟩:=N6 l (bM n.1).1 hl;rw[d1,aa];dsimp only;by_cases g2:(bM n.1).1≠[]∧∀x∈l,x.1=(bM n.1).1→x.2.1≠2
   ·have hp:cw l n=([],12):=by unfold cw;rw[br hvm,br g1,bu g2]
    have:d=false:=by
     cases d with
     | false=>rfl
     | true =>
       rcases d2 rfl with h|⟨x,hx,hx1,hx2⟩
       ·exact absurd h g2.1
       ·exact absurd hx2 (g2.2 x hx hx1)
    rw[this,hp];rfl
   ·have:d=true:=by
     cases d with
     | true=>rfl
     | false=>exact absurd (d3 hv.ord rfl) g2
    rw[this,show nt true=false by rfl,af];have hp:cw l n=(let r:=if(∃x∈l,x.1=n.1∧x.2.1=2)∧n.2.1=2 then l.filter (fun x=>!decide (x.1=n.1)) else xU l n.1
      if 64≤r.length then([],5) else(yy r n,0)):=by
     unfold cw;rw[br hvm,br g1,br g2]
    rcases Dt l n.1 hl with ⟨i,x,hx,hxp,h⟩|⟨hno,h⟩
    ·have hi:=aI hx;have hmem:=gm hx;rw[h,aa];dsimp only;rw[cE (by omega),ag,aB hx,aa,aa];by_cases hbo:x.2.1=2∧n.2.1=2
     ·obtain⟨s1,s2⟩:=aeP hv.ord hx hxp;rw[bu (show((∃x∈l,x.1=n.1∧x.2.1=2)∧n.2.1=2) from⟨⟨x,hmem,hxp,hbo.1⟩,hbo.2⟩),s1] at hp;have i1:inside 0 (i:Int) (len l)=true:=tW (a:=0) (rT _) (by omega);have i2:inside ((i+1:Nat):Int) (len l) (len l)=true:=bq (by omega) (by unfold len;omega) (EH _);rw[aP hbo.1,aP hbo.2,ag,ag,i1,ag,kY,aY (by omega),i2,sw l (i+1) (by omega)];have f1:fits (plus (len ([]:List Nd)) (len (l.take i)))=true:=cG (by rw[cW];simp;omega);have f2:fits (plus (len (app ([]:List Nd) (l.take i))) (len (l.drop (i+1))))=true:=cG (by rw[F9,zu,cW,qV];omega);rw[f1,f2,ag,ag,ag,aa];dsimp only;have hr:Rp (l.take i++l.drop (i+1)):=by rw[←s1];exact hl.filter _
      refine yB (Dv l (l.take i++l.drop (i+1)) n hr Lr) ?_;rw[hp];by_cases CC:64≤(l.take i++l.drop (i+1)).length
      ·rw[bu CC];simp only[CC,nZ]
      ·rw[br CC];simp only[CC,EI]
     ·have hs:aj (bI x.2.1 2) (bI n.2.1 2) false=false:=by
       unfold bI;by_cases h1:x.2.1=2
       ·rw[fo h1,ag];exact dJ fun h2=>hbo ⟨h1,h2⟩
       ·rw[dJ h1,af]
      rw[br (show ¬((∃x∈l,x.1=n.1∧x.2.1=2)∧n.2.1=2) from fun h=>by
       obtain⟨⟨y,hy,e2,hy2⟩,h2⟩:=h;have:=hv.ord.uniq hmem hy (by rw[hxp,e2]);subst this;exact hbo ⟨hy2,h2⟩)] at hp
      rw[hs,af,Du l n.1 true hl (by omega),P5];simp only[aa,ag];refine yB (Dv l (xU l n.1) n (hl.filter _) Lr) ?_;rw[hp];by_cases CC:64≤(xU l n.1).length
      ·rw[bu CC];simp only[CC,nZ]
      ·rw[br CC];simp only[CC,EI]
    ·have hne:¬((∃x∈l,x.1=n.1∧x.2.1=2)∧n.2.1=2):=fun⟨⟨y,hy,e2,_⟩,_⟩=>hno y hy e2;rw[br hne,Yv hv (ZT hm) hno] at hp;rw[h,aa];dsimp only;rw[show cX 0 (-1)=false by rfl];simp only[aa,af];refine yB (Dv l l n hl Lr) ?_;rw[hp];by_cases CC:64≤l.length
     ·rw[bu CC];simp only[CC,nZ]
     ·rw[br CC];simp only[CC,EI]
end Go.Ge
namespace Go.Ge
variable [Lp]
end Go.Ge
namespace Go.Ge
variable [Lp]
def aeQ:Nd:=([],(0,(0,([],([],())))))
def findF(l:List Nd)(p:List UInt8):Nd×Bool×Unit:=match l.find? fun x=>decide (x.1=p) with
 | some x=>(x,(true,()))
 | none=>(aeQ,(false,()))
theorem Yw{l:List Nd}{p:List UInt8}(h:∀x∈l,x.1≠p):findF l p=(aeQ,(false,())):=by
 unfold findF;rw[List.find?_eq_none.2 (fun x hx=>by simp[h x hx])]
theorem N9{l:List Nd}(ho:Ord l){p:List UInt8}{x:Nd}(hx:x∈l)(e:x.1=p):findF l p=(x,(true,())):=by
 unfold findF;cases h:l.find? fun x=>decide (x.1=p) with
 | none=>have:=List.find?_eq_none.1 h x hx;simp[e] at this
 | some y =>
   have h1:=Mq h;have h2:=WE h;have h1:y.1=p:=by simpa using h1
   have:=ho.uniq hx h2 (by rw[e,h1]);subst this;rfl
def agR:List Nd→Bool
 | a::b::r=>decide (cmpL (key a) (key b)<0)&&agR (b::r)
 | _=>true
theorem aeR:∀{l:List Nd},agR l=true→Ord l:=by
 intro l h;refine N7 ?_;induction l with
 | nil=>intro k x y hx;simp at hx
 | cons a r ih =>
   cases r with
   | nil=>intro k x y hx hy;simp at hy
   | cons b r =>
     simp only[agR,dW,nY] at h;intro k x y hx hy;cases k with
     | zero =>
       obtain rfl:a=x:=by simpa using hx
       obtain rfl:b=y:=by simpa using hy
       exact h.1
     | succ k=>exact ih h.2 k x y hx hy
def Oa(l:List Nd):Bool:=decide (l.length≤64)&&agR l&&l.all lG&&l.all fun x=>decide ((bM x.1).1=[])||l.any fun y=>decide (y.1=(bM x.1).1)&&decide (y.2.1=2)
theorem HX{l:List Nd}(h:Oa l=true):Valid l:=by
 unfold Oa at h;simp only[dW,nY] at h;refine⟨h.1.1.1,aeR h.1.1.2,fun x hx=>List.all_eq_true.1 h.1.2 x hx,fun x hx=>?_⟩;have:=List.all_eq_true.1 h.2 x hx;simp only[zv,nY,Y8,dW] at this;exact this
def nD:Nd:=([100],(2,(493,([],([],())))))
def nA:Nd:=([100,47,97],(1,(420,([120],([],())))))
theorem aeS:Oa []=true∧Oa [nD]=true∧Oa [nD,nA]=true:=by decide +kernel
end Go.Ge
namespace Go.Ge
variable [Lp]
set_option synthInstance.maxHeartbeats 200000 in
set_option synthInstance.maxSize 4000 in
instance anK:DecidableEq Nd:=inferInstance
end Go.Ge
namespace Go.Ge
variable [Lp]
theorem Rr(a:Nd)(r:List Nd)(n:Nd):yy (a::r) n=if cmp a n.1<0 then a::yy r n else n::a::r:=by
 unfold yy;by_cases h:cmp a n.1<0
 ·rw[bu h,WI,Mk];simp[h]
 ·rw[br h,WI,Mk];simp[h]
theorem vA{r:List Nd}{n x:Nd}:x∈yy r n↔x=n∨x∈r:=by
 induction r with
 | nil=>simp[yy]
 | cons a r ih =>
   rw[Rr];split
   ·rw[IQ,ih,IQ];constructor
    ·rintro(h|h|h)
     ·exact .inr (.inl h)
     ·exact .inl h
     ·exact .inr (.inr h)
    ·rintro(h|h|h)
     ·exact .inr (.inl h)
     ·exact .inl h
     ·exact .inr (.inr h)
   ·rw[IQ]
theorem aeT(r:List Nd)(n:Nd):(yy r n).length=r.length+1:=by
 unfold yy;rw[iO,ep,←A9,←iO,KT]
theorem JI{l:List Nd}:Ord l↔l.Pairwise fun x y=>cmpL (key x) (key y)<0:=by
 constructor
 ·intro h;rw[aaj];intro i j hi hj hij;exact h i j _ _ hij (kL hi) (kL hj)
 ·intro h i j x y hij hx hy;rw[aaj] at h;obtain⟨h1,h2⟩:=List.getElem?_eq_some_iff.1 hx;obtain⟨h3,h4⟩:=List.getElem?_eq_some_iff.1 hy;rw[←h2,←h4];exact h i j h1 h3 hij
theorem aeU{r:List Nd}{n:Nd}(hr:Ord r)(hn:∀x∈r,x.1≠n.1):Ord (yy r n):=by
 rw[JI] at hr⊢;induction r with
 | nil=>simp[yy]
 | cons a r ih =>
   rw[TY] at hr;rw[Rr];split
   ·rename_i h;refine List.pairwise_cons.2 ⟨fun y hy=>?_,ih hr.2 fun x hx=>hn x (by simp[hx])⟩;rcases vA.1 hy with rfl|hy
    ·exact h
    ·exact hr.1 y hy
   ·rename_i h;have ha:cmpL (key n) (key a)<0:=by
     have h1:cmp a n.1≠0:=fun e=>hn a (by simp) (aeN e);have h2:cmpL (key n) (key a)=- cmpL (key a) (key n):=aee _ _;have h3:cmp a n.1=cmpL (key a) (key n):=rfl;omega
    refine List.pairwise_cons.2 ⟨fun y hy=>?_,List.pairwise_cons.2 hr⟩;rcases List.mem_cons.1 hy with rfl|hy
    ·exact ha
    ·exact xI ha (hr.1 y hy)
theorem Ob{x y:Nd}{p:List UInt8}(hu:(bM x.1).1≠[])(e:y.1=(bM x.1).1)(h:cO (parts y.1) (parts p)=true):cO (parts x.1) (parts p)=true:=by
 have hk:=BE hu;rw[←e] at hk;unfold cO at h⊢;obtain⟨h1,h2⟩:=ic h;refine fo ⟨?_,?_⟩
 ·rw[hk,iO];omega
 ·rw[hk,aai (by omega),h2]
theorem Gq{x:Nd}(hu:(bM x.1).1≠[]):cO (parts x.1) (parts (bM x.1).1)=true:=by
 have hk:=BE hu;unfold cO;refine fo ⟨?_,?_⟩
 ·rw[hk,iO];simp
 ·rw[hk];simp
def Md(l:List Nd)(n:Nd)(r:List Nd):Prop :=
 (((∃x∈l,x.1=n.1∧x.2.1=2)∧n.2.1=2)∧r=l.filter (fun x=>!decide (x.1=n.1)))∨((¬((∃x∈l,x.1=n.1∧x.2.1=2)∧n.2.1=2))∧r=xU l n.1)
theorem Oc(l:List Nd)(n:Nd):((cw l n).1=[]∧(cw l n).2≠0) ∨
  (Valid l∧lG n=true∧((bM n.1).1=[]∨∃x∈l,x.1=(bM n.1).1∧x.2.1=2)∧∃r,Md l n r∧r.length<64∧cw l n=(yy r n,0)):=by
 unfold cw;by_cases h1:¬Valid l∨lG n=false
 ·rw[bu h1];exact .inl ⟨rfl,by decide⟩
 ·rw[br h1];by_cases h2:(bM n.1).1≠[]∧∀x∈l,x.1≠(bM n.1).1
  ·rw[bu h2];exact .inl ⟨rfl,by decide⟩
  ·rw[br h2];by_cases h3:(bM n.1).1≠[]∧∀x∈l,x.1=(bM n.1).1→x.2.1≠2
   ·rw[bu h3];exact .inl ⟨rfl,by decide⟩
   ·rw[br h3];have hv:Valid l:=KU fun h=>h1 (.inl h);have hm:lG n=true:=by
     cases h:lG n with
     | true=>rfl
     | false=>exact absurd (.inr h) h1
    have hu:(bM n.1).1=[]∨∃x∈l,x.1=(bM n.1).1∧x.2.1=2:=by
     by_cases h0:(bM n.1).1=[]
     ·exact .inl h0
     ·right;refine KU fun h=>h3 ⟨h0,fun x hx e h2=>h ⟨x,hx,e,h2⟩⟩
    by_cases h4:(∃x∈l,x.1=n.1∧x.2.1=2)∧n.2.1=2
    ·simp only[bu h4];by_cases h5:64≤(l.filter fun x=>!decide (x.1=n.1)).length
     ·rw[bu h5];exact .inl ⟨rfl,by decide⟩
     ·rw[br h5];exact .inr ⟨hv,hm,hu,_,.inl ⟨h4,rfl⟩,by omega,rfl⟩
    ·simp only[br h4];by_cases h5:64≤(xU l n.1).length
     ·rw[bu h5];exact .inl ⟨rfl,by decide⟩
     ·rw[br h5];exact .inr ⟨hv,hm,hu,_,.inr ⟨h4,rfl⟩,by omega,rfl⟩
theorem Md.sub{l r:List Nd}{n:Nd}(h:Md l n r):(∀x∈r,x∈l∧x.1≠n.1)∧∃P,r=l.filter P:=by
 rcases h with ⟨_,rfl⟩|⟨_,rfl⟩
 ·refine⟨fun x hx=>?_,_,rfl⟩;have:=List.mem_filter.1 hx;simpa using this
 ·refine⟨fun x hx=>?_,_,rfl⟩;have:=List.mem_filter.1 hx;unfold gone at this;simp at this;exact⟨this.1,this.2.1⟩
theorem Rs{l r:List Nd}{n:Nd}(hv:Valid l)(hm:lG n=true)(hu:(bM n.1).1=[]∨∃x∈l,x.1=(bM n.1).1∧x.2.1=2)(hr:Md l n r)(CC:r.length<64):Valid (yy r n):=by
 obtain⟨hsub,P,hP⟩:=hr.sub;have ho:Ord r:=by rw[hP];exact hv.ord.filter P
 refine⟨by rw[aeT];omega,aeU ho fun x hx=>(hsub x hx).2,fun x hx=>?_,fun x hx=>?_⟩
 ·rcases vA.1 hx with rfl|hx
  ·exact hm
  ·exact hv.may x (hsub x hx).1
 ·rcases vA.1 hx with rfl|hx
  ·
   rcases hu with h|⟨y,hy,hy1,hy2⟩
   ·exact .inl h
   ·by_cases h0:(bM x.1).1=[]
    ·exact .inl h0
    ·right;refine⟨y,vA.2 (.inr ?_),hy1,hy2⟩;have rF:=Gq h0;rw[←hy1] at rF;have hlen:(parts y.1).length<(parts x.1).length:=by
      unfold cO at rF;exact(ic rF).1
     have hne:y.1≠x.1:=fun e=>by rw[e] at hlen;omega
     have hnu:cO (parts y.1) (parts x.1)=false:=by
      unfold cO;exact dJ fun h=>by omega
     rcases hr with ⟨_,rfl⟩|⟨_,rfl⟩
     ·exact List.mem_filter.2 ⟨hy,by simp[hne]⟩
     ·exact List.mem_filter.2 ⟨hy,by unfold gone;simp[hne,hnu]⟩
  ·rcases hv.up x (hsub x hx).1 with h|⟨y,hy,hy1,hy2⟩
   ·exact .inl h
   ·by_cases h0:(bM x.1).1=[]
    ·exact .inl h0
    ·right;have rF:=Gq h0;by_cases e:y.1=n.1
     ·rcases hr with ⟨h4,rfl⟩|⟨_,rfl⟩
      ·exact⟨n,vA.2 (.inl rfl),by rw[←e,hy1],h4.2⟩
      ·have:=(List.mem_filter.1 hx).2;rw[←hy1,e] at rF;unfold gone at this;rw[rF] at this;simp at this
     ·refine⟨y,vA.2 (.inr ?_),hy1,hy2⟩;rcases hr with ⟨_,rfl⟩|⟨_,rfl⟩
      ·exact List.mem_filter.2 ⟨hy,by simp[e]⟩
      ·refine List.mem_filter.2 ⟨hy,?_⟩;have hx2:=(List.mem_filter.1 hx).2;unfold gone at hx2⊢;cases hun:cO (parts y.1) (parts n.1) with
       | false=>simp[e]
       | true =>
         rw[Ob h0 hy1 hun] at hx2;simp at hx2
end Go.Ge
namespace Go.Ge
variable [Lp]
def Od(ns:List (List UInt8)):Prop:=∀x∈ns,47∉x∧x≠[]
def mu(m:Int)(p:List UInt8):Nd:=(p,((2:Int),(m,(([]:List UInt8),(([]:List UInt8),())))))
def fZ(ns:List (List UInt8))(j:Nat):List UInt8:=aO (ns.take (j+1))
theorem xV{ns:List (List UInt8)}(h:Od ns){i:Nat}{x:List UInt8}(hx:ns[i]?=some x):vv (aO (ns.take i)) x=fZ ns i:=by
 have ht:ns.take (i+1)=ns.take i++[x]:=by rw[TQ,hx];rfl
 have:=NW [x] (ns.take i) (fun y hy=>by
  rw[←ht] at hy;exact h y (O1 hy))
 unfold fZ;rw[ht];exact this
theorem Dx:∀(ns:List (List UInt8)) (k:Nat),(aO (ns.take k)).length≤(aO ns).length:=by
 intro ns;induction ns with
 | nil=>intro k;simp
 | cons x r ih =>
   intro k;cases k with
   | zero=>simp[aO]
   | succ k =>
     rw[Y4];cases r with
     | nil=>simp
     | cons y r =>
       cases k with
       | zero=>simp[aO]
       | succ k =>
         have:=ih (k+1);rw[Y4] at this⊢;simp only[aO,iO,ep] at this⊢;omega
theorem Fa:∀(ns:List (List UInt8)) (x:List UInt8),x∈ns→x.length≤(aO ns).length:=by
 intro ns;induction ns with
 | nil=>intro x hx;cases hx
 | cons a r ih =>
   intro x hx;cases r with
   | nil =>
     rw[Cw] at hx;subst hx;simp[aO]
   | cons b r =>
     simp only[aO,iO,ep];rcases List.mem_cons.1 hx with rfl|hx
     ·omega
     ·have:=ih x hx;omega
def Rt(ns:List (List UInt8)):Prop:=Od ns∧ns.length≤16∧(aO ns).length≤200
theorem Rt.BF{ns:List (List UInt8)}(h:Rt ns)(k:Nat):(aO (ns.take k)).length≤200:=gY (Dx ns k) h.2.2
theorem Rt.ZU{ns:List (List UInt8)}(h:Rt ns){x:List UInt8}(hx:x∈ns):x.length≤200:=gY (Fa ns x hx) h.2.2
theorem Rt.take{ns:List (List UInt8)}(h:Rt ns)(k:Nat):Rt (ns.take k):=⟨fun x hx=>h.1 x (O1 hx),by rw[cW];have:=h.2.1;omega,h.BF k⟩
def preB(ns:List (List UInt8))(k:Nat):Bool:=(List.range k).all fun j=>lG (mu 0 (fZ ns j))
theorem Yx{ns:List (List UInt8)}(h:Od ns){j:Nat}(hj:j<ns.length):(bM (fZ ns j)).1=aO (ns.take j):=by
 have hne:ns.take (j+1)≠[]:=by
  intro e;have:=congrArg List.length e;rw[cW,ig] at this;omega
 unfold fZ;rw[Kr (fun x hx=>h x (O1 hx)) hne];dsimp only;rw[Y3,cW,Mr]
 congr 2
 omega
theorem Gr{ns:List (List UInt8)}(h:Od ns)(j:Nat):parts (fZ ns j)=ns.take (j+1):=oH _ fun x hx=>h x (O1 hx)
theorem Ev{ns:List (List UInt8)}(h:Od ns):aO ns=[]↔ns=[]:=by
 constructor
 ·intro e;have:=oH ns h;rw[e] at this;exact this.symm
 ·rintro rfl;rfl
theorem zR{ns:List (List UInt8)}(h:Rt ns):lE (aO ns,())=some (preB ns ns.length&&decide (ns≠[]),()):=by
 have hpp:parts (aO ns)=ns:=oH _ h.1;have hpl:=h.BF ns.length;rw[GJ] at hpl;unfold lE;dsimp only;rw[iD _ (by omega),aa,hpp];have key:∀(d k:Nat),k+d=ns.length→(∀j,j<k→lG (mu 0 (fZ ns j))=true) →
   ∃r,Loop (gU (ns,())) ((false,(aO (ns.take k),((k:Int),()))),())=some r∧((r.1=0∧preB ns ns.length=true)∨(r.1=1∧r.2.1.1=false∧preB ns ns.length=false)):=by
  intro d;induction d with
  | zero =>
    intro k hk hall;obtain rfl:k=ns.length:=by omega
    refine⟨(0,((false,(aO (ns.take ns.length),((ns.length:Int),()))),())),?_,.inl ⟨rfl,?_⟩⟩
    ·rw[aX];unfold gU;dsimp only;rw[aE,af];rfl
    ·unfold preB;rw[Cx];exact fun j hj=>hall j (List.mem_range.1 hj)
  | succ d ih =>
    intro k hk hall;have hx:ns[k]?=some ns[k]:=kL (by omega);have hxl:=h.ZU (acV (show k<ns.length by omega));have hpk:=h.BF k;have ao9:=h.BF (k+1);have h16:=h.2.1;have step:gU (ns,()) ((false,(aO (ns.take k),((k:Int),()))),())=some (if lG (mu 0 (fZ ns k))=true then .inl ((false,(fZ ns k,(((k+1:Nat):Int),()))),()) else .inr (1,((false,(fZ ns k,((k:Int),()))),()))):=by
     unfold gU;dsimp only;have hm:=za (mu 0 (fZ ns k)) (by show(fZ ns k).length≤4096;unfold fZ;omega) (by simp[mu]);unfold mu at hm;rw[au (show k<ns.length by omega),ag,aB hx,aa,BA _ _ (by omega) (by omega),aa,xV h.1 hx,hm,aa,aY (by omega)];unfold mu;cases lG (fZ ns k,((2:Int),((0:Int),(([]:List UInt8),(([]:List UInt8),())))))<;>rfl
    by_cases hm:lG (mu 0 (fZ ns k))=true
    ·rw[bu hm] at step;obtain⟨r,r1,r2⟩:=ih (k+1) (by omega) (fun j hj=>by
      by_cases hjk:j=k
      ·rw[hjk];exact hm
      ·exact hall j (by omega))
     exact⟨r,by rw[aX,step];exact r1,r2⟩
    ·rw[br hm] at step;refine⟨_,by rw[aX,step];rfl,.inr ⟨rfl,rfl,?_⟩⟩;unfold preB;rw[T0];exact⟨k,List.mem_range.2 (by omega),hm⟩
 obtain⟨r,r1,r2⟩:=key ns.length 0 (by omega) (fun j hj=>by omega);have r1':Loop (gU (ns,())) ((false,(([]:List UInt8),((0:Int),()))),())=some r:=by
  have:aO (ns.take 0)=[]:=by simp[aO]
  rw[this] at r1;exact r1
 rw[r1',aa];rcases r2 with ⟨a1,a2⟩|⟨a1,a2,a3⟩
 ·rw[a1,show fT 0 0=true from rfl,ag,a2,ac1]
  congr 2
  unfold nt cc;rw[RU];have:=Ev h.1;simp[this]
 ·rw[a1,show fT 1 0=false from rfl,af,a2,a3];rfl
end Go.Ge
namespace Go.Ge
variable [Lp]
def Dy(ns:List (List UInt8)):Bool:=preB ns ns.length&&decide (ns≠[])
theorem agT{ns:List (List UInt8)}(hne:ns≠[]):preB ns ns.length=(preB ns (ns.length-1)&&lG (mu 0 (aO ns))):=by
 have hk:0<ns.length:=List.length_pos_iff.2 hne;have e:ns.length=ns.length-1+1:=by omega
 unfold preB
 conv=>lhs;rw[e]
 rw[List.range_succ,List.all_append];have:fZ ns (ns.length-1)=aO ns:=by unfold fZ;rw[GG (by omega)]
 simp[this]
def nE(p:Pt)(path:List UInt8):Nd:=(path,(p.1.2.1,(p.1.2.2.1,(p.2.1,(p.1.2.2.2.2.2.2.2.1,())))))
def JJ(p:Pt):Bool:=decide (p.1.2.1=1)&&decide (p.2.1=[])
def Dz(ns:List (List UInt8)):List (List UInt8):=ns.dropLast++[(oI (ns.getLastD [])).2]
def cB(p:Pt):Int×List (List UInt8)×Bool :=
 if wG p.1.1=true then
  let ns:=names p.1.1
  if(oI (ns.getLastD [])).1=1 then(1,(Dz ns,JJ p&&Dy (Dz ns)))
  else if(oI (ns.getLastD [])).1=2 then(2,(ns.dropLast,JJ p&&(decide (ns.dropLast=[])||Dy ns.dropLast)))
  else if(oI (ns.getLastD [])).1=0 then(0,(ns,(decide (ns=[])&&decide (p.1.2.1=2))||(lG (nE p (aO ns))&&Dy ns)))
  else(0,([],false))
 else(0,([],false))
theorem HY{s:List UInt8}(h:wG s=true):Rt (names s):=by
 obtain⟨h1,h2,h3⟩:=yS h;exact⟨fun x hx=>⟨(Et s x hx).1,(Et s x hx).2.1⟩,by omega,by omega⟩
theorem Oe{s:List UInt8}(h:wG s=true):((names s).getLastD []).length≤96:=by
 obtain⟨h1,h2,h3⟩:=yS h;cases hn:names s with
 | nil=>simp
 | cons a r =>
   have:(a::r).getLastD []∈names s:=by
    rw[hn,acO,←acw (h:=by simp)];exact List.getLast_mem _
   have:=Fa (names s) _ this;omega
theorem Kt{ns:List (List UInt8)}(h:Od ns):bM (aO ns)=(aO ns.dropLast,ns.getLastD []):=by
 by_cases hne:ns=[]
 ·subst hne;decide
 ·rw[Kr h hne];cases ns with
  | nil=>exact absurd rfl hne
  | cons a r=>rw[acw,acO]
theorem VV{n:List UInt8}(h:(oI n).1=1):(oI n).2=n.drop 4∧n.drop 4≠[]:=by
 unfold oI at h⊢;split at h
 ·rename_i hw;rw[bu hw];split at h
  ·cases h
  ·rename_i h1;rw[br h1];split at h
   ·cases h
   ·rename_i h2;rw[br h2];exact⟨rfl,fun e=>h2 (.inr (.inl e))⟩
 ·cases h
theorem aeV{n:List UInt8}(h:(oI n).1≠0):n≠[]:=by
 rintro rfl;exact h (by decide)
theorem Yy(n:List UInt8):(oI n).1=0∨(oI n).1=1∨(oI n).1=2∨(oI n).1=3:=by
 unfold oI;split
 ·split
  ·exact .inr (.inr (.inl rfl))
  ·split
   ·exact .inr (.inr (.inr rfl))
   ·exact .inr (.inl rfl)
 ·exact .inl rfl
theorem aeW(d n:List UInt8):(vv d n).length≤d.length+n.length+1:=by
 unfold vv;split<;>simp<;>omega
theorem Ru{s:List UInt8}(h:wG s=true)(hm:(oI ((names s).getLastD [])).1=1):vv (aO (names s).dropLast) (oI ((names s).getLastD [])).2=aO (Dz (names s))∧Rt (Dz (names s)):=by
 have hsh:=HY h;obtain⟨e,hne⟩:=VV hm;have amK:(names s).getLastD []≠[]:=aeV (by rw[hm];decide);have hnn:names s≠[]:=fun q=>amK (by rw[q];rfl);have hmem:(names s).getLastD []∈names s:=by
  cases hn:names s with
  | nil=>exact absurd hn hnn
  | cons a r =>
    rw[acO,←acw (h:=by simp)];exact List.getLast_mem _
 have hok:Od (Dz (names s)):=fun x hx=>by
  unfold Dz at hx;rcases List.mem_append.1 hx with hx|hx
  ·exact hsh.1 x (by rw[Y3] at hx;exact O1 hx)
  ·rw[Cw] at hx;subst hx;rw[e];exact⟨fun q=>(hsh.1 _ hmem).1 (aal q),hne⟩
 have hj:vv (aO (names s).dropLast) (oI ((names s).getLastD [])).2=aO (Dz (names s)):=NW [_] _ hok;refine⟨hj,hok,?_,?_⟩
 ·unfold Dz;rw[iO,List.length_dropLast];have:=hsh.2.1;simp;have:=List.length_pos_iff.2 hnn;omega
 ·rw[←hj];have h1:=aeW (aO (names s).dropLast) (oI ((names s).getLastD [])).2;have h2:=Oe h;have h3:(aO (names s).dropLast).length≤96:=by
   rw[Y3];have:=Dx (names s) ((names s).length-1);have:=(yS h).2.2;omega
  have h4:(oI ((names s).getLastD [])).2.length≤96:=by rw[e,qV];omega
  omega
theorem Ti{ns:List (List UInt8)}(h:Rt ns):Rt ns.dropLast:=by
 rw[Y3];exact h.take _
def SmP(p:Pt):Prop:=p.1.1.length≤300∧p.1.2.2.2.2.2.2.2.1.length≤300∧p.2.1.length≤8192
theorem DA(p:Pt)(hp:SmP p):pM (p,())=some ((cB p).1,(aO (cB p).2.1,((cB p).2.2,()))):=by
 unfold pM;dsimp only;rw[Ta p.1.1 (by have:=hp.1;omega),aa];dsimp only;unfold cB;cases hc:wG p.1.1 with
 | false =>
   have:Gj p.1.1=([],2):=by unfold Gj;rw[hc];rfl
   rw[this,br (by simp)];rfl
 | true =>
   have hcf:Gj p.1.1=(aO (names p.1.1),0):=by unfold Gj;rw[hc];rfl
   have hsh:=HY hc;have h96:=(yS hc).2.2;rw[hcf,bu rfl];dsimp only;rw[show nt (bI 0 0)=false from rfl,af,wH _ (by omega),aa,Kt hsh.1];dsimp only;rw[Kq,aa];dsimp only;have he:∀(A:Option Bool),(aj (aj (bI p.1.2.1 1) (cc p.2.1 []) false) A (some false))=if JJ p=true then A else some false:=fun A=>by
    unfold JJ bI cc;by_cases h1:p.1.2.1=1
    ·by_cases h2:p.2.1=[]
     ·simp[h1,h2,aj]
     ·simp[h1,h2,aj]
    ·simp[h1,aj]
   have apa:=Oe hc;rcases Yy ((names p.1.1).getLastD []) with hm|hm|hm|hm
   ·rw[hm,show bI 0 1=false from rfl,af,show bI 0 2=false from rfl,af,show bI 0 0=true from rfl,ag,br (by decide),br (by decide),bu rfl];unfold sK;dsimp only;rw[aa];dsimp only;have hmay:=za (nE p (aO (names p.1.1))) (by show(aO (names p.1.1)).length≤4096;omega) (by show p.1.2.2.2.2.2.2.2.1.length≤4096;have:=hp.2.1;omega);rw[show lS ((aO (names p.1.1),(p.1.2.1,(p.1.2.2.1,(p.2.1,(p.1.2.2.2.2.2.2.2.1,()))))),())=_ from hmay,aa,zR hsh,aa];dsimp only;have e1:aj (cc (aO (names p.1.1)) []) (bI p.1.2.1 2) false=(decide (names p.1.1=[])&&decide (p.1.2.1=2)):=by
     have:=Ev hsh.1;unfold cc bI;by_cases h1:names p.1.1=[]
     ·rw[fo h1,fo (this.2 h1)];simp[aj]
     ·rw[dJ h1,dJ fun e=>h1 (this.1 e)];rfl
    rw[e1];cases decide (names p.1.1=[])&&decide (p.1.2.1=2) with
    | true=>rfl
    | false =>
      rw[aF,ag];unfold Dy;cases lG (nE p (aO (names p.1.1)))<;>rfl
   ·obtain⟨g1,g2⟩:=Ru hc hm;rw[hm,show bI 1 1=true from rfl,ag,bu rfl,BA _ _ (by have:=(Ti hsh).2.2;omega) (by rw[(VV hm).1,qV];omega),aa,g1];dsimp only;rw[zR g2,aa,he];unfold Dy;cases JJ p<;>rfl
   ·rw[hm,show bI 2 1=false from rfl,af,show bI 2 2=true from rfl,ag,br (by decide),bu rfl];have hd:=Ti hsh;rw[zR hd,aa,he];have e1:cc (aO (names p.1.1).dropLast) []=decide ((names p.1.1).dropLast=[]):=by
     have:=Ev hd.1;unfold cc;exact decide_eq_decide.2 this
    rw[e1];unfold Dy;cases JJ p<;>cases decide ((names p.1.1).dropLast=[])<;>rfl
   ·rw[hm,show bI 3 1=false from rfl,af,show bI 3 2=false from rfl,af,show bI 3 0=false from rfl,af,br (by decide),br (by decide),br (by decide)];rfl
end Go.Ge
namespace Go.Ge
variable [Lp]
set_option maxRecDepth 100000
end Go.Ge
namespace Go.Ge
variable [Lp]
set_option maxRecDepth 100000
def qO(i:Nat)(n:Nat)(x:UInt8):Option (Nat⊕(Nat×(Int×Bool×Int×Int×Unit)×Unit)) :=
 some (if x.toNat<48∨55<x.toNat then .inr (1,((0,(false,((n:Int),((i:Int),())))),())) else .inl (8*n+(x.toNat-48)))
def DB(i:Nat)(n:Nat):Nat×(Int×Bool×Int×Int×Unit)×Unit:=(0,((0,(false,((n:Int),((i:Int),())))),()))
theorem Of{i n n':Nat}{x:UInt8}(hI:i≤21∧n<8 ^ i)(hi:i<21)(hs:qO i n x=some (.inl n')):i+1≤21∧n'<8 ^ (i+1):=by
 unfold qO at hs;have hs:=aN hs;split at hs
 ·cases hs
 ·obtain rfl:=Zj hs;refine⟨by omega,?_⟩;rw[Nat.pow_succ];omega
theorem ZV{i:Nat}(h:i≤20):8 ^ i≤1152921504606846976:=by
 have:(8:Nat) ^ i≤8 ^ 20:=Nat.pow_le_pow_right (by decide) h;have e:(8:Nat) ^ 20=1152921504606846976:=by decide
 omega
theorem Fb(s:List UInt8)(hs:s.length≤21):Loop (bR (s,())) ((0,(false,(0,(0,())))),())=yq qO DB s 0 0:=by
 have key:=xH (f:=bR (s,())) s (fun(n:Nat) i=>((0,(false,((n:Int),((i:Int),())))),())) qO DB (fun i n=>i≤21∧n<8 ^ i)
  (fun n i x hx hi hI=>by
   have hp:=ZV (i:=i) (by omega);obtain⟨h1,h2⟩:=List.getElem?_eq_some_iff.1 hx;have hxl:=x.toNat_lt;unfold bR qO;dsimp only;rw[lB,aT (by omega),ag,bE (by omega) (by omega),ag,AO s hi,h2,aa,aY (by omega)];by_cases a:x.toNat<48
   ·rw[aT (by unfold u8;omega),aJ,af,ag,bu (.inl a)];rfl
   ·by_cases b:55<x.toNat
    ·rw[aH (by unfold u8;omega),aF,ag,aT (by unfold u8;omega),ag,bu (.inr b)];rfl
    ·rw[aH (by unfold u8;omega),aF,ag,aH (by unfold u8;omega),af,show bB 3 0=false from rfl,af,br (by omega)];have e:u8 x=((48+(x.toNat-48):Nat):Int):=by unfold u8;omega
     rw[e,amw (by omega) (by omega)];rfl)
  (fun n i x n' hx hI hq=>Of hI (by have:=aI hx;omega) hq)
  (fun n hI=>by
   unfold bR DB;dsimp only;rw[lB,aH (by omega),af])
  (fun _ _ _ _ _ h=>by cases h) 0 ⟨by omega,by decide⟩
 exact key
theorem JK(s:List UInt8)(hs:s.length≤21):Loop (gI (s,())) ((0,(false,(0,(0,())))),())=yq qO DB s 0 0:=by
 have key:=xH (f:=gI (s,())) s (fun(n:Nat) i=>((0,(false,((n:Int),((i:Int),())))),())) qO DB (fun i n=>i≤21∧n<8 ^ i)
  (fun n i x hx hi hI=>by
   have hp:=ZV (i:=i) (by omega);have hxl:=x.toNat_lt;unfold gI qO;dsimp only;rw[au hi,ag,aB hx,aa,aa,aa,aY (by omega)];by_cases a:x.toNat<48
   ·rw[aT (by unfold u8;omega),aJ,af,aa,aJ,af,ag,bu (.inl a)];rfl
   ·by_cases b:55<x.toNat
    ·rw[aH (by unfold u8;omega),aF,ag,aa,aT (by unfold u8;omega),aJ,af,ag,bu (.inr b)];rfl
    ·rw[aH (by unfold u8;omega),aF,ag,aa,aH (by unfold u8;omega),aF,ag,aH (by omega),af,br (by omega)];have e:u8 x=((48+(x.toNat-48):Nat):Int):=by unfold u8;omega
     rw[e,ahL ⟨x.toNat-48,by omega⟩,C6 (by omega) (by omega),fJ (by dsimp only;omega) (by dsimp only;omega)];have e2:(8:Int)*(n:Int)+((x.toNat-48:Nat):Int)=((8*n+(x.toNat-48):Nat):Int):=by omega
     dsimp only;rw[e2];rfl)
  (fun n i x n' hx hI hq=>Of hI (by have:=aI hx;omega) hq)
  (fun n hI=>by
   unfold gI DB;dsimp only;rw[aE,af])
  (fun _ _ _ _ _ h=>by cases h) 0 ⟨by omega,by decide⟩
 exact key
theorem P6:∀(r:List UInt8) (i n:Nat),∃q,yq qO DB r i n=some q∧(q.1=0∨q.1=1):=by
 intro r;induction r with
 | nil=>intro i n;exact⟨_,rfl,.inl rfl⟩
 | cons x r ih =>
   intro i n;unfold yq qO;by_cases h:x.toNat<48∨55<x.toNat
   ·rw[bu h];exact⟨_,rfl,.inr rfl⟩
   ·rw[br h];exact ih (i+1) _
theorem DC(s:List UInt8)(hs:s.length≤1048576):eg (s,())=nH (s,())∧∃n b,eg (s,())=some (n,(b,())):=by
 unfold eg nH;dsimp only;by_cases h1:s.length<1
 ·rw[aT (by rw[bX];omega),aJ,af,ag,ag];exact⟨rfl,_,_,rfl⟩
 ·by_cases h2:21<s.length
  ·rw[aH (by rw[bX];omega),aF,ag,aT (by rw[bX];omega),ag,ag];exact⟨rfl,_,_,rfl⟩
  ·rw[aH (by rw[bX];omega),aF,ag,aH (by rw[bX];omega),af,af,dO (by rw[bX];omega),ag,Fb s (by omega),JK s (by omega)];refine⟨rfl,?_⟩;obtain⟨q,hq,hc⟩:=P6 s 0 0;rw[hq,aa];rcases hc with c|c
   ·rw[c,cv,ag];exact⟨_,_,rfl⟩
   ·rw[c,kN,af];exact⟨_,_,rfl⟩
end Go.Ge
namespace Go.Ge
variable [Lp]
theorem aeX{α S R:Type}{f:S→Option (S⊕R)}(l:List α)(mk:Nat→S)(p:α→Bool)(hit:Nat→R)(fin:R)
  (h:∀(i:Nat) (x:α),l[i]?=some x→f (mk i)=some (if p x=true then .inr (hit i) else .inl (mk (i+1)))) (hend:f (mk l.length)=some (.inr fin)) :
  ∀(d i:Nat),i+d=l.length→(∃(j:Nat) (x:α),i≤j∧l[j]?=some x∧p x=true∧(∀(m:Nat) (y:α),i≤m→m<j→l[m]?=some y→p y=false)∧Loop f (mk i)=some (hit j)) ∨
   ((∀(m:Nat) (y:α),i≤m→l[m]?=some y→p y=false)∧Loop f (mk i)=some fin):=by
 intro d;induction d with
 | zero =>
   intro i hi;obtain rfl:i=l.length:=by omega
   refine .inr ⟨fun m y hm hy=>?_,by rw[aX,hend];rfl⟩;have:=aI hy;omega
 | succ d ih =>
   intro i hi;have hx:l[i]?=some l[i]:=kL (by omega);have hs:=h i _ hx;by_cases hp:p l[i]=true
   ·rw[bu hp] at hs;exact .inl ⟨i,_,cU _,hx,hp,fun m y hm hmi=>absurd hm (by omega),by rw[aX,hs];rfl⟩
   ·rw[br hp] at hs;have hpf:p l[i]=false:=by simpa using hp
    rcases ih (i+1) (by omega) with ⟨j,x,j1,j2,j3,j4,j5⟩|⟨j1,j2⟩
    ·refine .inl ⟨j,x,by omega,j2,j3,fun m y hm hmj hy=>?_,by rw[aX,hs];exact j5⟩;by_cases e:m=i
     ·subst e;rw[hx] at hy;rw[←aN hy];exact hpf
     ·exact j4 m y (by omega) hmj hy
    ·refine .inr ⟨fun m y hm hy=>?_,by rw[aX,hs];exact j2⟩;by_cases e:m=i
     ·subst e;rw[hx] at hy;rw[←aN hy];exact hpf
     ·exact j1 m y (by omega) hy
theorem VW(p:UInt8→Bool)(s:List UInt8):∃z,s=cA p s++z∧∀x∈z,p x=true:=by
 refine⟨(s.reverse.takeWhile p).reverse,?_,fun x hx=>?_⟩
 ·unfold cA;rw[←List.reverse_append,KT,List.reverse_reverse]
 ·rw[acY] at hx;exact Ju hx
theorem VX{p:UInt8→Bool}{s:List UInt8}{m:Nat}{x:UInt8}(hx:s[m]?=some x)(hp:p x=false):m<(cA p s).length∧∀j,j≤m→(cA p s)[j]?=s[j]?:=by
 obtain⟨z,hz,hall⟩:=VW p s;have hm:m<(cA p s).length:=by
  apply KU;intro hge;have h2:(cA p s++z)[m]?=some x:=by rw[←hz];exact hx
  rw[acq (by omega)] at h2;have:=hall x (gm h2);rw[hp] at this;cases this
 refine⟨hm,fun j hj=>?_⟩
 conv=>rhs;rw[hz]
 rw[TM (by omega)]
theorem BG{p:UInt8→Bool}{s:List UInt8}{j:Nat}(h1:∀(m:Nat) (y:UInt8),j≤m→s[m]?=some y→p y=true)(h2:∀(m:Nat) (y:UInt8),m<j→s[m]?=some y→p y=false):cA p s=s.take j:=by
 have e:s=s.take j++s.drop j:=(CE j s).symm
 conv=>lhs;rw[e]
 rw[Rh _ _ (fun x hx=>by
  obtain⟨i,hi⟩:=bJ.1 hx;rw[nW] at hi;exact h1 (j+i) x (by omega) hi)]
 refine aeG fun x hx=>?_;rw[List.getLast?_eq_getElem?] at hx;have hl:=aI hx;rw[cW] at hx hl;rw[ahp (by omega)] at hx;exact h2 _ x (by omega) hx
def Ku(x:UInt8):Bool:=decide (48≤x.toNat∧x.toNat≤55)
theorem aeY{x:UInt8}(h:Ku x=true):yx x=false:=by
 unfold Ku at h;have h:=ic h;cases hb:yx x with
 | false=>rfl
 | true =>
   rcases(VD x).1 hb with e|e
   ·subst e;exact absurd h.1 (by decide)
   ·subst e;exact absurd h.1 (by decide)
theorem VY:∀(r:List UInt8) (i n:Nat) (x:UInt8),x∈r→Ku x=false→∃q,yq qO DB r i n=some q∧q.1=1∧q.2.1.2.1=false:=by
 intro r;induction r with
 | nil=>intro i n x hx;cases hx
 | cons a r ih =>
   intro i n x hx hb;unfold yq qO;by_cases h:a.toNat<48∨55<a.toNat
   ·rw[bu h];exact⟨_,rfl,rfl,rfl⟩
   ·rw[br h];rcases List.mem_cons.1 hx with e|hx
    ·subst e;unfold Ku at hb;have:=TP hb;omega
    ·exact ih (i+1) _ x hx hb
theorem P7{s:List UInt8}(hs:s.length≤21){x:UInt8}(hx:x∈s)(hb:Ku x=false):∃n,eg (s,())=some (n,(false,())):=by
 have hpos:0<s.length:=List.length_pos_of_mem hx;unfold eg;dsimp only;rw[aH (by rw[bX];omega),aF,ag,aH (by rw[bX];omega),af,dO (by rw[bX];omega),ag,Fb s hs];obtain⟨q,q1,q2,q3⟩:=VY s 0 0 x hx hb;rw[q1,aa,q2,kN,af,q3];exact⟨_,rfl⟩
theorem amM(x:UInt8):cX 48 (u8 x)=decide (48≤x.toNat):=by unfold cX u8;apply decide_eq_decide.2;omega
theorem amN(x:UInt8):cX (u8 x) 55=decide (x.toNat≤55):=by unfold cX u8;apply decide_eq_decide.2;omega
theorem rO(s:List UInt8)(hs:s.length≤21):fO (s,())=dK (s,()):=by
 unfold fO dK;dsimp only;rw[HM s (by omega),aa];dsimp only;have first:=aeX (f:=gV (s,())) s (fun i=>(((i:Int),()),())) (fun x=>!Ku x) (fun j=>(((j:Int),()),())) (((s.length:Int),()),()) (fun i x hx=>by
  have hi:=aI hx;unfold gV;dsimp only;rw[au hi,ag,aB hx,aa,aa,aa,amM,amN,aY (by omega)];unfold Ku;by_cases h1:48≤x.toNat
  ·by_cases h2:x.toNat≤55
   ·rw[fo h1,fo h2,fo ⟨h1,h2⟩];rfl
   ·rw[fo h1,dJ h2,dJ (fun q:48≤x.toNat∧x.toNat≤55=>h2 q.2)];rfl
  ·rw[dJ h1,dJ (fun q:48≤x.toNat∧x.toNat≤55=>h1 q.1)];rfl) (by
  unfold gV;dsimp only;rw[aE,af];rfl) s.length 0 (by omega)
 rcases first with ⟨j,x,_,hx,hp,amO,hL⟩|⟨hall,hL⟩
 ·rw[show Loop (gV (s,())) (((0:Int),()),())=_ from hL,aa];have hj:=aI hx;have hxo:Ku x=false:=by simpa using hp
  dsimp only;rw[aM (by rw[bX];omega),af];have second:=aeX (f:=gW (s,())) s (fun i=>(((0:Int),((i:Int),())),())) (fun x=>!yx x) (fun j=>(1,(((-1:Int),((j:Int),())),()))) (0,(((0:Int),((s.length:Int),())),())) (fun i y hy=>by
   have hi:=aI hy;have e0:bI (u8 y) 0=decide (y=0):=E6 (n:=0);have e32:bI (u8 y) 32=decide (y=32):=E6 (n:=32);unfold gW;dsimp only;rw[au hi,ag,aB hy,aa,aa,e0,e32,aY (by omega)];have hnb:=VD y;by_cases h1:y=0
   ·rw[fo h1,hnb.2 (.inl h1)];rfl
   ·by_cases h2:y=32
    ·rw[dJ h1,fo h2,hnb.2 (.inr h2)];rfl
    ·rw[dJ h1,dJ h2,show yx y=false by
     cases hb:yx y with
     | false=>rfl
     | true=>rcases hnb.1 hb with e|e
             ·exact absurd e h1
             ·exact absurd e h2];rfl) (by
   unfold gW;dsimp only;rw[aE,af]) (s.length-j) j (by omega)
  rcases second with ⟨m,y,hm,hy,hq,_,hL2⟩|⟨aky,hL2⟩
  ·rw[show Loop (gW (s,())) (((0:Int),((j:Int),())),())=_ from hL2,aa,kN,af];obtain⟨r1,r2⟩:=VX (p:=yx) hy (by simpa using hq);have hmem:x∈cA yx s:=by
    refine bJ.2 ⟨j,?_⟩;rw[r2 j hm,hx]
   have hlen:=pU yx s;obtain⟨n,hn⟩:=P7 (by omega) hmem hxo;rw[hn,aa];rfl
  ·rw[show Loop (gW (s,())) (((0:Int),((j:Int),())),())=_ from hL2,aa,cv,ag];have IL:cA yx s=s.take j:=BG (fun m y hm hy=>by simpa using aky m y hm hy) (fun m y hm hy=>aeY (by simpa using amO m y (rT _) hm hy));have hin:inside (0:Int) (j:Int) (len s)=true:=tW (a:=0) (rT _) (by omega);rw[hin,ag,kY,IL];obtain⟨h1,n,b,h2⟩:=DC (s.take j) (by rw[cW];omega);rw[←h1,h2,aa,aa];dsimp only;rw[aM (show len (s.take j)≠len s by rw[bX,bX,cW];omega)];cases b<;>rfl
 ·rw[show Loop (gV (s,())) (((0:Int),()),())=_ from hL,aa,aP (by rw[bX]),ag];have IL:cA yx s=s:=by
   have:=BG (p:=yx) (s:=s) (j:=s.length) (fun m y hm hy=>by have:=aI hy;omega) (fun m y hm hy=>aeY (by simpa using hall m y (rT _) hy));rw[this,GJ]
  rw[IL];obtain⟨_,n,b,h2⟩:=DC s (by omega);rw[h2,aa];dsimp only;rw[aP rfl];cases b<;>rfl
theorem JL(s:List UInt8)(hs:s.length≤1000):∃t ok,pO (s,())=some (t,(ok,()))∧mV (s,())=some (cA cr s,(ok,()))∧(ok=true→t=cA cr s)∧t.length≤s.length:=by
 have e0:∀y:UInt8,bI (u8 y) 0=cr y:=fun y=>rfl;rw[HO s (by omega)];unfold pO;have inner:∀i:Nat,i≤s.length→_:=fun i hi=>aeX (f:=eY (s,())) s (fun k=>((([]:List UInt8),(false,((k:Int),()))),())) (fun x=>!cr x) (fun j=>(1,((([]:List UInt8),(false,((j:Int),()))),()))) (0,((([]:List UInt8),(false,((s.length:Int),()))),())) (fun k y hy=>by
  have hk:=aI hy;unfold eY;dsimp only;rw[au hk,ag,aB hy,aa,e0,aY (by omega)];cases cr y<;>rfl) (by
  unfold eY;dsimp only;rw[aE,af]) (s.length-i) i (by omega)
 have outer:(∃(i:Nat) (x:UInt8),s[i]?=some x∧cr x=true∧(∀(m:Nat) (y:UInt8),m<i→s[m]?=some y→cr y=false)∧Loop (dL (s,())) ((([]:List UInt8),(false,((0:Int),()))),())=(ah (Loop (eY (s,())) ((([]:List UInt8),(false,((i:Int),()))),())) fun y3=>some (if y3.1=0 then(1,((s.take i,(true,((i:Int),()))),())) else(1,((y3.2.1.1,(y3.2.1.2.1,((i:Int),()))),()))))) ∨
   ((∀(m:Nat) (y:UInt8),s[m]?=some y→cr y=false)∧Loop (dL (s,())) ((([]:List UInt8),(false,((0:Int),()))),())=some (0,((([]:List UInt8),(false,((s.length:Int),()))),()))):=by
  have key:∀(d i:Nat),i+d=s.length→(∀(m:Nat) (y:UInt8),m<i→s[m]?=some y→cr y=false)→(∃(j:Nat) (x:UInt8),s[j]?=some x∧cr x=true∧(∀(m:Nat) (y:UInt8),m<j→s[m]?=some y→cr y=false)∧Loop (dL (s,())) ((([]:List UInt8),(false,((i:Int),()))),())=(ah (Loop (eY (s,())) ((([]:List UInt8),(false,((j:Int),()))),())) fun y3=>some (if y3.1=0 then(1,((s.take j,(true,((j:Int),()))),())) else(1,((y3.2.1.1,(y3.2.1.2.1,((j:Int),()))),()))))) ∨
   ((∀(m:Nat) (y:UInt8),s[m]?=some y→cr y=false)∧Loop (dL (s,())) ((([]:List UInt8),(false,((i:Int),()))),())=some (0,((([]:List UInt8),(false,((s.length:Int),()))),()))):=by
   intro d;induction d with
   | zero =>
     intro i hi hb;obtain rfl:i=s.length:=by omega
     refine .inr ⟨fun m y hy=>hb m y (aI hy) hy,?_⟩;have hz:dL (s,()) ((([]:List UInt8),(false,((s.length:Int),()))),())=some (.inr (0,((([]:List UInt8),(false,((s.length:Int),()))),()))):=by
      unfold dL;dsimp only;rw[aE,af]
     rw[aX,hz];rfl
   | succ d ih =>
     intro i hi hb;have hx:s[i]?=some s[i]:=kL (by omega);cases hn:cr s[i] with
     | true =>
       refine .inl ⟨i,s[i],hx,hn,hb,?_⟩;have hsome:∃z,Loop (eY (s,())) ((([]:List UInt8),(false,((i:Int),()))),())=some z∧(z.1=0∨z.1=1):=by
        rcases inner i (by omega) with ⟨j,x,_,_,_,_,h⟩|⟨_,h⟩
        ·exact⟨_,h,.inr rfl⟩
        ·exact⟨_,h,.inl rfl⟩
       obtain⟨z,hz,hc⟩:=hsome;have hin:inside (0:Int) (i:Int) (len s)=true:=tW (a:=0) (rT _) (by omega);have hz2:dL (s,()) ((([]:List UInt8),(false,((i:Int),()))),())=some (.inr (if z.1=0 then(1,((s.take i,(true,((i:Int),()))),())) else(1,((z.2.1.1,(z.2.1.2.1,((i:Int),()))),())))):=by
        unfold dL;dsimp only;rw[au (show i<s.length by omega),ag,aB hx,aa,e0,hn,ag,hz,aa];rcases hc with c|c
        ·rw[c,cv,ag,hin,ag,kY,bu rfl]
        ·rw[c,kN,af,br (by decide)]
       rw[hz,aa,aX,hz2];rfl
     | false =>
       have hz2:dL (s,()) ((([]:List UInt8),(false,((i:Int),()))),())=some (.inl ((([]:List UInt8),(false,(((i+1:Nat):Int),()))),())):=by
        unfold dL;dsimp only;rw[au (show i<s.length by omega),ag,aB hx,aa,e0,hn,af,aY (by omega)]
       rw[aX,hz2];exact ih (i+1) (by omega) (fun m y hm hy=>by
        by_cases e:m=i
        ·subst e;rw[hx] at hy;rw[←aN hy];exact hn
        ·exact hb m y (by omega) hy)
  exact key s.length 0 (by omega) (fun m y hm=>absurd hm (by omega))
 rcases outer with ⟨i,x,hx,hn,hb,hL⟩|⟨hall,hL⟩
 ·rw[hL];have hi:=aI hx;rcases inner i (by omega) with ⟨j,y,hj,hy,hq,_,h⟩|⟨ha,h⟩
  ·rw[show Loop (eY (s,())) ((([]:List UInt8),(false,((i:Int),()))),())=_ from h,aa,aa,br (show ¬(1:Nat)=0 by decide),kN,af];refine⟨[],false,rfl,?_,fun q=>(by cases q),by simp⟩;obtain⟨r1,r2⟩:=VX (p:=cr) hy (by simpa using hq);have:¬AQ (cA cr s):=fun q=>by
    have hm:x∈cA cr s:=bJ.2 ⟨i,by rw[r2 i hj,hx]⟩;exact q x hm ((AP x).1 hn)
   rw[dJ this]
  ·rw[show Loop (eY (s,())) ((([]:List UInt8),(false,((i:Int),()))),())=_ from h,aa,aa,bu rfl,kN,af];have IL:cA cr s=s.take i:=BG (fun m y hm hy=>by simpa using ha m y hm hy) (fun m y hm hy=>hb m y hm hy);refine⟨_,true,rfl,?_,fun _=>IL.symm,by dsimp only;rw[cW];omega⟩;have:AQ (cA cr s):=fun y hy=>by
    rw[IL] at hy;obtain⟨m,hm⟩:=bJ.1 hy;have hml:=aI hm;rw[cW] at hml;rw[ahp (by omega)] at hm;intro e;have:=hb m y (by omega) hm;rw[(AP y).2 e] at this;cases this
   rw[fo this]
 ·rw[hL,aa,cv,ag];have IL:cA cr s=s:=by
   have:=BG (p:=cr) (s:=s) (j:=s.length) (fun m y hm hy=>by have:=aI hy;omega) (fun m y hm hy=>hall m y hy);rw[this,GJ]
  refine⟨s,true,rfl,?_,fun _=>IL.symm,cU _⟩;have:AQ (cA cr s):=fun y hy e=>by
   rw[IL] at hy;obtain⟨m,hm⟩:=bJ.1 hy;have:=hall m y hm;rw[(AP y).2 e] at this;cases this
  rw[fo this]
end Go.Ge
namespace Go.Ge
variable [Lp]
theorem uS(b:List UInt8)(hb:b.length=512)(a e:Nat)(h:a≤e)(he:e≤512):inside (a:Int) (e:Int) (len b)=true∧sub b (a:Int) (minus (e:Int) (a:Int))=gG b a (e-a):=by
 refine⟨tW h (by omega),?_⟩;unfold sub minus gG;rw[u6,show((e:Int)-(a:Int)).toNat=e-a by omega]
theorem aeZ(p q r:Bool)(H H':Hd)(hH:p=true→q=true→r=true→H'=H)(h1:H'.1.length≤1048576)(h2:H'.2.2.2.2.2.2.2.1.length≤1048576) :
  ah (aj (nt (aj (nt (aj (nt (nt p)) (nt q) true)) (nt r) true)) (ah (vo (H',((256:Int),()))) (fun(gq:Bool×Unit)=>some (nt gq.1))) (some true)) (fun(gq:Bool)=>aj gq (some (abz,((2:Int),()))) (some (H',((0:Int),())))) =
  ah (aj (nt (aj (nt (aj (nt (nt p)) (nt q) true)) (nt r) true)) (ah (vn (H,((256:Int),()))) (fun(y21:Bool×Unit)=>some (nt y21.1))) (some true)) (fun(y21:Bool)=>aj y21 (some (abz,((2:Int),()))) (some (H,((0:Int),())))):=by
 rw[agP H' 256 h1 h2,VH,aa,aa];cases p with
 | false=>rfl
 | true =>
   cases q with
   | false=>rfl
   | true =>
     cases r with
     | false=>rfl
     | true=>rw[hH rfl rfl rfl]
theorem take_same(b:List UInt8)(hb:b.length=512):pP (b,())=gC (b,()):=by
 obtain⟨n6,h6⟩:=eZ (gG b 148 8) (by have:=cq b 148 8;omega);have r6:=rO (gG b 148 8) (by have:=cq b 148 8;omega);obtain⟨i9,s9⟩:=uS b hb 257 265 (by omega) (by omega);obtain⟨i6,s6⟩:=uS b hb 148 156 (by omega) (by omega);have hl:bI (len b) 512=true:=aP (by simp only[len];omega);by_cases hm:gG b 257 8=nO
 case neg =>
  rw[Gn b hb hm];unfold pP;dsimp only;rw[hl,aJ,aF,ag,show inside (257:Int) (265:Int) (len b)=true from i9,ag,show sub b (257:Int) (minus (265:Int) (257:Int))=gG b 257 8 from s9,show([117,115,116,97,114,0,48,48]:List UInt8)=nO from rfl,show cc (gG b 257 8) nO=false from dJ hm,aF,aa,aJ,af,aa,ag];rfl
 by_cases hs:n6=(rN b 512:Int)
 case neg =>
  rw[VN b hb h6 hs];unfold pP;dsimp only;rw[hl,aJ,aF,ag,show inside (257:Int) (265:Int) (len b)=true from i9,ag,show sub b (257:Int) (minus (265:Int) (257:Int))=gG b 257 8 from s9,show([117,115,116,97,114,0,48,48]:List UInt8)=nO from rfl,hm,show cc nO nO=true from xF _,aJ,aa,aF,ag,show inside (148:Int) (156:Int) (len b)=true from i6,ag,show sub b (148:Int) (minus (156:Int) (148:Int))=gG b 148 8 from s6,r6,h6,aa,HV b (by omega),aa];dsimp only;rw[hb,aM hs,aF,aa,ag];rfl
 obtain⟨n1,h1⟩:=eZ (gG b 100 8) (by have:=cq b 100 8;omega);obtain⟨n2,h2⟩:=eZ (gG b 108 8) (by have:=cq b 108 8;omega);obtain⟨n3,h3⟩:=eZ (gG b 116 8) (by have:=cq b 116 8;omega);obtain⟨n4,h4⟩:=eZ (gG b 124 12) (by have:=cq b 124 12;omega);obtain⟨n5,h5⟩:=eZ (gG b 136 12) (by have:=cq b 136 12;omega);have r1:=(rO (gG b 100 8) (by have:=cq b 100 8;omega)).trans h1;have r2:=(rO (gG b 108 8) (by have:=cq b 108 8;omega)).trans h2;have r3:=(rO (gG b 116 8) (by have:=cq b 116 8;omega)).trans h3;have r4:=(rO (gG b 124 12) (by have:=cq b 124 12;omega)).trans h4;have r5:=(rO (gG b 136 12) (by have:=cq b 136 12;omega)).trans h5;have m0:=cq b 0 100;have m8:=cq b 157 100;have m10:=cq b 345 155;obtain⟨t0,k0,ra0,rb0,rc0,rd0⟩:=JL (gG b 0 100) (by omega);obtain⟨t8,k8,ra8,rb8,rc8,rd8⟩:=JL (gG b 157 100) (by omega);obtain⟨t10,k10,amQ,amR,amS,apk⟩:=JL (gG b 345 155) (by omega);have l0:=pU cr (gG b 0 100);have l10:=pU cr (gG b 345 155);obtain⟨i0,s0⟩:=uS b hb 0 100 (by omega) (by omega);obtain⟨i8,s8⟩:=uS b hb 157 257 (by omega) (by omega);obtain⟨i10,s10⟩:=uS b hb 345 500 (by omega) (by omega);obtain⟨i1,s1⟩:=uS b hb 100 108 (by omega) (by omega);obtain⟨i2,s2⟩:=uS b hb 108 116 (by omega) (by omega);obtain⟨i3,s3⟩:=uS b hb 116 124 (by omega) (by omega);obtain⟨i4,s4⟩:=uS b hb 124 136 (by omega) (by omega);obtain⟨i5,s5⟩:=uS b hb 136 148 (by omega) (by omega);obtain⟨c,hk,f7⟩:∃c,b[156]?=some c∧gG b 156 1=[c]:=by
  refine⟨b[156],kL (by omega),?_⟩;unfold gG;rw[CD (by omega)];rfl
 unfold gC;dsimp only;rw[hl,aJ,aF,ag,o9 b hb,aa,aa,show([117,115,116,97,114,0,48,48]:List UInt8)=nO from rfl];dsimp only;rw[hm,show cc nO nO=true from xF _,aJ,aF,ag,o6 b hb,aa];dsimp only;rw[h6,aa,JF b (by omega),aa];dsimp only;rw[hb,aP hs,aJ,aa,af,o0 b hb,aa];dsimp only;rw[rb0,aa,o8 b hb,aa];dsimp only;rw[rb8,aa,o10 b hb,aa];dsimp only;rw[amR,aa];dsimp only;have hpre:(aj (nt (cc (cA cr (gG b 345 155)) [])) (aj (fits (plus (len (cA cr (gG b 345 155))) (len ([47]:List UInt8)))) (aj (fits (plus (len (app (cA cr (gG b 345 155)) [47])) (len (cA cr (gG b 0 100)))))
   (some ((app (app (cA cr (gG b 345 155)) [47]) (cA cr (gG b 0 100)),()),())) none) none) (some ((cA cr (gG b 0 100),()),())))=some ((if cA cr (gG b 345 155)=[] then cA cr (gG b 0 100) else cA cr (gG b 345 155)++[47]++cA cr (gG b 0 100),()),()):=by
  by_cases he:cA cr (gG b 345 155)=[]
  ·rw[bu he,gH he,aJ,af]
  ·rw[br he,cJ he,aF,ag,dO (by simp only[plus,len,ep,ig];omega),ag,dO (by simp only[plus,len,app,iO,ep,ig];omega),ag];rfl
 rw[hpre,aa,o1 b hb,aa];dsimp only;rw[h1,aa,o2 b hb,aa];dsimp only;rw[h2,aa,o3 b hb,aa];dsimp only;rw[h3,aa,o4 b hb,aa];dsimp only;rw[h4,aa,o5 b hb,aa];dsimp only;rw[h5,aa,o7 b hb,aa,f7];unfold pP;dsimp only;rw[hl,aJ,aF,ag,show inside (257:Int) (265:Int) (len b)=true from i9,ag,show sub b (257:Int) (minus (265:Int) (257:Int))=gG b 257 8 from s9,show([117,115,116,97,114,0,48,48]:List UInt8)=nO from rfl,hm,show cc nO nO=true from xF _,aJ,aa,aF,ag,show inside (148:Int) (156:Int) (len b)=true from i6,ag,show sub b (148:Int) (minus (156:Int) (148:Int))=gG b 148 8 from s6,r6,h6,aa,HV b (by omega),aa];dsimp only;rw[hb,aP hs,aJ,aa,af];rw[show inside (0:Int) (100:Int) (len b)=true from i0,ag,show sub b (0:Int) (minus (100:Int) (0:Int))=gG b 0 100 from s0,ra0,aa];rw[show inside (157:Int) (257:Int) (len b)=true from i8,ag,show sub b (157:Int) (minus (257:Int) (157:Int))=gG b 157 100 from s8,ra8,aa];rw[show inside (345:Int) (500:Int) (len b)=true from i10,ag,show sub b (345:Int) (minus (500:Int) (345:Int))=gG b 345 155 from s10,amQ,aa];rw[show inside (100:Int) (108:Int) (len b)=true from i1,ag,show sub b (100:Int) (minus (108:Int) (100:Int))=gG b 100 8 from s1,r1,aa];rw[show inside (108:Int) (116:Int) (len b)=true from i2,ag,show sub b (108:Int) (minus (116:Int) (108:Int))=gG b 108 8 from s2,r2,aa];rw[show inside (116:Int) (124:Int) (len b)=true from i3,ag,show sub b (116:Int) (minus (124:Int) (116:Int))=gG b 116 8 from s3,r3,aa];rw[show inside (124:Int) (136:Int) (len b)=true from i4,ag,show sub b (124:Int) (minus (136:Int) (124:Int))=gG b 124 12 from s4,r4,aa];rw[show inside (136:Int) (148:Int) (len b)=true from i5,ag,show sub b (136:Int) (minus (148:Int) (136:Int))=gG b 136 12 from s5,r5,aa];dsimp only;have akz:∀(x:Int×Int×Int×Int×Int×Int×List UInt8×Unit),(aj (nt (cc t10 [])) (aj (fits (plus (len t10) (len ([47]:List UInt8)))) (aj (fits (plus (len (app t10 [47])) (len t0)))
   (some ((),((app (app t10 [47]) t0,x),()))) none) none) (some ((),((t0,x),()))))=some ((),((if t10=[] then t0 else t10++[47]++t0,x),())):=fun x=>by
  by_cases he:t10=[]
  ·rw[bu he,gH he,aJ,af]
  ·rw[br he,cJ he,aF,ag,dO (by simp only[plus,len,ep,ig];omega),ag,dO (by simp only[plus,len,app,iO,ep,ig];omega),ag];rfl
 rw[akz,aa,show idx b (156:Int)=some c from aB (i:=156) hk,aa];have c48:cc [c] [48]=decide (c=48):=decide_eq_decide.2 (by simp);have c0:cc [c] [0]=decide (c=0):=decide_eq_decide.2 (by simp);have c53:cc [c] [53]=decide (c=53):=decide_eq_decide.2 (by simp);have c50:cc [c] [50]=decide (c=50):=decide_eq_decide.2 (by simp);have d48:bI (u8 c) 48=decide (c=48):=E6 (n:=48);have d0:bI (u8 c) 0=decide (c=0):=E6 (n:=0);have d53:bI (u8 c) 53=decide (c=53):=E6 (n:=53);have d50:bI (u8 c) 50=decide (c=50):=E6 (n:=50);rw[c48,c0,c53,c50,d48,d0,d53,d50];have akA:(if t10=[] then t0 else t10++[47]++t0).length≤1048576:=by
  split
  ·omega
  ·simp only[iO,ep,ig];omega
 refine aeZ k0 k8 k10 _ _ (fun a0 a8 a10=>?_) ?_ ?_
 ·rw[rc0 a0,rc8 a8,amS a10];all_goals cases decide (c=48)<;>cases decide (c=0)<;>cases decide (c=53)<;>cases decide (c=50)<;>rfl
 ·cases decide (c=48)<;>cases decide (c=0)<;>cases decide (c=53)<;>cases decide (c=50)<;>exact akA
 ·have h8:t8.length≤1048576:=by omega
  have hn:([]:List UInt8).length≤1048576:=by simp
  cases decide (c=48)<;>cases decide (c=0)<;>cases decide (c=53)<;>cases decide (c=50)<;>first|exact hn|exact h8
end Go.Ge
namespace Go.Ge
variable [Lp]
abbrev Stp:=((List UInt8×Unit)⊕((List UInt8×Unit)⊕(Unit⊕((Nd×Unit)⊕Unit))))
def lI(l:List Pt):Bool:=l.all fun p=>(cB p).2.2
def ae0(l:List Pt):Prop:=l.length≤10000∧∀p∈l,SmP p
theorem aiT{l:List Pt}:(∀(i:Nat) (x:Pt),l[i]?=some x→(!(cB x).2.2)=false)→lI l=true:=fun h=>by
 unfold lI;rw[Cx];intro x hx;obtain⟨i,hi⟩:=bJ.1 hx;have:=h i x hi;simpa using this
theorem agU{l:List Pt}{i:Nat}{x:Pt}(hx:l[i]?=some x)(h:(!(cB x).2.2)=true):lI l=false:=by
 unfold lI;rw[T0];exact⟨x,gm hx,by simpa using h⟩
theorem DD(l:List Pt)(hl:ae0 l):qn (l,())=some (lI l,()):=by
 unfold qn;have h1:=hl.1;rcases p8 (f:=pN (l,())) l (fun i=>((false,(i,())),())) (fun _ x=>!(cB x).2.2) (fun i _=>(1,((false,((i:Int),())),()))) (0,((false,((l.length:Int),())),())) (by omega) (fun i x hx hi Lt=>by
  unfold pN;dsimp only;rw[au hi,ag,aB hx,aa,DA x (hl.2 x (gm hx)),aa,Lt];dsimp only;cases (cB x).2.2<;>rfl) (by
  unfold pN;dsimp only;rw[aE,af]) with ⟨i,x,hx,hp,_,h⟩|⟨hn,h⟩
 ·rw[h,aa,agU hx hp];rfl
 ·rw[h,aa,aiT hn];rfl
end Go.Ge
namespace Go.Ge
variable [Lp]
theorem VZ(l:List Nd)(p:List UInt8)(hl:Rp l)(hv:Valid l):wJ (l,(p,()))=some (findF l p):=by
 obtain⟨e,c1,c2⟩:=uc l hl;obtain rfl:=c2.2 hv;unfold wJ;dsimp only;rcases Dt l p hl with ⟨i,x,hx,hxp,h⟩|⟨hno,h⟩
 ·rw[h,aa,c1,aa];dsimp only;rw[aH (by omega),aB hx,N9 hv.ord (gm hx) hxp];rfl
 ·rw[h,aa,c1,aa,Yw hno];rfl
end Go.Ge
namespace Go.Ge
variable [Lp]
theorem Yz{n:Nd}(h:lG n=true):n.1.length≤92∧n.2.2.2.2.1.length≤100∧n.2.2.2.1.length≤8192:=by
 unfold lG at h;simp only[dW] at h;have hp:=h.1.1.1;have hk:=h.2;unfold Ds at hp;simp only[dW,nY] at hp;refine⟨hp.1.1.2,?_⟩;unfold ZS at hk;split at hk
 ·have:=ic hk;exact⟨by rw[this.1];simp,this.2⟩
 ·split at hk
  ·have:=ic hk;exact⟨by rw[this.1];simp,by rw[this.2];simp⟩
  ·split at hk
   ·have:=ic hk;exact⟨this.2.2.1,by rw[this.1];simp⟩
   ·cases hk
theorem vB{l:List Nd}(h:Valid l):Rp l:=⟨by have:=h.Ep;omega,fun x hx=>by
 have:=Yz (h.may x hx);exact⟨by omega,by omega,by omega⟩⟩
theorem V0{l:List Nd}(h:Valid l)(p:List UInt8):Valid (xU l p):=by
 refine⟨gY (aak _ _) h.Ep,h.ord.filter _,fun x hx=>h.may x (List.mem_filter.1 hx).1,fun x hx=>?_⟩;obtain⟨hx1,hx2⟩:=List.mem_filter.1 hx;by_cases hu:(bM x.1).1=[]
 ·exact .inl hu
 ·rcases h.up x hx1 with h0|⟨y,hy,e,k⟩
  ·exact absurd h0 hu
  ·refine .inr ⟨y,List.mem_filter.2 ⟨hy,?_⟩,e,k⟩;cases hg:gone p y with
   | false=>rfl
   | true =>
     have:gone p x=true:=by
      unfold gone at hg⊢;rw[zv] at hg⊢;rcases hg with hg|hg
      ·right;rw[←ic hg,e];exact Gq hu
      ·exact .inr (Ob hu e hg)
     rw[this] at hx2;cases hx2
theorem Og{l:List Nd}(h:Valid l)(p:List UInt8):Valid (lH l p false):=by
 refine⟨gY (aak _ _) h.Ep,h.ord.filter _,fun x hx=>h.may x (List.mem_filter.1 hx).1,fun x hx=>?_⟩;obtain⟨hx1,hx2⟩:=List.mem_filter.1 hx;by_cases hu:(bM x.1).1=[]
 ·exact .inl hu
 ·rcases h.up x hx1 with h0|⟨y,hy,e,k⟩
  ·exact absurd h0 hu
  ·refine .inr ⟨y,List.mem_filter.2 ⟨hy,?_⟩,e,k⟩;cases hg:cO (parts y.1) (parts p) with
   | false=>rfl
   | true =>
     rw[Ob hu e hg] at hx2;cases hx2
theorem Tj(l:List Nd)(p:List UInt8):lH l p true=xU l p:=by
 unfold lH xU gone
 congr 1
 funext x;cases decide (x.1=p)<;>cases cO (parts x.1) (parts p)<;>rfl
theorem DE(p:Pt):Rt (cB p).2.1:=by
 have hnil:Rt []:=⟨fun x hx=>(by cases hx),(by simp),(by simp[aO])⟩;unfold cB;split
 ·rename_i hc;dsimp only;split
  ·rename_i hm;exact(Ru hc hm).2
  ·split
   ·exact Ti (HY hc)
   ·split
    ·exact HY hc
    ·exact hnil
 ·exact hnil
def DF(t:List Nd)(p:Pt):List Nd:=if(cB p).1=1 then xU t (aO (cB p).2.1) else if(cB p).1=2 then lH t (aO (cB p).2.1) false else t
theorem BH{t:List Nd}(h:Valid t)(p:Pt):Valid (DF t p):=by
 unfold DF;split
 ·exact V0 h _
 ·split
  ·exact Og h _
  ·exact h
theorem Oh{t:List Nd}(h:Valid t)(p:List UInt8)(hp:p.length≤4096):sI (t,(p,()))=some (xU t p,()):=by
 obtain⟨b,b1,b2⟩:=uc t (vB h);unfold sI;dsimp only;rw[b1,aa,b2.2 h];dsimp only;rw[aJ,af,Du t p true (vB h) hp,aa,Tj]
theorem P8{t:List Nd}(h:Valid t)(p:List UInt8)(hp:p.length≤4096):uM (t,(p,()))=some (lH t p false,()):=by
 obtain⟨b,b1,b2⟩:=uc t (vB h);unfold uM;dsimp only;rw[b1,aa,b2.2 h];dsimp only;rw[aJ,af,Du t p false (vB h) hp,aa]
theorem abF{α β:Type}(f:β→α→β)(l:List α)(b:β){i:Nat}{x:α}(hx:l[i]?=some x):(l.take (i+1)).foldl f b=f ((l.take i).foldl f b) x:=by
 rw[TQ,hx,List.foldl_append];rfl
theorem P9(l0:List Nd)(l:List Pt)(hl:ae0 l)(ht:Valid l0):Loop (oN (l0,(l,()))) ((l0,((0:Int),())),())=some ((l.foldl DF l0,((l.length:Int),())),()):=by
 have h10:=hl.1;obtain⟨t,h0,h1,_⟩:=Jn (f:=oN (l0,(l,()))) l (fun(t:List Nd) i=>((t,(i,())),())) (fun t _ x=>DF t x) (fun t=>((t,((l.length:Int),())),())) (fun t i=>t=(l.take i).foldl DF l0∧Valid t) (by omega) (fun t i x hx hi Lt hI=>by
  have hsh:=DE x;constructor
  ·unfold oN;dsimp only;rw[au hi,ag,aB hx,aa,DA x (hl.2 x (gm hx)),aa,Lt];dsimp only;rw[Oh hI.2 _ (by have:=hsh.2.2;omega),aa,P8 hI.2 _ (by have:=hsh.2.2;omega),aa];unfold DF;by_cases h1:(cB x).1=1
   ·rw[aP h1,bu h1];rfl
   ·rw[aM h1,br h1];by_cases h2:(cB x).1=2
    ·rw[aP h2,bu h2];rfl
    ·rw[aM h2,br h2];rfl
  ·exact⟨by rw[abF DF l l0 hx,←hI.1],BH hI.2 x⟩) (fun t _=>by
  unfold oN;dsimp only;rw[aE,af];rfl) l0 ⟨rfl,ht⟩
 rw[GJ] at h0;rw[←h0.1];exact h1
end Go.Ge
namespace Go.Ge
variable [Lp]
theorem xW{t:List Nd}{n:Nd}(h:(cw t n).2=0):Valid (cw t n).1:=by
 rcases Oc t n with ⟨_,h2⟩|⟨h1,h2,h3,r,h4,h5,h6⟩
 ·exact absurd h h2
 ·rw[h6];exact Rs h1 h2 h3 h4 h5
def jj:List (List UInt8)→List UInt8→List Nd→List Nd×Int
 | [],_,t=>(t,0)
 | nm::r,at',t =>
   if(findF t (vv at' nm)).2.1=true∧(findF t (vv at' nm)).1.2.1=2 then jj r (vv at' nm) t
   else if(cw t (mu 493 (vv at' nm))).2=0 then jj r (vv at' nm) (cw t (mu 493 (vv at' nm))).1
   else([],(cw t (mu 493 (vv at' nm))).2)
theorem Kv:∀(r:List (List UInt8)) (a:List UInt8) (t:List Nd),Valid t→(jj r a t).2=0→Valid (jj r a t).1:=by
 intro r;induction r with
 | nil=>intro a t h _;exact h
 | cons nm r ih =>
   intro a t h h2;unfold jj at h2⊢;split at h2
   ·rename_i hc;rw[bu hc];exact ih _ _ h h2
   ·rename_i hc;rw[br hc];split at h2
    ·rename_i hp;rw[bu hp];exact ih _ _ (xW hp) h2
    ·rename_i hp;exact absurd h2 hp
abbrev DS:=((List Nd×(List Nd×(Int×(List UInt8×(Int×Unit)))))×Unit)
theorem ae1{f:DS→Option (DS⊕(Nat×DS))}(ns:List (List UInt8))(h:Rt ns)(n:Nat)(hn:n≤ns.length)
  (hstep:∀(i:Nat) (x:List UInt8) (t:List Nd),i<n→ns[i]?=some x→Valid t →
   f ((t,([],((0:Int),(aO (ns.take i),((i:Int),()))))),()) =
    some (if(findF t (fZ ns i)).2.1=true∧(findF t (fZ ns i)).1.2.1=2 then .inl ((t,([],((0:Int),(fZ ns i,(((i+1:Nat):Int),()))))),())
     else if(cw t (mu 493 (fZ ns i))).2=0 then .inl (((cw t (mu 493 (fZ ns i))).1,([],((0:Int),(fZ ns i,(((i+1:Nat):Int),()))))),())
     else .inr (1,((t,([],((cw t (mu 493 (fZ ns i))).2,(fZ ns i,((i:Int),()))))),()))))
  (hend:∀(t:List Nd) (a:List UInt8),f ((t,([],((0:Int),(a,((n:Int),()))))),())=some (.inr (0,((t,([],((0:Int),(a,((n:Int),()))))),())))) :
  ∀(d i:Nat) (t:List Nd),i+d=n→Valid t→∃z,Loop f ((t,([],((0:Int),(aO (ns.take i),((i:Int),()))))),())=some z ∧
   (((jj ((ns.take n).drop i) (aO (ns.take i)) t).2=0∧z.1=0∧z.2.1.1=(jj ((ns.take n).drop i) (aO (ns.take i)) t).1) ∨
    ((jj ((ns.take n).drop i) (aO (ns.take i)) t).2≠0∧z.1=1∧z.2.1.2.1=[]∧z.2.1.2.2.1=(jj ((ns.take n).drop i) (aO (ns.take i)) t).2)):=by
 intro d;induction d with
 | zero =>
   intro i t hi hv;obtain rfl:i=n:=by omega
   refine⟨_,by rw[aX,hend];rfl,.inl ?_⟩;rw[Mj (by rw[cW];omega)];exact⟨rfl,rfl,rfl⟩
 | succ d ih =>
   intro i t hi hv;have hx:ns[i]?=some ns[i]:=kL (by omega);have hs:=hstep i ns[i] t (by omega) hx hv;have V1:(ns.take n).drop i=ns[i]::(ns.take n).drop (i+1):=by
    rw[CD (by rw[cW];omega),acS]
   have hj:=xV h.1 hx;rw[V1];unfold jj;rw[hj];have Lr:fZ ns i=aO (ns.take (i+1)):=rfl;split
   ·rename_i hc;rw[bu hc] at hs;obtain⟨z,z1,z2⟩:=ih (i+1) t (by omega) hv;refine⟨z,?_,by rw[Lr];exact z2⟩;rw[aX,hs];exact z1
   ·rename_i hc;rw[br hc] at hs;split
    ·rename_i hp;rw[bu hp] at hs;obtain⟨z,z1,z2⟩:=ih (i+1) _ (by omega) (xW hp);refine⟨z,?_,by rw[Lr];exact z2⟩;rw[aX,hs];exact z1
    ·rename_i hp;rw[br hp] at hs;refine⟨_,by rw[aX,hs];rfl,.inr ⟨hp,rfl,rfl,rfl⟩⟩
theorem aiU(m:Int){ns:List (List UInt8)}(h:Rt ns)(i:Nat):Sm (mu m (fZ ns i)):=⟨h.BF (i+1),by simp[mu],by simp[mu]⟩
def xX(ns:List (List UInt8))(t:List Nd)(n:Nd):List Nd×Int:=if(jj ns.dropLast [] t).2=0 then cw (jj ns.dropLast [] t).1 n else([],(jj ns.dropLast [] t).2)
theorem V2{ns:List (List UInt8)}(h:Rt ns){t:List Nd}(hv:Valid t):wK (t,(aO ns,()))=some ((if(jj ns.dropLast [] t).2=0 then(jj ns.dropLast [] t).1 else []),((jj ns.dropLast [] t).2,())):=by
 unfold wK;dsimp only;rw[iD _ (by have:=h.2.2;omega),aa,oH _ h.1];have hlt:ns.take (ns.length-1)=ns.dropLast:=List.dropLast_eq_take.symm;obtain⟨z,z1,z2⟩:=ae1 (f:=mL (ns,())) ns h (ns.length-1) (by omega) (fun i x u hi hx hu=>by
  have hus:=vB hu;have hxl:=h.ZU (gm hx);have hpl:=h.BF i;have apq:=h.BF (i+1);have h16:=h.2.1;unfold mL;dsimp only;rw[aY (by omega),au (show i+1<ns.length by omega),ag,aB hx,aa,BA _ _ (by omega) (by omega),aa,xV h.1 hx];dsimp only;rw[VZ u _ hus hu,aa];have hp:=Dw u (mu 493 (fZ ns i)) hus (aiU 493 h i);rw[show oM (u,((fZ ns i,((2:Int),((493:Int),(([]:List UInt8),(([]:List UInt8),()))))),()))=_ from hp,aa];dsimp only;by_cases hf:(findF u (fZ ns i)).2.1=true
  ·by_cases hk:(findF u (fZ ns i)).1.2.1=2
   ·rw[hf,aP hk,bu ⟨rfl,hk⟩];rfl
   ·rw[hf,aM hk,br (fun q=>hk q.2)];by_cases he:(cw u (mu 493 (fZ ns i))).2=0
    ·rw[aP he,bu he];rfl
    ·rw[aM he,br he];rfl
  ·rw[show(findF u (fZ ns i)).2.1=false by simpa using hf,br (fun q=>by cases q.1)];by_cases he:(cw u (mu 493 (fZ ns i))).2=0
   ·rw[aP he,bu he];rfl
   ·rw[aM he,br he];rfl) (fun u a=>by
  unfold mL;dsimp only;have h16:=h.2.1;rw[aY (by omega),show bB ((ns.length-1+1:Nat):Int) (len ns)=false from aH (by unfold len;omega),af]) (ns.length-1) 0 t (by omega) hv
 rw[FO,hlt] at z2;rw[show Loop (mL (ns,())) ((t,(([]:List Nd),((0:Int),(([]:List UInt8),((0:Int),()))))),())=_ from z1,aa];have ht0:aO (ns.take 0)=[]:=by simp[aO]
 rw[ht0] at z2;rcases z2 with ⟨a1,a2,a3⟩|⟨a1,a2,a3,a4⟩
 ·rw[a2,show fT 0 0=true from rfl,ag,a3,bu a1,a1]
 ·rw[a2,show fT 1 0=false from rfl,af,a3,a4,br a1]
end Go.Ge
namespace Go.Ge
variable [Lp]
def sS(t:List Nd)(p:Pt):List Nd×Int:=if(cB p).1=0∧(cB p).2.1≠[] then xX (cB p).2.1 t (nE p (aO (cB p).2.1)) else(t,0)
def zS:List Pt→List Nd→List Nd×Int
 | [],t=>(t,0)
 | p::r,t=>if(sS t p).2=0 then zS r (sS t p).1 else([],(sS t p).2)
theorem V3{ns:List (List UInt8)}{t:List Nd}{n:Nd}(h:(xX ns t n).2=0):Valid (xX ns t n).1:=by
 unfold xX at h⊢;split at h
 ·rename_i hd;rw[bu hd];exact xW h
 ·rename_i hd;exact absurd h hd
theorem zb{t:List Nd}{p:Pt}(hv:Valid t)(h:(sS t p).2=0):Valid (sS t p).1:=by
 unfold sS at h⊢;split at h
 ·rename_i hc;rw[bu hc];exact V3 h
 ·rename_i hc;rw[br hc];exact hv
theorem Gs:∀(l:List Pt) (t:List Nd),Valid t→(((zS l t).2=0∧Valid (zS l t).1)∨((zS l t).2≠0∧(zS l t).1=[])):=by
 intro l;induction l with
 | nil=>intro t h;exact .inl ⟨rfl,h⟩
 | cons p r ih =>
   intro t h;unfold zS;split
   ·rename_i hp;exact ih _ (zb h hp)
   ·rename_i hp;exact .inr ⟨hp,rfl⟩
theorem agV{p:Pt}(hp:SmP p){ns:List (List UInt8)}(h:Rt ns):Sm (nE p (aO ns)):=⟨h.2.2,hp.2.1,hp.2.2⟩
theorem runs{S R:Type}{f:S→Option (S⊕R)}(l:List Pt)(mk:List Nd→Nat→S)(fin:List Nd→R)(err:Int→List Nd→Nat→R)
  (hstep:∀(i:Nat) (x:Pt) (t:List Nd),l[i]?=some x→Valid t→f (mk t i)=some (if(sS t x).2=0 then .inl (mk (sS t x).1 (i+1)) else .inr (err (sS t x).2 t i)))
  (hend:∀t,f (mk t l.length)=some (.inr (fin t))) :
  ∀(d i:Nat) (t:List Nd),i+d=l.length→Valid t→∃z,Loop f (mk t i)=some z ∧
   (((zS (l.drop i) t).2=0∧z=fin (zS (l.drop i) t).1)∨((zS (l.drop i) t).2≠0∧∃t' i',z=err (zS (l.drop i) t).2 t' i')):=by
 intro d;induction d with
 | zero =>
   intro i t hi hv;obtain rfl:i=l.length:=by omega
   refine⟨_,by rw[aX,hend];rfl,.inl ?_⟩;rw[T8];exact⟨rfl,rfl⟩
 | succ d ih =>
   intro i t hi hv;have hx:l[i]?=some l[i]:=kL (by omega);have hs:=hstep i l[i] t hx hv;rw[CD (by omega)];unfold zS;split
   ·rename_i hp;rw[bu hp] at hs;obtain⟨z,z1,z2⟩:=ih (i+1) _ (by omega) (zb hv hp);exact⟨z,by rw[aX,hs];exact z1,z2⟩
   ·rename_i hp;rw[br hp] at hs;exact⟨_,by rw[aX,hs];rfl,.inr ⟨hp,t,i,rfl⟩⟩
open Classical in
def pV(l:List Nd)(ps:List Pt):List Nd×Int:=if Valid l then(if lI ps=true then zS ps (ps.foldl DF l) else([],10)) else([],1)
theorem zd(ps:List Pt):∀(l:List Nd),Valid l→Valid (ps.foldl DF l):=by
 induction ps with
 | nil=>intro l h;exact h
 | cons p r ih=>intro l h;exact ih _ (BH h p)
theorem YA(l:List Nd)(ps:List Pt)(hl:Rp l)(hp:ae0 ps):yW (l,(ps,()))=some ((pV l ps).1,((pV l ps).2,())):=by
 obtain⟨e,c1,c2⟩:=uc l hl;have h1:=hl.1;have h2:=hp.1;unfold yW pV;dsimp only;rw[c1,aa];dsimp only;by_cases hv:Valid l
 ·rw[c2.2 hv,aJ,af,bu hv,DD ps hp,aa];dsimp only;by_cases ha:lI ps=true
  ·rw[bu ha,ha,aJ,af];have k1:=P9 l ps hp hv;have k2:=zd ps l hv;rw[k1,aa];dsimp only;obtain⟨z,z1,z2⟩:=runs (f:=oO (l,(ps,()))) ps (fun t i=>((t,([],((0:Int),((i:Int),())))),())) (fun t=>(0,((t,([],((0:Int),((ps.length:Int),())))),()))) (fun e t i=>(1,((t,([],(e,((i:Int),())))),()))) (fun i x t hx hu=>by
    have hi:=aI hx;have hpx:=hp.2 x (gm hx);have hsh:=DE x;unfold oO;dsimp only;rw[au hi,ag,aB hx,aa,DA x hpx,aa,aY (by omega)];dsimp only;rw[V2 hsh hu,aa,aa];unfold sK;dsimp only;rw[aa];dsimp only;by_cases h0:(cB x).1=0
    ·have hj:=Ev hsh.1;by_cases hn:(cB x).2.1=[]
     ·have hpf:sS t x=(t,0):=by unfold sS;rw[br (fun q=>q.2 hn)]
      rw[hpf,aP h0,gH (hj.2 hn)];rfl
     ·have hpf:sS t x=xX (cB x).2.1 t (nE x (aO (cB x).2.1)):=by unfold sS;rw[bu ⟨h0,hn⟩]
      rw[hpf,aP h0,cJ (fun q=>hn (hj.1 q))];rw[show ∀(A B:Option ((((List Nd)×(List Nd)×Int×Int×Unit)×Unit)⊕(Nat×((List Nd)×(List Nd)×Int×Int×Unit)×Unit))),aj (aj (nt (nt true)) false true) A B=B from fun A B=>rfl];by_cases hd:(jj (cB x).2.1.dropLast [] t).2=0
      ·have hnf:xX (cB x).2.1 t (nE x (aO (cB x).2.1))=cw (jj (cB x).2.1.dropLast [] t).1 (nE x (aO (cB x).2.1)):=by unfold xX;rw[bu hd]
       have QO:=Kv _ _ _ hu hd;have hput:=Dw (jj (cB x).2.1.dropLast [] t).1 (nE x (aO (cB x).2.1)) (vB QO) (agV hpx hsh);rw[hnf,aP hd,bu hd,aJ,af];rw[show oM ((jj (cB x).2.1.dropLast [] t).1,((aO (cB x).2.1,(x.1.2.1,(x.1.2.2.1,(x.2.1,(x.1.2.2.2.2.2.2.2.1,()))))),()))=_ from hput,aa];dsimp only;by_cases he:(cw (jj (cB x).2.1.dropLast [] t).1 (nE x (aO (cB x).2.1))).2=0
       ·rw[aP he,bu he];rfl
       ·rw[aM he,br he];rfl
      ·have hnf:xX (cB x).2.1 t (nE x (aO (cB x).2.1))=([],(jj (cB x).2.1.dropLast [] t).2):=by unfold xX;rw[br hd]
       rw[hnf,aM hd,br hd,br hd];rfl
    ·have hpf:sS t x=(t,0):=by unfold sS;rw[br (fun q=>h0 q.1)]
     rw[hpf,aM h0];rfl) (fun t=>by
    unfold oO;dsimp only;rw[aE,af]) ps.length 0 (ps.foldl DF l) (by omega) k2
   rw[FO] at z2;rw[show Loop (oO (l,(ps,()))) ((ps.foldl DF l,([],((0:Int),((0:Int),())))),())=_ from z1,aa];rcases z2 with ⟨a1,a2⟩|⟨a1,t',i',a2⟩
   ·rw[a2,a1];rfl
   ·rw[a2];rcases Gs ps _ k2 with ⟨b1,_⟩|⟨_,b2⟩
    ·exact absurd b1 a1
    ·rw[b2];rfl
  ·rw[br ha,show lI ps=false by simpa using ha];rfl
 ·have:e=false:=by
   cases e with
   | false=>rfl
   | true=>exact absurd (c2.1 rfl) hv
  rw[this,br hv];rfl
end Go.Ge
namespace Go.Ge
variable [Lp]
def rd0:Rd:=(false,([],(0,(false,(false,())))))
abbrev Ns:=(Bool×Int×Unit)×(Unit×Unit×Unit)×Rd×Unit
def ns(k:Int):Ns:=((false,(k,())),(((),((),())),(rd0,())))
end Go.Ge
namespace Go.Ge
variable [Lp]
theorem YB:kC (vI 1024,())=some ([],(0,())):=by
 have hz:∀x∈vI 1024,x=0:=agQ _;have hl:(vI 1024).length=1024:=xT _;unfold kC;dsimp only;rw[aH (show len (vI 1024)≤8192 by unfold len;omega)];rw[show bY ((),((true,(vI 1024,((0:Int),(false,(false,()))))),()))=_ from JG (vI 1024) 0 (by omega) (by omega) (fun x hx=>hz x (O1 hx)),fo ⟨by omega,by omega,hz⟩,aa];dsimp only;rw[aX,w9];rfl
end Go.Ge
namespace Go.Ge
variable [Lp]
def Has(t:List Nd)(p:List UInt8):Prop:=p=[]∨∃x∈t,x.1=p∧x.2.1=2
theorem V4{t:List Nd}{n:Nd}(hv:Valid t)(hm:lG n=true)(h:Has t (bM n.1).1):((cw t n).2=0∧n∈(cw t n).1)∨(cw t n).2=5:=by
 unfold cw;rw[br (show ¬(¬Valid t∨lG n=false) from fun q=>q.elim (fun q=>q hv) (fun q=>by rw[hm] at q;cases q))];have h3:¬((bM n.1).1≠[]∧∀x∈t,x.1≠(bM n.1).1):=fun q=>by
  rcases h with h|⟨x,hx,e,_⟩
  ·exact q.1 h
  ·exact q.2 x hx e
 have h12:¬((bM n.1).1≠[]∧∀x∈t,x.1=(bM n.1).1→x.2.1≠2):=fun q=>by
  rcases h with h|⟨x,hx,e,k⟩
  ·exact q.1 h
  ·exact q.2 x hx e k
 rw[br h3,br h12];have key:∀r:List Nd,((if 64≤r.length then(([]:List Nd),(5:Int)) else(yy r n,0)).2=0∧n∈(if 64≤r.length then(([]:List Nd),(5:Int)) else(yy r n,0)).1)∨(if 64≤r.length then(([]:List Nd),(5:Int)) else(yy r n,0)).2=5:=fun r=>by
  split
  ·exact .inr rfl
  ·exact .inl ⟨rfl,vA.2 (.inl rfl)⟩
 exact key _
theorem abG{t:List Nd}{p:List UInt8}(h:(findF t p).2.1=true):(findF t p).1∈t∧(findF t p).1.1=p:=by
 unfold findF at h⊢;cases hf:t.find? fun x=>decide (x.1=p) with
 | none=>rw[hf] at h;cases h
 | some x=>exact⟨WE hf,by have:=Mq hf;simpa using this⟩
theorem ae2{p:List UInt8}(h:lG (mu 0 p)=true):lG (mu 493 p)=true:=by
 unfold lG at h⊢;simp only[dW] at h⊢;exact⟨⟨⟨h.1.1.1,by simp[mu]⟩,by simp[mu]⟩,by simp[ZS,mu]⟩
theorem abH{ns:List (List UInt8)}(h:Rt ns)(n:Nat)(hn:n≤ns.length)(hm:preB ns n=true):∀(d i:Nat) (t:List Nd),i+d=n→Valid t→Has t (aO (ns.take i)) →
  ((jj ((ns.take n).drop i) (aO (ns.take i)) t).2=0∧Has (jj ((ns.take n).drop i) (aO (ns.take i)) t).1 (aO (ns.take n)))∨(jj ((ns.take n).drop i) (aO (ns.take i)) t).2=5:=by
 intro d;induction d with
 | zero =>
   intro i t hi hv hh;obtain rfl:i=n:=by omega
   rw[Mj (by rw[cW];omega)];exact .inl ⟨rfl,hh⟩
 | succ d ih =>
   intro i t hi hv hh;have hx:ns[i]?=some ns[i]:=kL (by omega);have V1:(ns.take n).drop i=ns[i]::(ns.take n).drop (i+1):=by
    rw[CD (by rw[cW];omega),acS]
   have hj:=xV h.1 hx;have Lr:fZ ns i=aO (ns.take (i+1)):=rfl;rw[V1];unfold jj;rw[hj];split
   ·rename_i hc;obtain⟨m1,m2⟩:=abG hc.1;rw[Lr];exact ih (i+1) t (by omega) hv (.inr ⟨_,m1,by rw[m2,Lr],hc.2⟩)
   ·have hmay:lG (mu 493 (fZ ns i))=true:=by
     unfold preB at hm;rw[Cx] at hm;exact ae2 (hm i (List.mem_range.2 (by omega)))
    have hroom:=V4 hv hmay (by
     show Has t (bM (fZ ns i)).1
     rw[Yx h.1 (by omega)];exact hh)
    split
    ·rename_i hp;rcases hroom with ⟨_,hmem⟩|h5
     ·rw[Lr];exact ih (i+1) _ (by omega) (xW hp) (.inr ⟨_,hmem,rfl,rfl⟩)
     ·rw[h5] at hp;cases hp
    ·rename_i hp;rcases hroom with ⟨h0,_⟩|h5
     ·exact absurd h0 hp
     ·exact .inr h5
theorem abI{ns:List (List UInt8)}(h:Rt ns){n:Nd}(hn:n.1=aO ns)(hm:lG n=true)(hp:Dy ns=true){t:List Nd}(hv:Valid t):(xX ns t n).2=0∨(xX ns t n).2=5:=by
 have hlt:ns.take (ns.length-1)=ns.dropLast:=List.dropLast_eq_take.symm;have hpre:preB ns (ns.length-1)=true:=by
  unfold Dy at hp;simp only[dW,nY] at hp;rw[agT hp.2] at hp;simp only[dW] at hp;exact hp.1.1
 have hd:=abH h (ns.length-1) (by omega) hpre (ns.length-1) 0 t (by omega) hv (.inl (by simp[aO]));have ht0:aO (ns.take 0)=[]:=by simp[aO]
 rw[FO,hlt,ht0] at hd;unfold xX;rcases hd with ⟨d0,d1⟩|d5
 ·rw[bu d0];have QO:=Kv _ _ _ hv d0;rcases V4 QO hm (by rw[hn,Kt h.1];exact d1) with ⟨p0,_⟩|p5
  ·exact .inl p0
  ·exact .inr p5
 ·rw[br (by rw[d5];decide)];exact .inr d5
theorem YC{p:Pt}(hok:(cB p).2.2=true)(h0:(cB p).1=0)(hn:(cB p).2.1≠[]):lG (nE p (aO (cB p).2.1))=true∧Dy (cB p).2.1=true:=by
 have key:∀(ns:List (List UInt8)) (q:Bool),ns≠[]→((decide (ns=[])&&q)||(lG (nE p (aO ns))&&Dy ns))=true→lG (nE p (aO ns))=true∧Dy ns=true:=fun ns q hne hq=>by
  rw[dJ hne,Bool.false_and,JX,dW] at hq;exact hq
 unfold cB at hok h0 hn⊢;split at h0
 ·rename_i hc;rw[bu hc] at hok hn⊢;dsimp only at hok h0 hn⊢;split at h0
  ·cases h0
  ·rename_i h1;rw[br h1] at hok hn⊢;split at h0
   ·cases h0
   ·rename_i h2;rw[br h2] at hok hn⊢;split at h0
    ·rename_i h3;rw[bu h3] at hok hn⊢;exact key _ _ hn hok
    ·rename_i h3;rw[br h3] at hn;exact absurd rfl hn
 ·rename_i hc;rw[br hc] at hn;exact absurd rfl hn
theorem V5:∀(ps:List Pt) (t:List Nd),lI ps=true→Valid t→(zS ps t).2=0∨(zS ps t).2=5:=by
 intro ps;induction ps with
 | nil=>intro t _ _;exact .inl rfl
 | cons p r ih =>
   intro t ha hv;unfold lI at ha;simp only[QF,dW] at ha;unfold zS;split
   ·rename_i hp;exact ih _ ha.2 (zb hv hp)
   ·rename_i hp;right;show(sS t p).2=5
    unfold sS at hp⊢;split
    ·rename_i hc;rw[bu hc] at hp;obtain⟨m1,m2⟩:=YC ha.1 hc.1 hc.2;rcases abI (DE p) (n:=nE p (aO (cB p).2.1)) rfl m1 m2 hv with h0|h5
     ·exact absurd h0 hp
     ·exact h5
    ·rename_i hc;rw[br hc] at hp;exact absurd rfl hp
theorem agW{l:List Pt}(h1:l.length≤64)(h2:∀q∈l,RdP q):ae0 l:=⟨by omega,fun p hp=>h2 p hp⟩
end Go.Ge
