/- Plain laws of what the functions compute: part 3. -/
import Derived.Test.YtbaijbjhkmoidaaGreatDoorPlB
set_option linter.unusedSectionVars false
set_option linter.unusedVariables false
set_option linter.unusedSimpArgs false
noncomputable section
namespace Go.Ge
variable [Lp]
variable {m:Nat}
def BS(nm:Tx)(x:rD):Bool:=x.2.2.2.2.2.2.1&&decide (fG x.2.2.2.1 x.2.2.2.2.2.1=nm)
def qN(l:List rD)(nm:Tx)(i:Nat):Prop:=(∃x,l[i]?=some x∧BS nm x=true)∧∀(j:Nat) (y:rD),j<i→l[j]?=some y→BS nm y=false
def Mv(l:List rD)(nm:Tx):Prop:=∀(j:Nat) (y:rD),l[j]?=some y→BS nm y=false
theorem qN.one{l:List rD}{nm:Tx}{i j:Nat}(h:qN l nm i)(k:qN l nm j):i=j:=by
 obtain⟨⟨x,hx,px⟩,h2⟩:=h;obtain⟨⟨y,hy,py⟩,k2⟩:=k;rcases Nat.lt_trichotomy i j with q|q|q
 ·have:=k2 i x q hx;rw[px] at this;cases this
 ·exact q
 ·have:=h2 j y q hy;rw[py] at this;cases this
theorem qN.no{l:List rD}{nm:Tx}{i:Nat}(h:qN l nm i)(k:Mv l nm):False:=by
 obtain⟨⟨x,hx,px⟩,_⟩:=h;have:=k i x hx;rw[px] at this;cases this
theorem FE(l:List rD)(hl:l.length≤1000)(hf:∀x∈l,AQ x)(diff:Tx)(c0:s6)(nm:Tx)(hn:nm≠[]) :
  (∃i:Nat,qN l nm i∧Loop (cW ((l,(diff,())),(c0,()))) (((0:Int),((0:Int),())),(nm,()))=some (1,(((i:Int),((i:Int),())),(nm,())))) ∨
   (Mv l nm∧∃j:Int,Loop (cW ((l,(diff,())),(c0,()))) (((0:Int),((0:Int),())),(nm,()))=some (0,(((0:Int),(j,())),(nm,())))):=by
 rcases PK (f:=cW ((l,(diff,())),(c0,()))) l (fun j=>(((0:Int),(j,())),(nm,()))) (fun _ x=>BS nm x) (fun i _=>(1,(((i:Int),((i:Int),())),(nm,())))) (0,(((0:Int),((l.length:Int),())),(nm,()))) (by omega)
  (fun i x hx hi p9=>by
   have NS:=hf x (D5 hx);unfold cW;dsimp only;rw[ga hi,af];refine ob (bu hx) ?_;unfold BS;cases hd:x.2.2.2.2.2.2.1 with
   | false=>rw[ag,p9];rfl
   | true =>
     rw[af,ic hn,aP,af];refine ob (mC NS.1 NS.2) ?_;dsimp only;by_cases q:fG x.2.2.2.1 x.2.2.2.2.2.1=nm
     ·rw[jB q,af,Ba q];rfl
     ·rw[ic q,ag,yc q,p9];rfl)
  (by
   unfold cW;dsimp only;rw[mq,ag]) with ⟨i,x,hx,hp,hj,e⟩|⟨ha,e⟩
 ·exact .inl ⟨i,⟨⟨x,hx,hp⟩,hj⟩,e⟩
 ·exact .inr ⟨ha,_,e⟩
theorem Mw(l:List rD)(hl:l.length≤1000)(hf:∀x∈l,AQ x)(diff:Tx)(d0:xk)(dg:Tx)(FQ:dg.length≤1048576)(y2:(Int×Bool×Int×Int×Unit)×(Unit×Unit×Int×rB×Bool×Bool×Unit)×List rB×List tr×Unit)(hk:AO y2.1.2.2.2.1) :
  ∀(n:Nat) (a:Int),n≤l.length →
   (∃i:Nat,i<n∧qN l (fG dg y2.1.2.2.2.1) i∧Loop (ec ((l,(diff,())),(d0,())) (dg,()) y2) ((a,((n:Int)-1,())),())=some (((i:Int),((-1:Int),())),())) ∨
    ((∀j y,j<n→l[j]?=some y→BS (fG dg y2.1.2.2.2.1) y=false)∧Loop (ec ((l,(diff,())),(d0,())) (dg,()) y2) ((a,((n:Int)-1,())),())=some ((a,((-1:Int),())),())):=by
 intro n;induction n with
 | zero =>
   intro a _;right;refine⟨fun j y hj=>absurd hj (Nat.not_lt_zero _),?_⟩;rw[cL,show ec ((l,(diff,())),(d0,())) (dg,()) y2 ((a,(((0:Nat):Int)-1,())),())=some (.inr ((a,((-1:Int),())),())) from by
    unfold ec;dsimp only;rw[p8 (by omega),ag];rfl]
   rfl
 | succ n ih =>
   intro a hn;have hx:l[n]?=some l[n]:=qV (by omega);have NS:=hf l[n] (II _);have hstep:ec ((l,(diff,())),(d0,())) (dg,()) y2 ((a,(((n+1:Nat):Int)-1,())),())=some (.inl (((if BS (fG dg y2.1.2.2.2.1) l[n]=true then(n:Int) else a),((n:Int)-1,())),())):=by
    unfold ec;dsimp only;rw[show((n+1:Nat):Int)-1=(n:Int) by omega,kG (by omega),af,show dn IntKind.i64 (n:Int) 1=(n:Int)-1 from dI (by omega) (by omega)];rw[show(∀{β:Type} (f:rD→Option β),ah (@idx rD l (n:Int)) f=f l[n]) from fun f=>ob (bu hx) rfl];unfold BS;cases hd:l[n].2.2.2.2.2.2.1 with
    | false=>rw[ag];rfl
    | true =>
      rw[af];rw[show(∀{β:Type} (f:rD→Option β),ah (@idx rD l (n:Int)) f=f l[n]) from fun f=>ob (bu hx) rfl];rw[show(∀{β:Type} (f:rD→Option β),ah (@idx rD l (n:Int)) f=f l[n]) from fun f=>ob (bu hx) rfl];rw[show(∀{β:Type} (f:Tx×Unit→Option β),ah (fZ (l[n].2.2.2.1,(l[n].2.2.2.2.2.1,()))) f=f (fG l[n].2.2.2.1 l[n].2.2.2.2.2.1,())) from fun f=>ob (sy NS.1 NS.2) rfl];rw[show(∀{β:Type} (f:Tx×Unit→Option β),ah (fZ (dg,(y2.1.2.2.2.1,()))) f=f (fG dg y2.1.2.2.2.1,())) from fun f=>ob (sy FQ hk) rfl];dsimp only;by_cases q:fG l[n].2.2.2.1 l[n].2.2.2.2.2.1=fG dg y2.1.2.2.2.1
      ·rw[jB q,af,Ba q];rfl
      ·rw[ic q,ag,yc q];rfl
   rw[cL,hstep];show _∨(_∧Loop _ _=_)
   rcases ih (if BS (fG dg y2.1.2.2.2.1) l[n]=true then(n:Int) else a) (by omega) with ⟨i,hi,RP,e⟩|⟨ha,e⟩
   ·exact .inl ⟨i,by omega,RP,e⟩
   ·by_cases q:BS (fG dg y2.1.2.2.2.1) l[n]=true
    ·refine .inl ⟨n,by omega,⟨⟨_,hx,q⟩,ha⟩,?_⟩;rw[ek q] at e⊢;exact e
    ·refine .inr ⟨fun j y hj hy=>?_,?_⟩
     ·by_cases hjn:j=n
      ·subst hjn;rw[hx] at hy;cases hy;simpa using q
      ·exact ha j y (by omega) hy
     ·rw[cT q] at e⊢;exact e
abbrev Iz(diff:Tx)(r:Int×Bool×Int×Int×Unit)(i:Nat)(c:s6):(Int×Bool×Int×Int×Unit)×PZ×(Bool×Unit×Int×Bool×Bool×rB×Unit)×M5×Unit:=(r,(SZ diff i,((Qo c).1,(c.2.1,()))))
abbrev Mx(r:Int×Bool×Int×Int×Unit)(d:xk):(Int×Bool×Int×Int×Unit)×(Unit×Unit×Int×rB×Bool×Bool×Unit)×List rB×List tr×Unit:=(r,((Qp d).1,(d.1,(d.2.1,()))))
def rK(k:Nat):Int×Bool×Int×Int×Unit:=((0:Int),(false,((0:Int),((k:Int),()))))
set_option maxHeartbeats 400000 in
theorem FF(l:List rD)(hl:l.length≤1000)(hf:∀x∈l,AQ x)(diff:Tx)(hd:diff.length≤1048576)(c0:s6)(d0:xk)(k i:Nat)(hk:k≤32){c:s6}{d:xk}(h:rC m c d) :
  (∃r i' c' d',bV ((l,(diff,())),(c0,())) (Iz diff (rK k) i c)=some (.inr (1,Iz diff r i' c'))∧cF ((l,(diff,())),(d0,())) (kI diff,()) (Mx (rK k) d)=some (.inr (1,Mx r d'))∧rC m c' d') ∨
   (∃i' c' d',bV ((l,(diff,())),(c0,())) (Iz diff (rK k) i c)=some (.inl (Iz diff (rK (k+1)) i' c'))∧cF ((l,(diff,())),(d0,())) (kI diff,()) (Mx (rK k) d)=some (.inl (Mx (rK (k+1)) d'))∧rC m c' d'):=by
 have FQ:(kI diff).length≤1048576:=by rw[sx];omega
 have ED:AO (k:Int):=⟨by omega,by omega⟩;have hne:=Mu (AL diff) (k:Int);have p9:bA .i64 (k:Int) 1=((k+1:Nat):Int):=ck (by omega);have hP:∀(R:Option (((Int×Bool×Int×Int×Unit)×PZ×(Bool×Unit×Int×Bool×Bool×rB×Unit)×M5×Unit)⊕(Nat×(Int×Bool×Int×Int×Unit)×PZ×(Bool×Unit×Int×Bool×Bool×rB×Unit)×M5×Unit))),R=R:=fun _=>rfl;rcases Mw l hl hf diff d0 (kI diff) FQ (Mx (rK k) d) ED l.length (-1) (kS _) with ⟨JY,hlt,RP,eD⟩|⟨hno,eD⟩
 rotate_left
 ·
  rcases FE l hl hf diff c0 (fG (kI diff) (k:Int)) hne with ⟨j,hj,_⟩|⟨_,j,eC⟩
  ·exact(hj.no fun j y hy=>hno j y (mo hy) hy).elim
  left;refine⟨((k:Int),(false,((0:Int),((k:Int),())))),i+1,c,d,?_,?_,h⟩
  ·unfold bV rK;dsimp only;rw[bB (by omega),af];refine ob (mB diff hd i) ?_;refine ob (mC FQ ED) ?_;dsimp only;refine ob eC ?_;dsimp only;rw[show uQ 0 0=true from rfl,af]
  ·unfold cF rK;dsimp only;rw[kG (by omega),af,show dn IntKind.i64 (@len rD l) 1=(l.length:Int)-1 from dI (by unfold len;omega) (by unfold len;omega)];refine ob eD ?_;dsimp only;rw[bB (by omega),af]
 rcases FE l hl hf diff c0 (fG (kI diff) (k:Int)) hne with ⟨j,hj,eC⟩|⟨hno,_⟩
 rotate_left
 ·exact(RP.no hno).elim
 obtain rfl:JY=j:=RP.one hj;have hx:l[JY]?=some l[JY]:=qV hlt;have NS:=hf l[JY] (II _);by_cases qd:l[JY].2.2.2.1=kI diff
 rotate_left
 ·right;refine⟨i+2,c,d,?_,?_,h⟩
  ·unfold bV rK;dsimp only;rw[bB (by omega),af];refine ob (mB diff hd i) ?_;refine ob (mC FQ ED) ?_;dsimp only;refine ob eC ?_;dsimp only;rw[show uQ 1 0=false from rfl,ag,aH (by omega),ag];refine ob (bu hx) ?_;refine ob (mB diff hd (i+1)) ?_;dsimp only;rw[ic qd,aP,af,p9]
  ·unfold cF rK;dsimp only;rw[kG (by omega),af,show dn IntKind.i64 (@len rD l) 1=(l.length:Int)-1 from dI (by unfold len;omega) (by unfold len;omega)];refine ob eD ?_;dsimp only;rw[aH (by omega),ag];refine ob (bu hx) ?_;rw[ic qd,aP,aK,ag,aa,af,p9]
 by_cases ql:l[JY].2.2.2.2.1=(diff.length:Int)
 rotate_left
 ·right;refine⟨i+2,c,d,?_,?_,h⟩
  ·unfold bV rK;dsimp only;rw[bB (by omega),af];refine ob (mB diff hd i) ?_;refine ob (mC FQ ED) ?_;dsimp only;refine ob eC ?_;dsimp only;rw[show uQ 1 0=false from rfl,ag,aH (by omega),ag];refine ob (bu hx) ?_;refine ob (mB diff hd (i+1)) ?_;dsimp only;rw[jB qd,aK,ag];refine ob (bu hx) ?_;rw[show b9 l[JY].2.2.2.2.1 (@len UInt8 diff)=false from aF ql,aP,af,p9]
  ·unfold cF rK;dsimp only;rw[kG (by omega),af,show dn IntKind.i64 (@len rD l) 1=(l.length:Int)-1 from dI (by unfold len;omega) (by unfold len;omega)];refine ob eD ?_;dsimp only;rw[aH (by omega),ag];refine ob (bu hx) ?_;rw[jB qd,aK,aP,af];refine ob (ob (bu hx) rfl) ?_;rw[show b9 l[JY].2.2.2.2.1 (@len UInt8 diff)=false from aF ql,aP,af,p9]
 obtain⟨⟨s,e,u⟩,c1,d1,e1,f1,h1⟩:=Iy h l[JY] NS;have S0:∀(Q:Option (((Int×Bool×Int×Int×Unit)×PZ×(Bool×Unit×Int×Bool×Bool×rB×Unit)×M5×Unit)⊕(Nat×(Int×Bool×Int×Int×Unit)×PZ×(Bool×Unit×Int×Bool×Bool×rB×Unit)×M5×Unit))),
   (aO (nt (b9 e (0:Int))) (some (Sum.inr ((1:Nat),Iz diff ((0:Int),(false,(e,((k:Int),())))) (i+2) c1)))
    (aO (ig s diff) (some (Sum.inr ((1:Nat),Iz diff ((k:Int),(true,((0:Int),((k:Int),())))) (i+2) c1))) (some (Sum.inl (Iz diff (rK (k+1)) (i+2) c1))))=Q) →
   bV ((l,(diff,())),(c0,())) (Iz diff (rK k) i c)=Q:=by
  intro Q hQ;unfold bV rK;dsimp only;rw[bB (by omega),af];refine ob (mB diff hd i) ?_;refine ob (mC FQ ED) ?_;dsimp only;refine ob eC ?_;dsimp only;rw[show uQ 1 0=false from rfl,ag,aH (by omega),ag];refine ob (bu hx) ?_;refine ob (mB diff hd (i+1)) ?_;dsimp only;rw[jB qd,aK,ag];refine ob (bu hx) ?_;rw[show b9 l[JY].2.2.2.2.1 (@len UInt8 diff)=true from br ql,aK,ag];refine ob (bu hx) ?_;refine ob e1 ?_;dsimp only;rw[p9];exact hQ
 have S1:∀(Q:Option (((Int×Bool×Int×Int×Unit)×(Unit×Unit×Int×rB×Bool×Bool×Unit)×List rB×List tr×Unit)⊕(Nat×(Int×Bool×Int×Int×Unit)×(Unit×Unit×Int×rB×Bool×Bool×Unit)×List rB×List tr×Unit))),
   (aO (nt (b9 e (0:Int))) (some (Sum.inr ((1:Nat),Mx ((0:Int),(false,(e,((k:Int),())))) d1)))
    (aO (ig s diff) (some (Sum.inr ((1:Nat),Mx ((k:Int),(true,((0:Int),((k:Int),())))) d1))) (some (Sum.inl (Mx (rK (k+1)) d1))))=Q) →
   cF ((l,(diff,())),(d0,())) (kI diff,()) (Mx (rK k) d)=Q:=by
  intro Q hQ;unfold cF rK;dsimp only;rw[kG (by omega),af,show dn IntKind.i64 (@len rD l) 1=(l.length:Int)-1 from dI (by unfold len;omega) (by unfold len;omega)];refine ob eD ?_;dsimp only;rw[aH (by omega),ag];refine ob (bu hx) ?_;rw[jB qd,aK,aP,af];refine ob (ob (bu hx) rfl) ?_;rw[show b9 l[JY].2.2.2.2.1 (@len UInt8 diff)=true from br ql,aK,ag];refine ob (bu hx) ?_;refine ob f1 ?_;dsimp only;rw[p9];exact hQ
 by_cases qe:e=0
 rotate_left
 ·left;refine⟨((0:Int),(false,(e,((k:Int),())))),i+2,c1,d1,S0 _ ?_,S1 _ ?_,h1⟩
  ·rw[aF qe,aP,af]
  ·rw[aF qe,aP,af]
 by_cases qs:s=diff
 ·left;refine⟨((k:Int),(true,((0:Int),((k:Int),())))),i+2,c1,d1,S0 _ ?_,S1 _ ?_,h1⟩
  ·rw[br qe,aK,ag,jB qs,af]
  ·rw[br qe,aK,ag,jB qs,af]
 ·right;refine⟨i+2,c1,d1,S0 _ ?_,S1 _ ?_,h1⟩
  ·rw[br qe,aK,ag,ic qs,ag]
  ·rw[br qe,aK,ag,ic qs,ag]
theorem HA(l:List rD)(hl:l.length≤1000)(hf:∀x∈l,AQ x)(diff:Tx)(hd:diff.length≤1048576)(c0:s6)(d0:xk):∀(n k i:Nat),k+n=33→∀{c:s6} {d:xk},rC m c d →
  ∃q r i' c' d',(q=0∨q=1)∧Loop (bV ((l,(diff,())),(c0,()))) (Iz diff (rK k) i c)=some (q,Iz diff r i' c')∧Loop (cF ((l,(diff,())),(d0,())) (kI diff,())) (Mx (rK k) d)=some (q,Mx r d')∧rC m c' d':=by
 intro n;induction n with
 | zero =>
   intro k i hk c d h;obtain rfl:k=33:=by omega
   refine⟨0,rK 33,i,c,d,.inl rfl,?_,?_,h⟩
   ·rw[cL];rfl
   ·rw[cL];rfl
 | succ n ih =>
   intro k i hk c d h;rcases FF l hl hf diff hd c0 d0 k i (by omega) h with ⟨r,i',c',d',e,f,h'⟩|⟨i',c',d',e,f,h'⟩
   ·exact⟨1,r,i',c',d',.inr rfl,by rw[cL,e];rfl,by rw[cL,f];rfl,h'⟩
   ·obtain⟨q,r,i2,c2,d2,hq,e2,f2,h2⟩:=ih (k+1) i' (by omega) h';exact⟨q,r,i2,c2,d2,hq,by rw[cL,e];exact e2,by rw[cL,f];exact f2,h2⟩
theorem JZ(l:List rD)(hl:l.length≤1000)(hf:∀x∈l,AQ x)(diff:Tx)(hd:diff.length≤1048576){c:s6}{d:xk}(h:rC m c d) :
  Alike m (fY ((l,(diff,())),(c,()))) (jA ((l,(diff,())),(d,()))):=by
 obtain⟨q,r,i',c',d',hq,e,f,h'⟩:=HA l hl hf diff hd c d 33 0 0 rfl h;rcases hq with rfl|rfl
 ·refine⟨((0:Int),(false,((15:Int),()))),c',d',?_,?_,h'⟩
  ·unfold fY;refine ob e ?_;rfl
  ·unfold jA;refine ob (qc diff hd) ?_;refine ob f ?_;rfl
 ·refine⟨(r.1,(r.2.1,(r.2.2.1,()))),c',d',?_,?_,h'⟩
  ·unfold fY;refine ob e ?_;rfl
  ·unfold jA;refine ob (qc diff hd) ?_;refine ob f ?_;rfl
end Go.Ge
namespace Go.Ge
variable [Lp]
theorem P0:Lib.itoa 0=[48]:=by rw[show(0:Int)=((0:Nat):Int) from rfl,Lib.itoa_nonneg,JV (by decide)];rfl
theorem J0(c:s6):fY (([],(([120]:Tx),())),(c,()))=some (((0:Int),(false,((0:Int),()))),(c,())):=by
 have hd:([120]:Tx).length≤1048576:=by decide
 have FQ:(kI [120]).length≤1048576:=by rw[sx];omega
 have hl:Loop (bV (([],(([120]:Tx),())),(c,()))) (Iz [120] (rK 0) 0 c)=some (1,Iz [120] ((0:Int),(false,((0:Int),((0:Int),())))) 1 c):=by
  rw[cL,show bV (([],(([120]:Tx),())),(c,())) (Iz [120] (rK 0) 0 c)=some (.inr (1,Iz [120] ((0:Int),(false,((0:Int),((0:Int),())))) 1 c)) from by
   unfold bV rK;dsimp only;rw[bB (by omega),af];refine ob (mB [120] hd 0) ?_;refine ob (mC (k:=((0:Nat):Int)) FQ ⟨by decide,by decide⟩) ?_;dsimp only;refine ob (show Loop (cW (([],(([120]:Tx),())),(c,()))) (((0:Int),((0:Int),())),(fG (kI [120]) ((0:Nat):Int),()))=some (0,(((0:Int),((0:Int),())),(fG (kI [120]) ((0:Nat):Int),()))) from by
    generalize fG (kI [120]) ((0:Nat):Int)=nm;rw[cL,show cW (([],(([120]:Tx),())),(c,())) (((0:Int),((0:Int),())),(nm,()))=some (.inr (0,(((0:Int),((0:Int),())),(nm,())))) from by
     unfold cW;dsimp only;rw[show fE (0:Int) (@len rD [])=false from rfl,ag]]
    rfl) ?_
   dsimp only;rw[show uQ 0 0=true from rfl,af];rfl]
  rfl
 unfold fY;refine ob hl ?_;rfl
def Vl:s6:=(true,([],((0:Int),(false,(false,(O4 0 [] [] 0 0 [],()))))))
theorem My(p:Tx)(o:rB):fW ((p,()),((true,([],((0:Int),(false,(false,(o,())))))),()))=some (([],((14:Int),())),((true,([],((0:Int),(true,(true,(O4 4 p [] 0 0 [],())))))),())):=by
 rename_i i;obtain rfl:i=Lp.O9:=Lp.one _ _;kernel_rfl
theorem Oi(x:rD)(hx:AQ x)(o:rB):dH ((x,()),((true,([],((0:Int),(false,(false,(o,())))))),()))=some (([],((14:Int),())),((true,([],((0:Int),(true,(true,(O4 4 (xZ x.2.2.2.1 x.2.2.2.2.2.1) [] 0 0 [],())))))),())):=by
 unfold dH;refine ob (oe hx.1 hx.2) ?_;refine ob (My _ o) ?_;dsimp only;rw[aF (by decide),aP,af,aF (by decide),ag,aa,aa,ag,aP,af]
def Ko:Tx:=[115,104,97,50,53,54,58,50,100,55,49,49,54,52,50,98,55,50,54,98,48,52,52,48,49,54,50,55,99,97,57,102,98,97,99,51,50,102,53,99,56,53,51,48,102,98,49,57,48,51,99,99,52,100,98,48,50,50,53,56,55,49,55,57,50,49,97,52,56,56,49]
def Rl:Tx:=[50,100,55,49,49,54,52,50,98,55,50,54,98,48,52,52,48,49,54,50,55,99,97,57,46,48]
set_option maxRecDepth 100000 in
theorem Mz:kI [120]=Ko:=by kernel_rfl
theorem DU:Ko.length≤1048576:=by decide
theorem Rm:vV Ko=0:=by rw[←Mz];exact AL _
theorem S2:AO 0:=⟨by decide,by decide⟩
theorem MA:fG Ko 0=Rl:=by unfold fG;rw[ek Rm,P0];rfl
theorem MB:xZ Ko 0=[98,108,111,98,47]++Rl:=by unfold xZ;rw[MA];rfl
def uM(x:Tx×Unit):Option (Tx×Unit):=bif ig x.1 [120] then some (Ko,()) else none
def sA(x:Tx×Int×Unit):Option (Tx×Unit):=bif ig x.1 Ko&&b9 x.2.1 0 then some (Rl,()) else none
def sB(x:Tx×Int×Unit):Option (Tx×Unit):=bif ig x.1 Ko&&b9 x.2.1 0 then some ([98,108,111,98,47]++Rl,()) else none
def qO(x:(List rD×Tx×Unit)×s6×Unit):Option ((Int×Bool×Int×Unit)×s6×Unit):=match x.1.1 with
 | []=>bif ig x.1.2.1 [120] then some (((0:Int),(false,((0:Int),()))),x.2) else none
 | _=>none
def uN(x:(rD×Unit)×s6×Unit):Option ((Tx×Int×Unit)×s6×Unit):=match x.2.1.2.1 with
 | []=>bif ig x.1.1.2.2.2.1 Ko&&b9 x.1.1.2.2.2.2.2.1 0&&x.2.1.1&&b9 x.2.1.2.2.1 0&&!x.2.1.2.2.2.1&&!x.2.1.2.2.2.2.1 then
  some (([],((14:Int),())),((true,([],((0:Int),(true,(true,(O4 4 ([98,108,111,98,47]++Rl) [] 0 0 [],())))))),())) else none
 | _=>none
theorem xo{a b:Tx}(h:ig a b=true):a=b:=wq h
theorem AR{a b:Int}(h:b9 a b=true):a=b:=wq h
theorem BT:∀x y,uM x=some y→lq x=some y:=by
 rintro⟨x,u⟩ y h;unfold uM at h;cases q:ig x [120] with
 | false=>simp[q] at h
 | true =>
   simp only[q,jk,jU] at h;rw[←h,xo q,←Mz];exact qc [120] (by decide)
theorem AU:∀x y,sA x=some y→iU x=some y:=by
 rintro⟨x,k,u⟩ y h;unfold sA at h;cases q:ig x Ko&&b9 k 0 with
 | false=>simp[q] at h
 | true =>
   simp only[q,jk,jU] at h;rw[cP] at q;rw[←h,xo q.1,AR q.2,←MA];exact mC DU S2
theorem AV:∀x y,sB x=some y→mj x=some y:=by
 rintro⟨x,k,u⟩ y h;unfold sB at h;cases q:ig x Ko&&b9 k 0 with
 | false=>simp[q] at h
 | true =>
   simp only[q,jk,jU] at h;rw[cP] at q;rw[←h,xo q.1,AR q.2,←MB];exact oe DU S2
theorem yF:∀x y,qO x=some y→fY x=some y:=by
 rintro⟨⟨l,d,u⟩,c,u'⟩ y h;unfold qO at h;cases l with
 | cons a r=>cases h
 | nil =>
   cases q:ig d [120] with
   | false=>simp[q] at h
   | true =>
     simp only[q,jk,jU] at h;rw[←h,xo q];exact J0 c
theorem BU:∀x y,uN x=some y→dH x=some y:=by
 rintro⟨⟨x,u⟩,⟨g,l,a,wa,wn,o,u2⟩,u'⟩ y h;unfold uN at h;cases l with
 | cons a r=>cases h
 | nil =>
   cases q:ig x.2.2.2.1 Ko&&b9 x.2.2.2.2.2.1 0&&g&&b9 a 0&&!wa&&!wn with
   | false=>simp[q] at h
   | true =>
     simp only[q,jk,jU] at h;simp only[cP,iE] at q;obtain⟨⟨⟨⟨⟨q1,q2⟩,rfl⟩,q3⟩,rfl⟩,rfl⟩:=q;obtain rfl:=AR q3;have hx:AQ x:=⟨by rw[xo q1];exact DU,by rw[AR q2];exact S2⟩;rw[←h,←MB];have:=Oi x hx o;rw[xo q1,AR q2] at this;exact this
theorem Oj:jz ()=some (true,()):=rfl
end Go.Ge
namespace Go.Ge
variable [Lp]
theorem FG(o:rB):nt (an (b9 o.1 o.1) (an (ig o.2.1 o.2.1) (an (ig o.2.2.1 o.2.2.1) (an (b9 o.2.2.2.1 o.2.2.2.1) (an (b9 o.2.2.2.2.1 o.2.2.2.2.1) (an (b9 o.2.2.2.2.2.1 o.2.2.2.2.2.1) (an (ig o.2.2.2.2.2.2.1 o.2.2.2.2.2.2.1) (an (b9 o.2.2.2.2.2.2.2.1 o.2.2.2.2.2.2.2.1) (an (b9 o.2.2.2.2.2.2.2.2.1 o.2.2.2.2.2.2.2.2.1) true)))))))))=false:=by
 simp only[br rfl,jB rfl];rfl
theorem FH{m:Nat}{c:s6}{d:xk}(h:rC m c d)(r:tr)(hr:uL r)(hm:m+1≤1000000) :
  ∃e e' c' d',bW ((r,()),(c,()))=some ((e,()),(c',()))∧bX ((r,()),(d,()))=some ((e',()),(d',()))∧rC (m+1) c' d':=by
 cases hw:c.2.2.2.2.1 with
 | true =>
   obtain⟨c',d',e1,e2,h'⟩:=Mt h hw r hr hm;exact⟨_,_,c',d',e1,e2,h'⟩
 | false =>
   have Iw:=vX h.given;refine⟨1,1,c,d,?_,?_,⟨h.given,h.ops,h.res,h.at',h.lo,h.waits,h.CA,h.op,h.TV,by have:=h.len;omega⟩⟩
   ·unfold bW;refine ob Iw ?_;dsimp only;rw[hw,aP,af];obtain⟨g,l,a,wa,wn,op,u⟩:=c;dsimp only at hw;subst hw;rfl
   ·unfold bX;dsimp only;rw[h.CA,hw,aP,af];obtain⟨ops,res,k,O2,Oh,Rk,u2⟩:=d;have:=h.CA;dsimp only at this;rw[hw] at this;subst this;rfl
abbrev Rn(i:Nat)(c:s6)(d:xk)(c2:s6)(d2:xk):(Bool×Int×Unit)×(Unit×Unit×Int×rB×Bool×Bool×Unit)×List rB×List tr×(Bool×Unit×Int×Bool×Bool×rB×Unit)×M5×(Unit×Unit×Int×rB×Bool×Bool×Unit)×List rB×List tr×(Bool×Unit×Int×Bool×Bool×rB×Unit)×M5×Unit :=
 ((false,((i:Int),())),((Qp d2).1,(d2.1,(d2.2.1,((Qo c2).1,(c2.2.1,((Qp d).1,(d.1,(d.2.1,((Qo c).1,(c.2.1,())))))))))))
abbrev Vm(c2:s6)(d2:xk):Nat×(Bool×Unit)×(Unit×Unit×Int×rB×Bool×Bool×Unit)×List rB×List tr×(Bool×Unit×Int×Bool×Bool×rB×Unit)×M5×Unit :=
 ((0:Nat),((false,()),((Qp d2).1,(d2.1,(d2.2.1,((Qo c2).1,(c2.2.1,())))))))
theorem rC.up{m:Nat}{c:s6}{d:xk}(h:rC m c d)(hm:m+1≤1000000):rC (m+1) c d :=
 ⟨h.given,h.ops,h.res,h.at',h.lo,h.waits,h.CA,h.op,h.TV,by have:=h.len;omega⟩
theorem Ro{α:Type}{w b:Bool}{F X:α}(h:w=true→b=false):aO w (aO b F X) X=X:=by
 cases w with
 | false=>rfl
 | true=>rw[h rfl];rfl
set_option maxHeartbeats 1000000 in
theorem HB(l:List rD)(hl:l.length≤1000)(hf:∀x∈l,AQ x)(diff:Tx)(hd:diff.length≤1048576)(rs:List tr)(RQ:rs.length≤30)(hfr:∀r∈rs,uL r)(i:Nat)(c:s6)(d:xk)(c2:s6)(d2:xk)(hi:i≤rs.length)
  (h:rC i c d) (k:rC i c2 d2):∃c' d' NL RR,dO (l,(diff,(rs,()))) (Rn i c d c2 d2)=some (.inl (Rn (i+1) c' d' NL RR))∧rC (i+1) c' d'∧rC (i+1) NL RR:=by
 obtain⟨c1,d1,b1,b2,h1⟩:=CB h;obtain⟨⟨p1,p2,p3,u⟩,c3,d3,g1,g2,h3⟩:=JZ l hl hf diff hd h1;have hmid:∃c4 d4,rC i c4 d4∧((l=[]∧c4=c2∧d4=d2)∨∃x c5 d5 s e,l[0]?=some x∧0<l.length∧dF ((),(c2,()))=some ((),(c5,()))∧eJ ((),(d2,()))=some ((),(d5,())) ∧
   dH ((x,()),(c5,()))=some ((s,(e,())),(c4,()))∧eA ((x,()),(d5,()))=some ((s,(e,())),(d4,()))):=by
  by_cases q:l=[]
  ·exact⟨c2,d2,k,.inl ⟨q,rfl,rfl⟩⟩
  ·have h0:0<l.length:=List.length_pos_iff.2 q;obtain⟨c5,d5,v1,v2,k5⟩:=CB k;obtain⟨⟨s,e,u'⟩,c4,d4,w1,w2,k4⟩:=Iy k5 l[0] (hf _ (II _));exact⟨c4,d4,k4,.inr ⟨l[0],c5,d5,s,e,qV h0,h0,v1,v2,w1,w2⟩⟩
 obtain⟨c4,d4,k4,hmid⟩:=hmid;have P1:∃c6 d6 c7 d7,rC (i+1) c6 d6∧rC (i+1) c7 d7∧((i=rs.length∧c6=c3∧d6=d3∧c7=c4∧d7=d4)∨∃r e1 e2 e3 e4,rs[i]?=some r∧i<rs.length ∧
   bW ((r,()),(c3,()))=some ((e1,()),(c6,()))∧bX ((r,()),(d3,()))=some ((e2,()),(d6,())) ∧
   bW ((r,()),(c4,()))=some ((e3,()),(c7,()))∧bX ((r,()),(d4,()))=some ((e4,()),(d7,()))):=by
  by_cases q:i=rs.length
  ·exact⟨c3,d3,c4,d4,h3.up (by omega),k4.up (by omega),.inl ⟨q,rfl,rfl,rfl,rfl⟩⟩
  ·have hlt:i<rs.length:=by omega
   have hr:=hfr rs[i] (II _);obtain⟨e1,e2,c6,d6,v1,v2,h6⟩:=FH h3 rs[i] hr (by omega);obtain⟨e3,e4,c7,d7,v3,v4,k7⟩:=FH k4 rs[i] hr (by omega);exact⟨c6,d6,c7,d7,h6,k7,.inr ⟨rs[i],e1,e2,e3,e4,qV hlt,hlt,v1,v2,v3,v4⟩⟩
 obtain⟨c6,d6,c7,d7,h6,k7,P1⟩:=P1;refine⟨c6,d6,c7,d7,?_,h6,k7⟩;unfold dO;dsimp only;rw[kG (by unfold len;omega),af];refine ob b1 ?_;refine ob b2 ?_;refine ob g1 ?_;refine ob g2 ?_;refine ob (vX h3.given) ?_;dsimp only;rw[si p1,aK,ag,AF p2,aK,ag,si p3,aK,ag,show F2 c3.2.2.2.2.1 d3.2.2.2.2.1=true from by rw[h3.CA,AF],aK,ag];rw[Ro (fun hw=>by rw[hw,af,h3.op hw];exact FG _)];refine ob (x:=Vm c4 d4) ?_ ?_
 ·rcases hmid with ⟨rfl,rfl,rfl⟩|⟨x,c5,d5,s,e,hx,h0,v1,v2,w1,w2⟩
  ·rw[show fE (0:Int) (@len rD [])=false from rfl,ag]
  ·rw[show fE (0:Int) (@len rD l)=true from ga (i:=0) h0,af];refine ob v1 ?_;refine ob v2 ?_;refine ob (show @idx rD l 0=some x from bu (i:=0) hx) ?_;refine ob w1 ?_;refine ob (show @idx rD l 0=some x from bu (i:=0) hx) ?_;refine ob w2 ?_;refine ob (vX k4.given) ?_;dsimp only;rw[vO s,aK,ag,si e,aK,ag,show F2 c4.2.2.2.2.1 d4.2.2.2.2.1=true from by rw[k4.CA,AF],aK,ag];rw[Ro (fun hw=>by rw[hw,af,k4.op hw];exact FG _)]
 ·dsimp only;rw[show uQ 0 0=true from rfl,af];refine ob (x:=((),((Qp d7).1,(d7.1,(d7.2.1,((Qo c7).1,(c7.2.1,((Qp d6).1,(d6.1,(d6.2.1,((Qo c6).1,(c6.2.1,())))))))))))) ?_ ?_
  ·rcases P1 with ⟨q,rfl,rfl,rfl,rfl⟩|⟨r,e1,e2,e3,e4,hx,hlt,v1,v2,v3,v4⟩
   ·rw[show fE (i:Int) (@len tr rs)=false from by rw[q];exact mq,ag]
   ·rw[show fE (i:Int) (@len tr rs)=true from ga hlt,af];refine ob (bu hx) ?_;refine ob v1 ?_;refine ob (bu hx) ?_;refine ob v2 ?_;refine ob (bu hx) ?_;refine ob v3 ?_;refine ob (bu hx) ?_;refine ob v4 ?_;rfl
  ·dsimp only;rw[ck (by omega)]
theorem J1(l:List rD)(hl:l.length≤1000)(hf:∀x∈l,AQ x)(diff:Tx)(hd:diff.length≤1048576)(rs:List tr)(RQ:rs.length≤30)(hfr:∀r∈rs,uL r):∀(n i:Nat) (c:s6) (d:xk) (c2:s6) (d2:xk),i+n=rs.length+1→rC i c d→rC i c2 d2 →
  ∃s,Loop (dO (l,(diff,(rs,())))) (Rn i c d c2 d2)=some (0,s):=by
 intro n;induction n with
 | zero =>
   intro i c d c2 d2 hi h k;have he:yI (i:Int) (@len tr rs)=false:=p8 (by unfold len;omega);apply Exists.intro;rw[cL,show dO (l,(diff,(rs,()))) (Rn i c d c2 d2)=some (.inr (0,Rn i c d c2 d2)) from by
    unfold dO;dsimp only;rw[he,ag]]
   rfl
 | succ n ih =>
   intro i c d c2 d2 hi h k;obtain⟨c',d',NL,RR,e,h',k'⟩:=HB l hl hf diff hd rs RQ hfr i c d c2 d2 (by omega) h k;obtain⟨s,hs⟩:=ih (i+1) c' d' NL RR (by omega) h' k';exact⟨s,by rw[cL,e];exact hs⟩
end Go.Ge
namespace Go.Ge
variable [Lp]
theorem J2(l:List rD):∃b,mh (l,())=some (b,())∧(b=true→l.length≤40∧∀x∈l,x.2.2.2.1.length≤100):=by
 rcases Mb (f:=kE (l,())) l 40 (fun j=>((false,(j,())),())) (fun _ x=>decide (100<x.2.2.2.1.length)) (fun j _=>(1,((false,((j:Int),())),()))) (fun n=>(0,((false,((n:Int),())),()))) (by omega)
  (fun i x hx hi Vn p9=>by
   unfold kE;dsimp only;rw[ga hi,af,bB (by omega),af];refine ob (bu hx) ?_;by_cases q:100<x.2.2.2.1.length
   ·rw[bB (by unfold len;omega),af,Ba q];rfl
   ·rw[aH (by unfold len;omega),ag,yc q,p9];rfl)
  (by
   unfold kE;dsimp only;by_cases q:l.length≤40
   ·rw[show min 40 l.length=l.length by omega,mq,ag,ag]
   ·rw[show min 40 l.length=40 by omega,ga (by omega),af,aH (by omega),ag]) with ⟨i,x,_,_,_,_,e⟩|⟨ha,e⟩
 ·refine⟨false,?_,fun h=>(by cases h)⟩;unfold mh;refine ob e ?_;rfl
 ·refine⟨yI (len l) 40,?_,fun h=>?_⟩
  ·unfold mh;refine ob e ?_;rfl
  ·have hl:l.length≤40:=by unfold yI len at h;have:=wq h;omega
   refine⟨hl,fun x hx=>?_⟩;obtain⟨i,hi,Qd⟩:=FW hx;have:=ha i x (by omega) (by rw[qV hi,Qd]);have:=of_decide_eq_false this;omega
theorem DV(l:List rD)(diff:Tx)(rs:List tr)(hok:∀(i:Nat) (x:rD),l[i]?=some x→AO x.2.2.2.2.2.1):jg (l,(diff,(rs,())))=some (true,()):=by
 have fin:∀(f:Bool×Unit→Option (Bool×Unit)),(∀y,f y=some (y.1,()))→ah (jz ()) f=some (true,()):=fun f hf=>ob Oj (hf _);obtain⟨b,hb,S3⟩:=J2 l;obtain⟨ok,S4,hfr⟩:=DQ 30 (by decide) rs;unfold jg;refine ob hb ?_;dsimp only;cases b with
 | false =>
   rw[aP,aK,ag,aK,ag,aa,af];exact fin _ fun _=>rfl
 | true =>
   obtain⟨Vn,S5⟩:=S3 rfl;rw[aK,aP,af];by_cases qd:100<diff.length
   ·rw[show fE 100 (@len UInt8 diff)=true from bB (by unfold len;omega),aK,ag,aa,af];exact fin _ fun _=>rfl
   rw[show fE 100 (@len UInt8 diff)=false from aH (by unfold len;omega),aP,af];refine ob (ob S4 rfl) ?_;cases ok with
   | false =>
     rw[show nt (false,()).1=true from rfl,af];exact fin _ fun _=>rfl
   | true =>
     obtain⟨RQ,hr⟩:=hfr rfl;rw[show nt (true,()).1=false from rfl,ag];have hf:∀x∈l,AQ x:=fun x hx=>by
      obtain⟨i,hi,Qd⟩:=FW hx;exact⟨by have:=S5 x hx;omega,hok i x (by rw[qV hi,Qd])⟩
     have h0:rC 0 Vl ([],([],((0:Int),(O4 0 [] [] 0 0 [],(false,(false,())))))):=⟨rfl,rfl,rfl,rfl,⟨0,rfl,kS _⟩,rfl,rfl,fun h=>(by cases h),fun x hx=>(by cases hx),⟨kS _,by omega⟩⟩;obtain⟨s,hs⟩:=J1 l (by omega) hf diff (by omega) rs RQ hr (rs.length+1) 0 _ _ _ _ (by omega) h0 h0;refine ob hs ?_;rw[show uQ (0,s).1 0=true from rfl,af];exact fin _ fun _=>rfl
end Go.Ge
namespace Go.Ge
end Go.Ge
namespace Go.Ge
end Go.Ge
