/- Plain laws of what the functions compute: part 3. -/
import Derived.Test.YtpmecibilnjeiaaGreatDoorPlB
set_option linter.unusedVariables false
set_option linter.unusedSectionVars false
set_option linter.unusedSimpArgs false
noncomputable section
open Go.IntKind (i64)
namespace Go.Ge
variable [Lp]
set_option maxRecDepth 100000
abbrev dt:=((List<|Sb×(List Sb)×Sb×Sb×Sb×(List<|Sb×Sb×Sb×ah)×ah)×(List<|Sb×(List Sb)×Sb×Sb×(List<|Sb×Sb×Sb×ah)×ah)×(List<|Sb×Sb×(List Sb)×Sb×Int×Int×Bool×ah)×(List Sb)×(List<|Sb×Int×ah)×ah)
abbrev mn:=(Int×(List<|Sb×Sb×(List Sb)×Sb×Int×Int×Bool×ah)×(List<|Sb×(List Sb)×Sb×Sb×(List<|Sb×Sb×Sb×ah)×ah)×(List<|Sb×(List Sb)×Sb×Sb×Sb×(List<|Sb×Sb×Sb×ah)×ah)×ah)
abbrev cA:=(Sb×Sb×Sb×ah)
abbrev ch:=(Sb×Sb×(List Sb)×Sb×Int×Int×Bool×ah)
abbrev fe:=(Sb×(List Sb)×Sb×Sb×Sb×(List cA)×ah)
abbrev er:=(Sb×(List Sb)×Sb×Sb×(List cA)×ah)
abbrev cr:=(Bool×Int×ah)
abbrev cJ:=(Int×Int×ah)
abbrev bN:=(Nat×cr×ah)
abbrev po:=((ah×Int×ah)×(List Sb)×ah)
abbrev jZ:=(Nat×cJ×ah×Sb×ah)
abbrev rW:=(Sb×Int×Int×Sb×Sb×ah)
abbrev j0:=(cJ×ah×Sb×ah)
abbrev bh:=(cr×ah)
abbrev gT:=(Nat×cr×dt×ah)
abbrev gn:=(Nat×cJ×ah×ah)
abbrev lj:=(Sb×Int×ah)
abbrev gU:=(cr×dt×ah)
abbrev gp:=(cJ×ah×ah)
abbrev AO:=((Nat×(ah×Int×ah)×(List Sb)×ah))
def jQ(x:Sb×Sb×Sb×ah):Option (ch×ah) :=
 ae (mY (x.2.2.1,())) (λ(a:Sb×ah)=>some ((x.1,x.2.1,([]:List Sb),a.1,@len UInt8 x.2.2.1,(0:Int),true,()),()))
def sE(x:Int×Int×Int×ah):Option (Bool×ah) :=
 some (aj (da x.2.1 x.1)
 (da x.1 x.2.2.1)
 false,())
def mb(x:Sb×ah):Option (Bool×ah) :=
 ae (mW (x.1,())) (λ(a:Sb×Bool×ah)=>some (aj a.2.1
 (aZ (@len UInt8 x.1) (6:Int))
 false,()))
def qw(x:Sb×ah):Option (Bool×ah) :=
 ae (aj (nt<|bw x.1 ([]:ao))
 (ae (mb (x.1,())) λ(a:Bool×ah)=>some a.1)
 (some true)) (λ(a:Bool)=>some (a,()))
def DC(x:(List Sb)×ah)(a:cJ×ah×ah):Option (gp⊕gn) :=
 aj (ba a.1.2.1<|@len Sb x.1)
 (ae (@idx Sb x.1 a.1.2.1) λ(b:ao)=>ae (sV (b,())) λ(c:Bool×ah)=>aj (nt c.1)
 (some (Sum.inr ((1:Nat),(a.1.2.1,a.1.2.1,()),(),()):(gp)⊕(gn)))
 (some (Sum.inl ((a.1.1,aB i64 a.1.2.1 (1:Int),()),(),()):(gp)⊕(gn))))
 (some (Sum.inr ((0:Nat),(a.1.1,a.1.2.1,()),(),()):(gp)⊕(gn)))
def qx(x:(List Sb)×ah):Option (Bool×ah) :=
 aj (da (@len Sb x.1) (4:Int))
 (ae (ae (Loop (DC x) (((0:Int),(0:Int),()),(),())) λ(a:Nat×cJ×ah×ah)=>aj (du a.1 (0:Nat))
 (some ((true,()),()))
 (some ((nt<|da (0:Int) a.2.1.1,()),()))) λ(a:(Bool×ah)×ah)=>ae (aj a.1.1
 (ae (jg (x.1,())) λ(b:Bool×ah)=>some b.1)
 (some false)) λ(b:Bool)=>some (b,()))
 (some (false,()))
def ij(x:ch×ah):Option (Bool×ah) :=
 ae (mb (x.1.1,())) (λ(f:Bool×ah)=>ae (aj f.1
 (ae (qw (x.1.2.1,())) λ(a:Bool×ah)=>some a.1)
 (some false)) λ(a:Bool)=>ae (aj (aj a
 (nt<|bw x.1.2.1 x.1.1)
 false)
 (ae (qx (x.1.2.2.1,())) λ(b:Bool×ah)=>some b.1)
 (some false)) λ(b:Bool)=>ae (aj b
 (ae (cQ (x.1.2.2.2.1,())) λ(c:Int×ah)=>some (aZ c.1 (0:Int)))
 (some false)) λ(c:Bool)=>ae (aj c
 (ae (sE (x.1.2.2.2.2.1,(0:Int),(8192:Int),())) λ(d:Bool×ah)=>some d.1)
 (some false)) λ(d:Bool)=>ae (aj d
 (ae (sE (x.1.2.2.2.2.2.1,(0:Int),(32:Int),())) λ(e:Bool×ah)=>some e.1)
 (some false)) λ(e:Bool)=>some (e,()))
def yO(x:cA×ah):Option (Bool×ah) :=
 ae (sV (x.1.1,())) (λ(b:Bool×ah)=>ae (aj (aj b.1
 (da (@len UInt8 x.1.2.2.1) (64:Int))
 false)
 (ae (kJ (x.1.2.1,x.1.2.2.1,())) λ(a:Bool×ah)=>some a.1)
 (some false)) λ(a:Bool)=>some (a,()))
def pq(x:cA×ah):Option (Sb×ah) :=
 some (x.1.1,())
def Ci(x:Sb×(List cA)×ah)(a:cJ×ah×ah):Option (gp⊕gn) :=
 aj (ba a.1.2.1<|@len cA x.2.1)
 (ae (@idx cA x.2.1 a.1.2.1) λ(b:Sb×Sb×Sb×ah)=>ae (yO (b,())) λ(c:Bool×ah)=>aj (nt c.1)
 (some (Sum.inr ((1:Nat),(a.1.2.1,a.1.2.1,()),(),()):(gp)⊕(gn)))
 (some (Sum.inl ((a.1.1,aB i64 a.1.2.1 (1:Int),()),(),()):(gp)⊕(gn))))
 (some (Sum.inr ((0:Nat),(a.1.1,a.1.2.1,()),(),()):(gp)⊕(gn)))
def Cj(x:Sb×(List cA)×ah)(a:cr×ah):Option (bh⊕bN) :=
 aj (ba a.1.2.1<|@len cA x.2.1)
 (ae (@idx cA x.2.1<|cd i64 a.1.2.1 (1:Int)) λ(b:Sb×Sb×Sb×ah)=>ae (pq (b,())) λ(c:Sb×ah)=>ae (@idx cA x.2.1 a.1.2.1) λ(d:Sb×Sb×Sb×ah)=>ae (pq (d,())) λ(e:Sb×ah)=>aj (nt<|gf c.1 e.1)
 (some (Sum.inr ((1:Nat),(false,a.1.2.1,()),()):(bh)⊕(bN)))
 (some (Sum.inl ((a.1.1,aB i64 a.1.2.1 (1:Int),()),()):(bh)⊕(bN))))
 (some (Sum.inr ((0:Nat),(a.1.1,a.1.2.1,()),()):(bh)⊕(bN)))
def sW(x:Sb×(List cA)×ah):Option (Bool×ah) :=
 aj (aj (da (@len UInt8 x.1) (64:Int))
 (da (@len cA x.2.1) (4:Int))
 false)
 (ae (ae (Loop (Ci x) (((0:Int),(0:Int),()),(),())) λ(a:Nat×cJ×ah×ah)=>aj (du a.1 (0:Nat))
 (some ((true,()),()))
 (some ((nt<|da (0:Int) a.2.1.1,()),()))) λ(a:(Bool×ah)×ah)=>aj a.1.1
 (ae (ae (Loop (Cj x) ((false,(1:Int),()),())) λ(b:Nat×cr×ah)=>aj (du b.1 (0:Nat))
 (some ((true,()),()))
 (some ((b.2.1.1,()),()))) λ(b:(Bool×ah)×ah)=>some (b.1.1,()))
 (some (false,())))
 (some (false,()))
def xk(x:er×ah):Option (Bool×ah) :=
 ae (mb (x.1.1,())) (λ(d:Bool×ah)=>ae (aj d.1
 (ae (qx (x.1.2.1,())) λ(a:Bool×ah)=>some a.1)
 (some false)) λ(a:Bool)=>ae (aj a
 (ae (qw (x.1.2.2.1,())) λ(b:Bool×ah)=>some b.1)
 (some false)) λ(b:Bool)=>ae (aj b
 (ae (sW (x.1.2.2.2.1,x.1.2.2.2.2.1,())) λ(c:Bool×ah)=>some c.1)
 (some false)) λ(c:Bool)=>some (c,()))
def zI(x:fe×ah):Option (Bool×ah) :=
 ae (mb (x.1.1,())) (λ(e:Bool×ah)=>ae (aj e.1
 (ae (qx (x.1.2.1,())) λ(a:Bool×ah)=>some a.1)
 (some false)) λ(a:Bool)=>ae (aj a
 (ae (qw (x.1.2.2.1,())) λ(b:Bool×ah)=>some b.1)
 (some false)) λ(b:Bool)=>ae (aj b
 (ae (mb (x.1.2.2.2.1,())) λ(c:Bool×ah)=>some c.1)
 (some false)) λ(c:Bool)=>ae (aj c
 (ae (sW (x.1.2.2.2.2.1,x.1.2.2.2.2.2.1,())) λ(d:Bool×ah)=>some d.1)
 (some false)) λ(d:Bool)=>some (d,()))
def ff(x:ch×ah):Option (Sb×ah) :=
 some (x.1.1,())
def fg(x:er×ah):Option (Sb×ah) :=
 some (x.1.1,())
def fh(x:fe×ah):Option (Sb×ah) :=
 some (x.1.1,())
def DD(x:mn×ah)(a:(ah×Int×ah)×(List Sb)×ah):Option (po⊕po) :=
 @dK po (aj (ba a.1.2.1<|@len ch x.1.2.1)
 (ae (@idx ch x.1.2.1 a.1.2.1) λ(b:Sb×Sb×(List Sb)×Sb×Int×Int×Bool×ah)=>aj (fits<|plus (@len Sb a.2.1)<|@len Sb b.2.2.1)
 (some (Sum.inl (((),aB i64 a.1.2.1 (1:Int),()),@app Sb a.2.1 b.2.2.1,()):(po)⊕AO))
 none)
 (some (Sum.inr ((0:Nat),((),a.1.2.1,()),a.2.1,()):(po)⊕AO)))
def DE(x:mn×ah)(a:(ah×Int×ah)×(List Sb)×ah):Option (po⊕po) :=
 @dK po (aj (ba a.1.2.1<|@len er x.1.2.2.1)
 (ae (@idx er x.1.2.2.1 a.1.2.1) λ(b:Sb×(List Sb)×Sb×Sb×(List cA)×ah)=>aj (fits<|plus (@len Sb a.2.1)<|@len Sb b.2.1)
 (some (Sum.inl (((),aB i64 a.1.2.1 (1:Int),()),@app Sb a.2.1 b.2.1,()):(po)⊕AO))
 none)
 (some (Sum.inr ((0:Nat),((),a.1.2.1,()),a.2.1,()):(po)⊕AO)))
def DF(x:mn×ah)(a:(ah×Int×ah)×(List Sb)×ah):Option (po⊕po) :=
 @dK po (aj (ba a.1.2.1<|@len fe x.1.2.2.2.1)
 (ae (@idx fe x.1.2.2.2.1 a.1.2.1) λ(b:Sb×(List Sb)×Sb×Sb×Sb×(List cA)×ah)=>aj (fits<|plus (@len Sb a.2.1)<|@len Sb b.2.1)
 (some (Sum.inl (((),aB i64 a.1.2.1 (1:Int),()),@app Sb a.2.1 b.2.1,()):(po)⊕AO))
 none)
 (some (Sum.inr ((0:Nat),((),a.1.2.1,()),a.2.1,()):(po)⊕AO)))
def qy(x:mn×ah):Option ((List Sb)×ah) :=
 ae (Loop (DD x) (((),(0:Int),()),([]:List Sb),())) (λ(a:(ah×Int×ah)×(List Sb)×ah)=>ae (Loop (DE x) (((),(0:Int),()),a.2.1,())) λ(b:(ah×Int×ah)×(List Sb)×ah)=>ae (Loop (DF x) (((),(0:Int),()),b.2.1,())) λ(c:(ah×Int×ah)×(List Sb)×ah)=>some (c.2.1,()))
def DG(x:Int×mn×ah)(a:cJ×ah):Option ((cJ×ah)⊕(Nat×cJ×ah)) :=
 aj (ba a.1.2.1 (4:Int))
 (ae (@idx Int ([(0:Int),@len fe x.2.1.2.2.2.1,@len er x.2.1.2.2.1,@len ch x.2.1.2.1]:List (Int)) a.1.2.1) λ(b:Int)=>aj (aj (nt<|aZ a.1.2.1 x.1)
 (ba (0:Int) b)
 false)
 (some (Sum.inr ((1:Nat),((1:Int),a.1.2.1,()),()):((cJ×ah))⊕((Nat×cJ×ah))))
 (some (Sum.inl ((a.1.1,aB i64 a.1.2.1 (1:Int),()),()):((cJ×ah))⊕((Nat×cJ×ah)))))
 (some (Sum.inr ((0:Nat),(a.1.1,a.1.2.1,()),()):((cJ×ah))⊕((Nat×cJ×ah))))
def dI(x:Int×mn×ah)(a:cJ×ah×ah):Option (gp⊕gn) :=
 aj (ba a.1.2.1<|@len ch x.2.1.2.1)
 (ae (@idx ch x.2.1.2.1 a.1.2.1) λ(b:Sb×Sb×(List Sb)×Sb×Int×Int×Bool×ah)=>ae (ij (b,())) λ(c:Bool×ah)=>aj (nt c.1)
 (some (Sum.inr ((1:Nat),(a.1.2.1,a.1.2.1,()),(),()):(gp)⊕(gn)))
 (some (Sum.inl ((a.1.1,aB i64 a.1.2.1 (1:Int),()),(),()):(gp)⊕(gn))))
 (some (Sum.inr ((0:Nat),(a.1.1,a.1.2.1,()),(),()):(gp)⊕(gn)))
def DH(x:Int×mn×ah)(a:cJ×ah×ah):Option (gp⊕gn) :=
 aj (ba a.1.2.1<|@len er x.2.1.2.2.1)
 (ae (@idx er x.2.1.2.2.1 a.1.2.1) λ(b:Sb×(List Sb)×Sb×Sb×(List cA)×ah)=>ae (xk (b,())) λ(c:Bool×ah)=>aj (nt c.1)
 (some (Sum.inr ((1:Nat),(a.1.2.1,a.1.2.1,()),(),()):(gp)⊕(gn)))
 (some (Sum.inl ((a.1.1,aB i64 a.1.2.1 (1:Int),()),(),()):(gp)⊕(gn))))
 (some (Sum.inr ((0:Nat),(a.1.1,a.1.2.1,()),(),()):(gp)⊕(gn)))
def DI(x:Int×mn×ah)(a:cJ×ah×ah):Option (gp⊕gn) :=
 aj (ba a.1.2.1<|@len fe x.2.1.2.2.2.1)
 (ae (@idx fe x.2.1.2.2.2.1 a.1.2.1) λ(b:Sb×(List Sb)×Sb×Sb×Sb×(List cA)×ah)=>ae (zI (b,())) λ(c:Bool×ah)=>aj (nt c.1)
 (some (Sum.inr ((1:Nat),(a.1.2.1,a.1.2.1,()),(),()):(gp)⊕(gn)))
 (some (Sum.inl ((a.1.1,aB i64 a.1.2.1 (1:Int),()),(),()):(gp)⊕(gn))))
 (some (Sum.inr ((0:Nat),(a.1.1,a.1.2.1,()),(),()):(gp)⊕(gn)))
def DJ(x:Int×mn×ah)(a:cr×ah):Option (bh⊕bN) :=
 aj (ba a.1.2.1<|@len ch x.2.1.2.1)
 (ae (@idx ch x.2.1.2.1<|cd i64 a.1.2.1 (1:Int)) λ(e:Sb×Sb×(List Sb)×Sb×Int×Int×Bool×ah)=>ae (ff (e,())) λ(b:Sb×ah)=>ae (@idx ch x.2.1.2.1 a.1.2.1) λ(c:Sb×Sb×(List Sb)×Sb×Int×Int×Bool×ah)=>ae (ff (c,())) λ(d:Sb×ah)=>aj (nt<|gf b.1 d.1)
 (some (Sum.inr ((1:Nat),(false,a.1.2.1,()),()):(bh)⊕(bN)))
 (some (Sum.inl ((a.1.1,aB i64 a.1.2.1 (1:Int),()),()):(bh)⊕(bN))))
 (some (Sum.inr ((0:Nat),(a.1.1,a.1.2.1,()),()):(bh)⊕(bN)))
def DK(x:Int×mn×ah)(a:cr×ah):Option (bh⊕bN) :=
 aj (ba a.1.2.1<|@len er x.2.1.2.2.1)
 (ae (@idx er x.2.1.2.2.1<|cd i64 a.1.2.1 (1:Int)) λ(b:Sb×(List Sb)×Sb×Sb×(List cA)×ah)=>ae (fg (b,())) λ(c:Sb×ah)=>ae (@idx er x.2.1.2.2.1 a.1.2.1) λ(d:Sb×(List Sb)×Sb×Sb×(List cA)×ah)=>ae (fg (d,())) λ(e:Sb×ah)=>aj (nt<|gf c.1 e.1)
 (some (Sum.inr ((1:Nat),(false,a.1.2.1,()),()):(bh)⊕(bN)))
 (some (Sum.inl ((a.1.1,aB i64 a.1.2.1 (1:Int),()),()):(bh)⊕(bN))))
 (some (Sum.inr ((0:Nat),(a.1.1,a.1.2.1,()),()):(bh)⊕(bN)))
def DL(x:Int×mn×ah)(a:cr×ah):Option (bh⊕bN) :=
 aj (ba a.1.2.1<|@len fe x.2.1.2.2.2.1)
 (ae (@idx fe x.2.1.2.2.2.1<|cd i64 a.1.2.1 (1:Int)) λ(b:Sb×(List Sb)×Sb×Sb×Sb×(List cA)×ah)=>ae (fh (b,())) λ(c:Sb×ah)=>ae (@idx fe x.2.1.2.2.2.1 a.1.2.1) λ(d:Sb×(List Sb)×Sb×Sb×Sb×(List cA)×ah)=>ae (fh (d,())) λ(e:Sb×ah)=>aj (nt<|gf c.1 e.1)
 (some (Sum.inr ((1:Nat),(false,a.1.2.1,()),()):(bh)⊕(bN)))
 (some (Sum.inl ((a.1.1,aB i64 a.1.2.1 (1:Int),()),()):(bh)⊕(bN))))
 (some (Sum.inr ((0:Nat),(a.1.1,a.1.2.1,()),()):(bh)⊕(bN)))
def DM(x:Int×mn×ah)(a:cr×ah):Option (bh⊕bN) :=
 aj (ba a.1.2.1<|@len ch x.2.1.2.1)
 (ae (@idx ch x.2.1.2.1<|cd i64 a.1.2.1 (1:Int)) λ(d:Sb×Sb×(List Sb)×Sb×Int×Int×Bool×ah)=>ae (ff (d,())) λ(e:Sb×ah)=>ae (@idx ch x.2.1.2.1 a.1.2.1) λ(b:Sb×Sb×(List Sb)×Sb×Int×Int×Bool×ah)=>ae (ff (b,())) λ(c:Sb×ah)=>aj (nt<|gf e.1 c.1)
 (some (Sum.inr ((1:Nat),(false,a.1.2.1,()),()):(bh)⊕(bN)))
 (some (Sum.inl ((a.1.1,aB i64 a.1.2.1 (1:Int),()),()):(bh)⊕(bN))))
 (some (Sum.inr ((0:Nat),(a.1.1,a.1.2.1,()),()):(bh)⊕(bN)))
def DN(x:Int×mn×ah)(a:cr×ah):Option (bh⊕bN) :=
 aj (ba a.1.2.1<|@len er x.2.1.2.2.1)
 (ae (@idx er x.2.1.2.2.1<|cd i64 a.1.2.1 (1:Int)) λ(e:Sb×(List Sb)×Sb×Sb×(List cA)×ah)=>ae (fg (e,())) λ(b:Sb×ah)=>ae (@idx er x.2.1.2.2.1 a.1.2.1) λ(c:Sb×(List Sb)×Sb×Sb×(List cA)×ah)=>ae (fg (c,())) λ(d:Sb×ah)=>aj (nt<|gf b.1 d.1)
 (some (Sum.inr ((1:Nat),(false,a.1.2.1,()),()):(bh)⊕(bN)))
 (some (Sum.inl ((a.1.1,aB i64 a.1.2.1 (1:Int),()),()):(bh)⊕(bN))))
 (some (Sum.inr ((0:Nat),(a.1.1,a.1.2.1,()),()):(bh)⊕(bN)))
def DO(x:Int×mn×ah)(a:cr×ah):Option (bh⊕bN) :=
 aj (ba a.1.2.1<|@len fe x.2.1.2.2.2.1)
 (ae (@idx fe x.2.1.2.2.2.1<|cd i64 a.1.2.1 (1:Int)) λ(b:Sb×(List Sb)×Sb×Sb×Sb×(List cA)×ah)=>ae (fh (b,())) λ(c:Sb×ah)=>ae (@idx fe x.2.1.2.2.2.1 a.1.2.1) λ(d:Sb×(List Sb)×Sb×Sb×Sb×(List cA)×ah)=>ae (fh (d,())) λ(e:Sb×ah)=>aj (nt<|gf c.1 e.1)
 (some (Sum.inr ((1:Nat),(false,a.1.2.1,()),()):(bh)⊕(bN)))
 (some (Sum.inl ((a.1.1,aB i64 a.1.2.1 (1:Int),()),()):(bh)⊕(bN))))
 (some (Sum.inr ((0:Nat),(a.1.1,a.1.2.1,()),()):(bh)⊕(bN)))
def Ck(x:Int×mn×ah)(a:cr×ah):Option (bh⊕bN) :=
 aj (ba a.1.2.1<|@len ch x.2.1.2.1)
 (ae (@idx ch x.2.1.2.1<|cd i64 a.1.2.1 (1:Int)) λ(c:Sb×Sb×(List Sb)×Sb×Int×Int×Bool×ah)=>ae (ff (c,())) λ(d:Sb×ah)=>ae (@idx ch x.2.1.2.1 a.1.2.1) λ(e:Sb×Sb×(List Sb)×Sb×Int×Int×Bool×ah)=>ae (ff (e,())) λ(b:Sb×ah)=>aj (nt<|gf d.1 b.1)
 (some (Sum.inr ((1:Nat),(false,a.1.2.1,()),()):(bh)⊕(bN)))
 (some (Sum.inl ((a.1.1,aB i64 a.1.2.1 (1:Int),()),()):(bh)⊕(bN))))
 (some (Sum.inr ((0:Nat),(a.1.1,a.1.2.1,()),()):(bh)⊕(bN)))
def Cl(x:Int×mn×ah)(a:cr×ah):Option (bh⊕bN) :=
 aj (ba a.1.2.1<|@len er x.2.1.2.2.1)
 (ae (@idx er x.2.1.2.2.1<|cd i64 a.1.2.1 (1:Int)) λ(d:Sb×(List Sb)×Sb×Sb×(List cA)×ah)=>ae (fg (d,())) λ(e:Sb×ah)=>ae (@idx er x.2.1.2.2.1 a.1.2.1) λ(b:Sb×(List Sb)×Sb×Sb×(List cA)×ah)=>ae (fg (b,())) λ(c:Sb×ah)=>aj (nt<|gf e.1 c.1)
 (some (Sum.inr ((1:Nat),(false,a.1.2.1,()),()):(bh)⊕(bN)))
 (some (Sum.inl ((a.1.1,aB i64 a.1.2.1 (1:Int),()),()):(bh)⊕(bN))))
 (some (Sum.inr ((0:Nat),(a.1.1,a.1.2.1,()),()):(bh)⊕(bN)))
def Cm(x:Int×mn×ah)(a:cr×ah):Option (bh⊕bN) :=
 aj (ba a.1.2.1<|@len fe x.2.1.2.2.2.1)
 (ae (@idx fe x.2.1.2.2.2.1<|cd i64 a.1.2.1 (1:Int)) λ(e:Sb×(List Sb)×Sb×Sb×Sb×(List cA)×ah)=>ae (fh (e,())) λ(b:Sb×ah)=>ae (@idx fe x.2.1.2.2.2.1 a.1.2.1) λ(c:Sb×(List Sb)×Sb×Sb×Sb×(List cA)×ah)=>ae (fh (c,())) λ(d:Sb×ah)=>aj (nt<|gf b.1 d.1)
 (some (Sum.inr ((1:Nat),(false,a.1.2.1,()),()):(bh)⊕(bN)))
 (some (Sum.inl ((a.1.1,aB i64 a.1.2.1 (1:Int),()),()):(bh)⊕(bN))))
 (some (Sum.inr ((0:Nat),(a.1.1,a.1.2.1,()),()):(bh)⊕(bN)))
def et(x:Int×mn×ah):Option (Int×ah) :=
 ae (sE (x.1,(1:Int),(3:Int),())) (λ(l:Bool×ah)=>ae (aj (nt<|nt l.1)
 (ae (sE (x.2.1.1,(0:Int),(9007199254740992:Int),())) λ(h:Bool×ah)=>some (nt h.1))
 (some true)) λ(h:Bool)=>ae (aj (nt h)
 (aj (within x.1 (4:Int))
 (ae (@idx Int ([(0:Int),@len fe x.2.1.2.2.2.1,@len er x.2.1.2.2.1,@len ch x.2.1.2.1]:List (Int)) x.1) λ(i:Int)=>some (ba (32:Int) i))
 none)
 (some true)) λ(i:Bool)=>aj i
 (some ((1:Int),()))
 (ae (Loop (DG x) (((0:Int),(0:Int),()),())) λ(k:Nat×cJ×ah)=>aj (du k.1 (0:Nat))
 (ae (ae (ae (Loop (dI x) (((0:Int),(0:Int),()),(),())) λ(g:Nat×cJ×ah×ah)=>aj (du g.1 (0:Nat))
 (some (((-1:Int),()),(),()))
 (some ((g.2.1.1,()),(),()))) λ(g:(Int×ah)×ah×ah)=>some ((nt<|da (0:Int) g.1.1,()),())) λ(g:(Bool×ah)×ah)=>aj g.1.1
 (ae (ae (Loop (DH x) (((0:Int),(0:Int),()),(),())) λ(f:Nat×cJ×ah×ah)=>aj (du f.1 (0:Nat))
 (some ((true,()),()))
 (some ((nt<|da (0:Int) f.2.1.1,()),()))) λ(f:(Bool×ah)×ah)=>aj f.1.1
 (ae (ae (Loop (DI x) (((0:Int),(0:Int),()),(),())) λ(b:Nat×cJ×ah×ah)=>aj (du b.1 (0:Nat))
 (some ((true,()),()))
 (some ((nt<|da (0:Int) b.2.1.1,()),()))) λ(b:(Bool×ah)×ah)=>ae (ae (Loop (DJ x) ((false,(1:Int),()),())) λ(c:Nat×cr×ah)=>aj (du c.1 (0:Nat))
 (some ((true,()),()))
 (some ((c.2.1.1,()),()))) λ(c:(Bool×ah)×ah)=>aj c.1.1
 (ae (ae (Loop (DK x) ((false,(1:Int),()),())) λ(d:Nat×cr×ah)=>aj (du d.1 (0:Nat))
 (some ((true,()),()))
 (some ((d.2.1.1,()),()))) λ(d:(Bool×ah)×ah)=>aj d.1.1
 (ae (ae (Loop (DL x) ((false,(1:Int),()),())) λ(a:Nat×cr×ah)=>aj (du a.1 (0:Nat))
 (some ((true,()),()))
 (some ((a.2.1.1,()),()))) λ(a:(Bool×ah)×ah)=>ae (aj (nt<|aj (nt<|nt b.1.1)
 (nt a.1.1)
 true)
 (ae (qy (x.2.1,())) λ(e:(List Sb)×ah)=>ae (jg (e.1,())) λ(j:Bool×ah)=>some (nt j.1))
 (some true)) λ(e:Bool)=>aj e
 (some ((1:Int),()))
 (some ((0:Int),())))
 (ae (aj (nt<|aj (nt<|nt b.1.1)
 true
 true)
 (ae (qy (x.2.1,())) λ(a:(List Sb)×ah)=>ae (jg (a.1,())) λ(e:Bool×ah)=>some (nt e.1))
 (some true)) λ(a:Bool)=>aj a
 (some ((1:Int),()))
 (some ((0:Int),()))))
 (ae (aj (nt<|aj (nt<|nt b.1.1)
 true
 true)
 (ae (qy (x.2.1,())) λ(d:(List Sb)×ah)=>ae (jg (d.1,())) λ(a:Bool×ah)=>some (nt a.1))
 (some true)) λ(d:Bool)=>aj d
 (some ((1:Int),()))
 (some ((0:Int),()))))
 (ae (ae (Loop (DM x) ((false,(1:Int),()),())) λ(b:Nat×cr×ah)=>aj (du b.1 (0:Nat))
 (some ((true,()),()))
 (some ((b.2.1.1,()),()))) λ(b:(Bool×ah)×ah)=>aj b.1.1
 (ae (ae (Loop (DN x) ((false,(1:Int),()),())) λ(c:Nat×cr×ah)=>aj (du c.1 (0:Nat))
 (some ((true,()),()))
 (some ((c.2.1.1,()),()))) λ(c:(Bool×ah)×ah)=>aj c.1.1
 (ae (ae (Loop (DO x) ((false,(1:Int),()),())) λ(d:Nat×cr×ah)=>aj (du d.1 (0:Nat))
 (some ((true,()),()))
 (some ((d.2.1.1,()),()))) λ(d:(Bool×ah)×ah)=>some ((1:Int),()))
 (some ((1:Int),())))
 (some ((1:Int),()))))
 (ae (ae (Loop (Ck x) ((false,(1:Int),()),())) λ(f:Nat×cr×ah)=>aj (du f.1 (0:Nat))
 (some ((true,()),()))
 (some ((f.2.1.1,()),()))) λ(f:(Bool×ah)×ah)=>aj f.1.1
 (ae (ae (Loop (Cl x) ((false,(1:Int),()),())) λ(b:Nat×cr×ah)=>aj (du b.1 (0:Nat))
 (some ((true,()),()))
 (some ((b.2.1.1,()),()))) λ(b:(Bool×ah)×ah)=>aj b.1.1
 (ae (ae (Loop (Cm x) ((false,(1:Int),()),())) λ(c:Nat×cr×ah)=>aj (du c.1 (0:Nat))
 (some ((true,()),()))
 (some ((c.2.1.1,()),()))) λ(c:(Bool×ah)×ah)=>some ((1:Int),()))
 (some ((1:Int),())))
 (some ((1:Int),()))))
 (some (k.2.1.1,()))))
def Fq(x:(List ch)×ah)(a:cJ×ah):Option ((cJ×ah)⊕(Nat×cJ×ah)) :=
 aj (ba a.1.2.1<|@len ch x.1)
 (ae (@idx ch x.1 a.1.2.1) λ(b:Sb×Sb×(List Sb)×Sb×Int×Int×Bool×ah)=>ae (Bz (x.1,b.1,())) λ(c:(List ch)×Int×ah)=>aj (nt<|aZ c.2.1 (0:Int))
 (some (Sum.inr ((1:Nat),((2:Int),a.1.2.1,()),()):((cJ×ah))⊕((Nat×cJ×ah))))
 (some (Sum.inl ((a.1.1,aB i64 a.1.2.1 (1:Int),()),()):((cJ×ah))⊕((Nat×cJ×ah)))))
 (some (Sum.inr ((0:Nat),(a.1.1,a.1.2.1,()),()):((cJ×ah))⊕((Nat×cJ×ah))))
def BA(x:(List ch)×ah):Option (Int×ah) :=
 ae (Loop (Fq x) (((0:Int),(0:Int),()),())) (λ(a:Nat×cJ×ah)=>aj (du a.1 (0:Nat))
 (some ((0:Int),()))
 (some (a.2.1.1,())))
def eW(x:dt×Int×ah):Option (Bool×ah) :=
 ae (@idx ch x.1.2.2.1 x.2.1) (λ(a:Sb×Sb×(List Sb)×Sb×Int×Int×Bool×ah)=>ae (@idx Sb x.1.2.2.2.1 x.2.1) λ(b:ao)=>ae (aj (nt<|aj (nt<|aj (nt<|nt a.2.2.2.2.2.2.1)
 (nt<|aZ a.2.2.2.2.2.1 (0:Int))
 true)
 (nt<|aZ a.2.2.2.2.1<|@len UInt8 b)
 true)
 (ae (kJ (a.2.2.2.1,b,())) λ(c:Bool×ah)=>some (nt c.1))
 (some true)) λ(c:Bool)=>ae (aj (nt c)
 (ae (gw (b,())) λ(d:Int×ah)=>some (nt<|aZ d.1 (0:Int)))
 (some true)) λ(d:Bool)=>aj d
 (some (false,()))
 (ae (eB (x.1,a.1,())) λ(e:(List rW)×Int×ah)=>some (aZ e.2.1 (0:Int),())))
def eK(x:dt×ah)(a:cr×ah):Option (bh⊕bN) :=
 aj (ba a.1.2.1<|@len ch x.1.2.2.1)
 (ae (eW (x.1,a.1.2.1,())) λ(b:Bool×ah)=>aj (nt b.1)
 (some (Sum.inr ((1:Nat),(false,a.1.2.1,()),()):(bh)⊕(bN)))
 (some (Sum.inl ((a.1.1,aB i64 a.1.2.1 (1:Int),()),()):(bh)⊕(bN))))
 (some (Sum.inr ((0:Nat),(a.1.1,a.1.2.1,()),()):(bh)⊕(bN)))
def fi(x:dt×ah):Option (Bool×ah) :=
 ae (aj (nt<|nt<|aZ (@len ch x.1.2.2.1)<|@len Sb x.1.2.2.2.1)
 (ae (BA (x.1.2.2.1,())) λ(a:Int×ah)=>some (nt<|aZ a.1 (0:Int)))
 (some true)) (λ(a:Bool)=>aj a
 (some (false,()))
 (ae (Loop (eK x) ((false,(0:Int),()),())) λ(b:Nat×cr×ah)=>aj (du b.1 (0:Nat))
 (some (true,()))
 (some (b.2.1.1,()))))
def yP(x:er×ah):Option (Sb×ah) :=
 some (x.1.1,())
def Hp(b:cr×dt×ah)(a:cJ×ah×Sb×ah):Option (j0⊕jZ) :=
 aj (ba a.1.2.1<|@len ch b.2.1.2.2.1)
 (ae (@idx ch b.2.1.2.2.1 a.1.2.1) λ(c:Sb×Sb×(List Sb)×Sb×Int×Int×Bool×ah)=>ae (je (c,())) λ(d:Sb×ah)=>aj (bw d.1 a.2.2.1)
 (some (Sum.inr ((1:Nat),(a.1.2.1,a.1.2.1,()),(),a.2.2.1,()):(j0)⊕(jZ)))
 (some (Sum.inl ((a.1.1,aB i64 a.1.2.1 (1:Int),()),(),a.2.2.1,()):(j0)⊕(jZ))))
 (some (Sum.inr ((0:Nat),(a.1.1,a.1.2.1,()),(),a.2.2.1,()):(j0)⊕(jZ)))
def Hq(x:dt×ah)(a:cr×dt×ah):Option (gU⊕gT) :=
 aj (ba a.1.2.1<|@len er x.1.2.1)
 (ae (@idx er x.1.2.1 a.1.2.1) λ(c:Sb×(List Sb)×Sb×Sb×(List cA)×ah)=>aj (nt<|bw c.2.2.1 ([]:ao))
 (ae (ae (ae (Loop (Hp a) (((0:Int),(0:Int),()),(),c.2.2.1,())) λ(b:Nat×cJ×ah×Sb×ah)=>aj (du b.1 (0:Nat))
 (some (((-1:Int),()),(),b.2.2.2.1,()))
 (some ((b.2.1.1,()),(),b.2.2.2.1,()))) λ(b:(Int×ah)×ah×Sb×ah)=>some ((da (0:Int) b.1.1,()),a.2.1,())) λ(b:(Bool×ah)×dt×ah)=>aj (nt b.1.1)
 (some (Sum.inr ((1:Nat),(false,a.1.2.1,()),b.2.1,()):(gU)⊕(gT)))
 (some (Sum.inl ((a.1.1,aB i64 a.1.2.1 (1:Int),()),b.2.1,()):(gU)⊕(gT))))
 (some (Sum.inl ((a.1.1,aB i64 a.1.2.1 (1:Int),()),a.2.1,()):(gU)⊕(gT))))
 (some (Sum.inr ((0:Nat),(a.1.1,a.1.2.1,()),a.2.1,()):(gU)⊕(gT)))
def Hr(b:cr×dt×ah)(a:cJ×ah×Sb×ah):Option (j0⊕jZ) :=
 aj (ba a.1.2.1<|@len ch b.2.1.2.2.1)
 (ae (@idx ch b.2.1.2.2.1 a.1.2.1) λ(c:Sb×Sb×(List Sb)×Sb×Int×Int×Bool×ah)=>ae (je (c,())) λ(d:Sb×ah)=>aj (bw d.1 a.2.2.1)
 (some (Sum.inr ((1:Nat),(a.1.2.1,a.1.2.1,()),(),a.2.2.1,()):(j0)⊕(jZ)))
 (some (Sum.inl ((a.1.1,aB i64 a.1.2.1 (1:Int),()),(),a.2.2.1,()):(j0)⊕(jZ))))
 (some (Sum.inr ((0:Nat),(a.1.1,a.1.2.1,()),(),a.2.2.1,()):(j0)⊕(jZ)))
def Hs(b:(Bool×ah)×dt×ah)(a:cJ×ah×Sb×ah):Option (j0⊕jZ) :=
 aj (ba a.1.2.1<|@len er b.2.1.2.1)
 (ae (@idx er b.2.1.2.1 a.1.2.1) λ(c:Sb×(List Sb)×Sb×Sb×(List cA)×ah)=>ae (yP (c,())) λ(d:Sb×ah)=>aj (bw d.1 a.2.2.1)
 (some (Sum.inr ((1:Nat),(a.1.2.1,a.1.2.1,()),(),a.2.2.1,()):(j0)⊕(jZ)))
 (some (Sum.inl ((a.1.1,aB i64 a.1.2.1 (1:Int),()),(),a.2.2.1,()):(j0)⊕(jZ))))
 (some (Sum.inr ((0:Nat),(a.1.1,a.1.2.1,()),(),a.2.2.1,()):(j0)⊕(jZ)))
def Ht(e:Nat×cr×dt×ah)(a:cr×dt×ah):Option (gU⊕gT) :=
 aj (ba a.1.2.1<|@len fe e.2.2.1.1)
 (ae (@idx fe e.2.2.1.1 a.1.2.1) λ(d:Sb×(List Sb)×Sb×Sb×Sb×(List cA)×ah)=>ae (ae (ae (Loop (Hr a) (((0:Int),(0:Int),()),(),d.2.2.2.1,())) λ(b:Nat×cJ×ah×Sb×ah)=>aj (du b.1 (0:Nat))
 (some (((-1:Int),()),(),b.2.2.2.1,()))
 (some ((b.2.1.1,()),(),b.2.2.2.1,()))) λ(b:(Int×ah)×ah×Sb×ah)=>some ((da (0:Int) b.1.1,()),a.2.1,())) λ(b:(Bool×ah)×dt×ah)=>aj (nt<|nt b.1.1)
 (aj (nt<|bw d.2.2.1 ([]:ao))
 (ae (ae (ae (Loop (Hs b) (((0:Int),(0:Int),()),(),d.2.2.1,())) λ(c:Nat×cJ×ah×Sb×ah)=>aj (du c.1 (0:Nat))
 (some (((-1:Int),()),()))
 (some ((c.2.1.1,()),()))) λ(c:(Int×ah)×ah)=>some ((da (0:Int) c.1.1,()),b.2.1,())) λ(c:(Bool×ah)×dt×ah)=>aj (nt c.1.1)
 (some (Sum.inr ((1:Nat),(false,a.1.2.1,()),c.2.1,()):(gU)⊕(gT)))
 (some (Sum.inl ((a.1.1,aB i64 a.1.2.1 (1:Int),()),c.2.1,()):(gU)⊕(gT))))
 (some (Sum.inl ((a.1.1,aB i64 a.1.2.1 (1:Int),()),b.2.1,()):(gU)⊕(gT))))
 (some (Sum.inr ((1:Nat),(false,a.1.2.1,()),b.2.1,()):(gU)⊕(gT))))
 (some (Sum.inr ((0:Nat),(a.1.1,a.1.2.1,()),a.2.1,()):(gU)⊕(gT)))
def Hu(b:cr×dt×ah)(a:cJ×ah×Sb×ah):Option (j0⊕jZ) :=
 aj (ba a.1.2.1<|@len ch b.2.1.2.2.1)
 (ae (@idx ch b.2.1.2.2.1 a.1.2.1) λ(c:Sb×Sb×(List Sb)×Sb×Int×Int×Bool×ah)=>ae (je (c,())) λ(d:Sb×ah)=>aj (bw d.1 a.2.2.1)
 (some (Sum.inr ((1:Nat),(a.1.2.1,a.1.2.1,()),(),a.2.2.1,()):(j0)⊕(jZ)))
 (some (Sum.inl ((a.1.1,aB i64 a.1.2.1 (1:Int),()),(),a.2.2.1,()):(j0)⊕(jZ))))
 (some (Sum.inr ((0:Nat),(a.1.1,a.1.2.1,()),(),a.2.2.1,()):(j0)⊕(jZ)))
def Hv(d:Nat×cr×dt×ah)(a:cr×dt×ah):Option (gU⊕gT) :=
 aj (ba a.1.2.1<|@len lj d.2.2.1.2.2.2.2.1)
 (ae (@idx lj d.2.2.1.2.2.2.2.1 a.1.2.1) λ(c:Sb×Int×ah)=>ae (ae (ae (Loop (Hu a) (((0:Int),(0:Int),()),(),c.1,())) λ(b:Nat×cJ×ah×Sb×ah)=>aj (du b.1 (0:Nat))
 (some (((-1:Int),()),(),b.2.2.2.1,()))
 (some ((b.2.1.1,()),(),b.2.2.2.1,()))) λ(b:(Int×ah)×ah×Sb×ah)=>some ((da (0:Int) b.1.1,()),a.2.1,())) λ(b:(Bool×ah)×dt×ah)=>aj (nt b.1.1)
 (some (Sum.inr ((1:Nat),(false,a.1.2.1,()),b.2.1,()):(gU)⊕(gT)))
 (aj (ba c.2.1 (1:Int))
 (some (Sum.inr ((1:Nat),(false,a.1.2.1,()),b.2.1,()):(gU)⊕(gT)))
 (aj (ba (1000:Int) c.2.1)
 (some (Sum.inr ((1:Nat),(false,a.1.2.1,()),b.2.1,()):(gU)⊕(gT)))
 (aj (ba (0:Int) a.1.2.1)
 (ae (@idx lj b.2.1.2.2.2.2.1<|cd i64 a.1.2.1 (1:Int)) λ(e:Sb×Int×ah)=>aj (nt<|gf e.1 c.1)
 (some (Sum.inr ((1:Nat),(false,a.1.2.1,()),b.2.1,()):(gU)⊕(gT)))
 (some (Sum.inl ((a.1.1,aB i64 a.1.2.1 (1:Int),()),b.2.1,()):(gU)⊕(gT))))
 (some (Sum.inl ((a.1.1,aB i64 a.1.2.1 (1:Int),()),b.2.1,()):(gU)⊕(gT)))))))
 (some (Sum.inr ((0:Nat),(a.1.1,a.1.2.1,()),a.2.1,()):(gU)⊕(gT)))
def DP(x:dt×ah):Option (Bool×ah) :=
 ae (Loop (Hq x) ((false,(0:Int),()),x.1,())) (λ(a:Nat×cr×dt×ah)=>aj (du a.1 (0:Nat))
 (ae (Loop (Ht a) ((a.2.1.1,(0:Int),()),a.2.2.1,())) λ(b:Nat×cr×dt×ah)=>aj (du b.1 (0:Nat))
 (ae (Loop (Hv b) ((b.2.1.1,(0:Int),()),b.2.2.1,())) λ(c:Nat×cr×dt×ah)=>aj (du c.1 (0:Nat))
 (some (da (@len lj c.2.2.1.2.2.2.2.1) (32:Int),()))
 (some (c.2.1.1,())))
 (some (b.2.1.1,())))
 (some (a.2.1.1,())))
def jR(x:dt×ah):Option (Int×ah) :=
 ae (et ((1:Int),((0:Int),([]:List ch),([]:List er),x.1.1,()),())) (λ(c:Int×ah)=>ae (et ((2:Int),((0:Int),([]:List ch),x.1.2.1,([]:List fe),()),())) λ(d:Int×ah)=>ae (et ((3:Int),((0:Int),x.1.2.2.1,([]:List er),([]:List fe),()),())) λ(e:Int×ah)=>ae (aj (nt<|aj (nt<|aj (nt<|nt<|aZ c.1 (0:Int))
 (nt<|aZ d.1 (0:Int))
 true)
 (nt<|aZ e.1 (0:Int))
 true)
 (ae (fi (x.1,())) λ(a:Bool×ah)=>some (nt a.1))
 (some true)) λ(a:Bool)=>ae (aj (nt a)
 (ae (DP (x.1,())) λ(b:Bool×ah)=>some (nt b.1))
 (some true)) λ(b:Bool)=>aj b
 (some ((1:Int),()))
 (some ((0:Int),())))
def oL(x:(List cA)×(List cA)×ah)(a:cr×ah):Option (bh⊕bN) :=
 aj (ba a.1.2.1<|@len cA x.1)
 (ae (@idx cA x.1 a.1.2.1) λ(b:Sb×Sb×Sb×ah)=>ae (@idx cA x.2.1 a.1.2.1) λ(c:Sb×Sb×Sb×ah)=>aj (nt<|an (bw b.1 c.1)<|an (bw b.2.1 c.2.1)<|an (bw b.2.2.1 c.2.2.1) true)
 (some (Sum.inr ((1:Nat),(false,a.1.2.1,()),()):(bh)⊕(bN)))
 (some (Sum.inl ((a.1.1,aB i64 a.1.2.1 (1:Int),()),()):(bh)⊕(bN))))
 (some (Sum.inr ((0:Nat),(a.1.1,a.1.2.1,()),()):(bh)⊕(bN)))
def fj(x:(List cA)×(List cA)×ah):Option (Bool×ah) :=
 aj (nt<|aZ (@len cA x.1)<|@len cA x.2.1)
 (some (false,()))
 (ae (Loop (oL x) ((false,(0:Int),()),())) λ(a:Nat×cr×ah)=>aj (du a.1 (0:Nat))
 (some (true,()))
 (some (a.2.1.1,())))
def yQ(x:fe×fe×ah):Option (Bool×ah) :=
 ae (aj (bw x.1.1 x.2.1.1)
 (ae (bt (x.1.2.1,x.2.1.2.1,())) λ(a:Bool×ah)=>some a.1)
 (some false)) (λ(a:Bool)=>ae (aj (aj (aj (aj a
 (bw x.1.2.2.1 x.2.1.2.2.1)
 false)
 (bw x.1.2.2.2.1 x.2.1.2.2.2.1)
 false)
 (bw x.1.2.2.2.2.1 x.2.1.2.2.2.2.1)
 false)
 (ae (fj (x.1.2.2.2.2.2.1,x.2.1.2.2.2.2.2.1,())) λ(b:Bool×ah)=>some b.1)
 (some false)) λ(b:Bool)=>some (b,()))
def yR(x:er×er×ah):Option (Bool×ah) :=
 ae (aj (bw x.1.1 x.2.1.1)
 (ae (bt (x.1.2.1,x.2.1.2.1,())) λ(a:Bool×ah)=>some a.1)
 (some false)) (λ(a:Bool)=>ae (aj (aj (aj a
 (bw x.1.2.2.1 x.2.1.2.2.1)
 false)
 (bw x.1.2.2.2.1 x.2.1.2.2.2.1)
 false)
 (ae (fj (x.1.2.2.2.2.1,x.2.1.2.2.2.2.1,())) λ(b:Bool×ah)=>some b.1)
 (some false)) λ(b:Bool)=>some (b,()))
def jh(x:ch×ch×ah):Option (Bool×ah) :=
 ae (aj (aj (bw x.1.1 x.2.1.1)
 (bw x.1.2.1 x.2.1.2.1)
 false)
 (ae (bt (x.1.2.2.1,x.2.1.2.2.1,())) λ(a:Bool×ah)=>some a.1)
 (some false)) (λ(a:Bool)=>some (aj (aj (aj (aj a
 (bw x.1.2.2.2.1 x.2.1.2.2.2.1)
 false)
 (aZ x.1.2.2.2.2.1 x.2.1.2.2.2.2.1)
 false)
 (aZ x.1.2.2.2.2.2.1 x.2.1.2.2.2.2.2.1)
 false)
 (WD x.1.2.2.2.2.2.2.1 x.2.1.2.2.2.2.2.2.1)
 false,()))
def n7(x:(List lj)×(List lj)×ah)(a:cr×ah):Option (bh⊕bN) :=
 aj (ba a.1.2.1<|@len lj x.1)
 (ae (@idx lj x.1 a.1.2.1) λ(b:Sb×Int×ah)=>ae (@idx lj x.2.1 a.1.2.1) λ(c:Sb×Int×ah)=>aj (nt<|an (bw b.1 c.1)<|an (aZ b.2.1 c.2.1) true)
 (some (Sum.inr ((1:Nat),(false,a.1.2.1,()),()):(bh)⊕(bN)))
 (some (Sum.inl ((a.1.1,aB i64 a.1.2.1 (1:Int),()),()):(bh)⊕(bN))))
 (some (Sum.inr ((0:Nat),(a.1.1,a.1.2.1,()),()):(bh)⊕(bN)))
def iB(x:(List lj)×(List lj)×ah):Option (Bool×ah) :=
 aj (nt<|aZ (@len lj x.1)<|@len lj x.2.1)
 (some (false,()))
 (ae (Loop (n7 x) ((false,(0:Int),()),())) λ(a:Nat×cr×ah)=>aj (du a.1 (0:Nat))
 (some (true,()))
 (some (a.2.1.1,())))
def Hw(x:dt×dt×ah)(a:cr×ah):Option (bh⊕bN) :=
 aj (ba a.1.2.1<|@len fe x.1.1)
 (ae (@idx fe x.1.1 a.1.2.1) λ(b:Sb×(List Sb)×Sb×Sb×Sb×(List cA)×ah)=>ae (@idx fe x.2.1.1 a.1.2.1) λ(c:Sb×(List Sb)×Sb×Sb×Sb×(List cA)×ah)=>ae (yQ (b,c,())) λ(d:Bool×ah)=>aj (nt d.1)
 (some (Sum.inr ((1:Nat),(false,a.1.2.1,()),()):(bh)⊕(bN)))
 (some (Sum.inl ((a.1.1,aB i64 a.1.2.1 (1:Int),()),()):(bh)⊕(bN))))
 (some (Sum.inr ((0:Nat),(a.1.1,a.1.2.1,()),()):(bh)⊕(bN)))
def Hy(x:dt×dt×ah)(a:cr×ah):Option (bh⊕bN) :=
 aj (ba a.1.2.1<|@len er x.1.2.1)
 (ae (@idx er x.1.2.1 a.1.2.1) λ(b:Sb×(List Sb)×Sb×Sb×(List cA)×ah)=>ae (@idx er x.2.1.2.1 a.1.2.1) λ(c:Sb×(List Sb)×Sb×Sb×(List cA)×ah)=>ae (yR (b,c,())) λ(d:Bool×ah)=>aj (nt d.1)
 (some (Sum.inr ((1:Nat),(false,a.1.2.1,()),()):(bh)⊕(bN)))
 (some (Sum.inl ((a.1.1,aB i64 a.1.2.1 (1:Int),()),()):(bh)⊕(bN))))
 (some (Sum.inr ((0:Nat),(a.1.1,a.1.2.1,()),()):(bh)⊕(bN)))
def ji(x:dt×dt×ah)(a:cr×ah):Option (bh⊕bN) :=
 aj (ba a.1.2.1<|@len ch x.1.2.2.1)
 (ae (@idx ch x.1.2.2.1 a.1.2.1) λ(b:Sb×Sb×(List Sb)×Sb×Int×Int×Bool×ah)=>ae (@idx ch x.2.1.2.2.1 a.1.2.1) λ(c:Sb×Sb×(List Sb)×Sb×Int×Int×Bool×ah)=>ae (jh (b,c,())) λ(d:Bool×ah)=>aj (nt d.1)
 (some (Sum.inr ((1:Nat),(false,a.1.2.1,()),()):(bh)⊕(bN)))
 (some (Sum.inl ((a.1.1,aB i64 a.1.2.1 (1:Int),()),()):(bh)⊕(bN))))
 (some (Sum.inr ((0:Nat),(a.1.1,a.1.2.1,()),()):(bh)⊕(bN)))
def n8(x:dt×dt×ah):Option (Bool×ah) :=
 ae (aj (nt<|aZ (@len fe x.1.1)<|@len fe x.2.1.1)
 (some ((false,()),()))
 (ae (Loop (Hw x) ((false,(0:Int),()),())) λ(a:Nat×cr×ah)=>aj (du a.1 (0:Nat))
 (some ((true,()),()))
 (some ((a.2.1.1,()),())))) (λ(a:(Bool×ah)×ah)=>ae (aj (nt<|aZ (@len er x.1.2.1)<|@len er x.2.1.2.1)
 (some ((false,()),()))
 (ae (Loop (Hy x) ((false,(0:Int),()),())) λ(b:Nat×cr×ah)=>aj (du b.1 (0:Nat))
 (some ((true,()),()))
 (some ((b.2.1.1,()),())))) λ(b:(Bool×ah)×ah)=>ae (aj (nt<|aZ (@len ch x.1.2.2.1)<|@len ch x.2.1.2.2.1)
 (some ((false,()),()))
 (ae (Loop (ji x) ((false,(0:Int),()),())) λ(c:Nat×cr×ah)=>aj (du c.1 (0:Nat))
 (some ((true,()),()))
 (some ((c.2.1.1,()),())))) λ(c:(Bool×ah)×ah)=>ae (aj (aj (aj a.1.1
 b.1.1
 false)
 c.1.1
 false)
 (ae (bt (x.1.2.2.2.1,x.2.1.2.2.2.1,())) λ(d:Bool×ah)=>some d.1)
 (some false)) λ(d:Bool)=>ae (aj d
 (ae (iB (x.1.2.2.2.2.1,x.2.1.2.2.2.2.1,())) λ(e:Bool×ah)=>some e.1)
 (some false)) λ(e:Bool)=>some (e,()))
def gZ(x:ah):Option (Bool×ah) :=
 aj (inside (0:Int) (1024:Int) (1024:Int))
 (aj (fits (1024:Int))
 (ae (jQ (([(48:UInt8),(48:UInt8),(48:UInt8),(48:UInt8),(48:UInt8),(50:UInt8)]:ao),([(48:UInt8),(48:UInt8),(48:UInt8),(48:UInt8),(48:UInt8),(49:UInt8)]:ao),aY<|@gK Int (1024:Int) (0:Int),())) λ(l:ch×ah)=>ae (jB ((([]:List fe),([]:List er),([]:List ch),([]:List Sb),([]:List lj),()),l.1,aY<|@gK Int (1024:Int) (0:Int),())) λ(j:dt×ah)=>ae (jR (j.1,())) λ(m:Int×ah)=>ae (jQ (([(48:UInt8),(48:UInt8),(48:UInt8),(48:UInt8),(48:UInt8),(49:UInt8)]:ao),([]:ao),aY<|@gK Int (1024:Int) (0:Int),())) λ(n:ch×ah)=>ae (jB (j.1,n.1,aY<|@gK Int (1024:Int) (0:Int),())) λ(o:dt×ah)=>ae (ma (o.1,([(48:UInt8),(48:UInt8),(48:UInt8),(48:UInt8),(48:UInt8),(50:UInt8)]:ao),(3:Int),())) λ(a:dt×ah)=>ae (fR (a.1,([(48:UInt8),(48:UInt8),(48:UInt8),(48:UInt8),(48:UInt8),(50:UInt8)]:ao),())) λ(i:ch×Sb×Bool×ah)=>ae (eB (a.1,([(48:UInt8),(48:UInt8),(48:UInt8),(48:UInt8),(48:UInt8),(50:UInt8)]:ao),())) λ(k:(List rW)×Int×ah)=>ae (jf (a.1,([(48:UInt8),(48:UInt8),(48:UInt8),(48:UInt8),(48:UInt8),(50:UInt8)]:ao),())) λ(h:dt×ah)=>ae (aj (aZ m.1 (1:Int))
 (ae (jR (a.1,())) λ(b:Int×ah)=>some (aZ b.1 (0:Int)))
 (some false)) λ(b:Bool)=>ae (aj (aj (aj (aj (aj (aj b
 (bw i.1.2.1 ([(48:UInt8),(48:UInt8),(48:UInt8),(48:UInt8),(48:UInt8),(49:UInt8)]:ao))
 false)
 (bw i.2.1<|aY<|@gK Int (1024:Int) (0:Int))
 false)
 i.2.2.1
 false)
 (aZ (@len rW k.1) (0:Int))
 false)
 (aZ k.2.1 (0:Int))
 false)
 (ae (qv (a.1,([(48:UInt8),(48:UInt8),(48:UInt8),(48:UInt8),(48:UInt8),(49:UInt8)]:ao),())) λ(c:Bool×ah)=>some c.1)
 (some false)) λ(c:Bool)=>ae (aj c
 (ae (qv (h.1,([(48:UInt8),(48:UInt8),(48:UInt8),(48:UInt8),(48:UInt8),(49:UInt8)]:ao),())) λ(d:Bool×ah)=>some (nt d.1))
 (some false)) λ(d:Bool)=>ae (aj d
 (ae (uK (a.1,([(48:UInt8),(48:UInt8),(48:UInt8),(48:UInt8),(48:UInt8),(50:UInt8)]:ao),())) λ(e:Int×ah)=>some (aZ e.1 (3:Int)))
 (some false)) λ(e:Bool)=>ae (aj (aj (aj e
 (aZ (@len lj h.1.2.2.2.2.1) (0:Int))
 false)
 (aZ (@len ch h.1.2.2.1) (1:Int))
 false)
 (ae (n8 (a.1,a.1,())) λ(f:Bool×ah)=>some f.1)
 (some false)) λ(f:Bool)=>ae (aj f
 (ae (n8 (a.1,h.1,())) λ(g:Bool×ah)=>some (nt g.1))
 (some false)) λ(g:Bool)=>some (g,()))
 none)
 none
def jC(x:dt×ch×Sb×ah):Option (Bool×ah) :=
 ae (vD (x.1,())) (λ(j:Bool×ah)=>ae (aj (nt<|aj (nt<|aj (nt<|aj (nt<|nt j.1)
 (ba (100:Int)<|@len UInt8 x.2.1.1)
 true)
 (ba (100:Int)<|@len UInt8 x.2.1.2.1)
 true)
 (ba (8192:Int)<|@len UInt8 x.2.2.1)
 true)
 (ae (sz (x.1,())) λ(g:Bool×ah)=>some (nt g.1))
 (some true)) λ(g:Bool)=>aj g
 (ae (gZ ()) λ(h:Bool×ah)=>some (h.1,()))
 (ae (fR (x.1,x.2.1.1,())) λ(h:ch×Sb×Bool×ah)=>aj h.2.2.1
 (ae (gZ ()) λ(e:Bool×ah)=>some (e.1,()))
 (ae (jB (x.1,x.2.1,x.2.2.1,())) λ(e:dt×ah)=>ae (fR (e.1,x.2.1.1,())) λ(i:ch×Sb×Bool×ah)=>aj (nt i.2.2.1)
 (some (false,()))
 (aj (nt<|bw i.2.1 x.2.2.1)
 (some (false,()))
 (ae (iA (([x.2.1]:List ch),([i.1]:List ch),())) λ(k:Bool×ah)=>aj (nt k.1)
 (some (false,()))
 (ae (jf (e.1,x.2.1.1,())) λ(l:dt×ah)=>ae (tO (l.1,x.1,())) λ(m:Bool×ah)=>aj (nt m.1)
 (some (false,()))
 (ae (aj (nt<|bw x.2.1.2.1 ([]:ao))
 (ae (eB (x.1,x.2.1.2.1,())) λ(d:(List rW)×Int×ah)=>aj (nt<|aZ d.2.1 (0:Int))
 (ae (gZ ()) λ(a:Bool×ah)=>some ((1:Nat),(a.1,([]:List rW),()),()))
 (some ((0:Nat),(false,d.1,()),())))
 (some ((0:Nat),(false,([]:List rW),()),()))) λ(d:Nat×(Bool×(List rW)×ah)×ah)=>aj (du d.1 (0:Nat))
 (ae (eB (e.1,x.2.1.1,())) λ(a:(List rW)×Int×ah)=>ae (oG (d.2.1.2.1,x.2.2.1,())) λ(f:(List rW)×Int×ah)=>ae (aj (aZ a.2.1 f.2.1)
 (ae (tD (a.1,f.1,())) λ(b:Bool×ah)=>some b.1)
 (some false)) λ(b:Bool)=>ae (aj (aj (nt b)
 (aj (aZ a.2.1 (5:Int))
 (aZ (@len rW a.1) (0:Int))
 false)
 true)
 (ae (gZ ()) λ(c:Bool×ah)=>some c.1)
 (some false)) λ(c:Bool)=>some (c,()))
 (some (d.2.1.1,())))))))))
end Go.Ge
namespace Go.Ge
variable [Lp]
theorem fk{a b:Int}(h:-9223372036854775808<=a+b)(c:a+b<=9223372036854775807):aB .i64 a b=a+b:=by
 unfold aB;simp[IntKind.wrap,IntKind.min,IntKind.max,IntKind.signed,IntKind.bits];omega
theorem dx{a b:Int}(h:-9223372036854775808<=a-b)(c:a-b<=9223372036854775807):cd .i64 a b=a-b:=by
 unfold cd;simp[IntKind.wrap,IntKind.min,IntKind.max,IntKind.signed,IntKind.bits];omega
theorem zJ{a b:Int}(h:-9223372036854775808<=a*b)(c:a*b<=9223372036854775807):ik .i64 a b=a*b:=by
 unfold ik;simp[IntKind.wrap,IntKind.min,IntKind.max,IntKind.signed,IntKind.bits];omega
theorem xZ{a:Int}(h:-9223372036854775808<=a)(b:a<=9223372036854775807):ka .i64 a=a:=by
 unfold ka;simp[IntKind.wrap,IntKind.min,IntKind.max,IntKind.signed,IntKind.bits];omega
theorem aca{a:Int}(h:0<=a)(b:a<=18446744073709551615):ka .u64 a=a:=by
 unfold ka;simp[IntKind.wrap,IntKind.min,IntKind.max,IntKind.signed,IntKind.bits];omega
theorem wrap_u32(a:Int):IntKind.wrap .u32 a=a % 4294967296:=by
 simp[IntKind.wrap,IntKind.min,IntKind.max,IntKind.signed,IntKind.bits]
def Bv(x:Int):BitVec 32:=BitVec.ofInt 32 x
def Can(x:Int):Prop:=0<=x/\x<4294967296
theorem RI(a:Int):Can (IntKind.wrap .u32 a):=by rw[wrap_u32];unfold Can;omega
theorem uM(a:Int):((Bv a).toNat:Int)=a % 4294967296:=by
 unfold Bv;rw[Y1];have:0<=a % ((2 ^ 32:Nat):Int):=Int.emod_nonneg _ (by decide);rw[YZ this];rfl
theorem acb{a b:Int}(c:Can a)(d:Can b)(h:Bv a=Bv b):a=b:=by
 have e:=uM a;have f:=uM b;rw[h] at e;unfold Can at c d;omega
theorem H8(a:Int):Bv (IntKind.wrap .u32 a)=Bv a:=by
 apply YV;have c:=uM a;have b:=uM (IntKind.wrap .u32 a);rw[wrap_u32] at b⊢;omega
theorem Un(v:BitVec 32):Bv (v.toNat:Int)=v:=by
 apply YV;have a:=uM (v.toNat:Int);have:=v.isLt;omega
theorem bv_and(x y:Int):Bv (mL .u32 x y)=Bv x &&& Bv y:=by unfold mL;rw[H8];exact Un _
theorem V3(x y:Int):Bv (vd .u32 x y)=Bv x ||| Bv y:=by unfold vd;rw[H8];exact Un _
theorem aan(x y:Int):Bv (fV .u32 x y)=Bv x ^^^ Bv y:=by unfold fV;rw[H8];exact Un _
theorem JS(x y:Int):Can (vd .u32 x y):=RI _
theorem Px(x y:Int):Can (fV .u32 x y):=RI _
theorem Uo(x:Int)(n:Nat)(c:n<=32):Bv (kb .u32 x n)=Bv x <<< n:=by
 unfold kb;rw[H8];apply YV;have a:=uM (x*2 ^ (min (n:Int).toNat IntKind.u32.bits));have b:=uM x;have e:min (n:Int).toNat IntKind.u32.bits=n:=by simp[IntKind.bits];omega
 rw[e] at a⊢;rw[BitVec.toNat_shiftLeft,Nat.shiftLeft_eq];have d:(((Bv x).toNat*2 ^ n % 2 ^ 32:Nat):Int)=(x*2 ^ n) % 4294967296:=by
  rw[Int.natCast_emod,Int.natCast_mul,b,Int.natCast_pow];show(x % 4294967296*2 ^ n) % 4294967296=_
  rw[Int.mul_emod,Int.emod_emod_of_dvd _ (Int.dvd_refl _),<-Int.mul_emod]
 omega
theorem Up(x y:Int):vd .u32 x y=vd .u32 y x:=acb (JS _ _) (JS _ _) (by rw[V3,V3,BitVec.or_comm])
theorem RJ(x y:Int):aB .u32 x y=aB .u32 y x:=by unfold aB;rw[Int.add_comm]
theorem afx(e f g:Int):fV .u32 g (mL .u32 e<|fV .u32 f g)=fV .u32 (mL .u32 e f) (mL .u32 (fV .u32 4294967295 e) g):=by
 refine acb (Px _ _) (Px _ _) ?_;simp only[aan,bv_and];have h:Bv 4294967295=BitVec.allOnes 32:=by decide
 rw[h]
 ext i hi
 simp only[BitVec.getElem_xor,BitVec.getElem_and,BitVec.getElem_allOnes];cases (Bv e)[i]<;>cases (Bv f)[i]<;>cases (Bv g)[i]<;>rfl
theorem aea(a b c:Int):vd .u32 (mL .u32 a b) (mL .u32 c<|vd .u32 a b)=fV .u32 (fV .u32 (mL .u32 a b)<|mL .u32 a c) (mL .u32 b c):=by
 refine acb (JS _ _) (Px _ _) ?_;simp only[aan,bv_and,V3]
 ext i hi
 simp only[BitVec.getElem_xor,BitVec.getElem_and,BitVec.getElem_or];cases (Bv a)[i]<;>cases (Bv b)[i]<;>cases (Bv c)[i]<;>rfl
theorem acd(a b c d:Int):vd .u32 (kb .u32 (vd .u32 (kb .u32 (vd .u32 (kb .u32 (vd .u32 (kb .u32 0 8) a) 8) b) 8) c) 8) d=vd .u32 (vd .u32 (vd .u32 (kb .u32 a 24)<|kb .u32 b 16)<|kb .u32 c 8) d:=by
 refine acb (JS _ _) (JS _ _) ?_;have g:∀x,Bv (kb .u32 x 8)=Bv x <<< 8:=λx=>Uo x 8 (by decide);have e:∀x,Bv (kb .u32 x 16)=Bv x <<< 16:=λx=>Uo x 16 (by decide);have f:∀x,Bv (kb .u32 x 24)=Bv x <<< 24:=λx=>Uo x 24 (by decide);simp only[V3,g,e,f];have z:Bv 0=0#32:=by decide
 rw[z];simp[BitVec.shiftLeft_or_distrib,<-BitVec.shiftLeft_add]
theorem aJ{a b:Int}(h:a<b):ba a b=true:=by simp[ba,h]
theorem aA{a b:Int}(h:b<=a):ba a b=false:=by simp[ba];omega
theorem dc{a b:Int}(h:a<=b):da a b=true:=by simp[da,h]
theorem fu{a b:Int}(h:b<a):da a b=false:=by simp[da];omega
theorem aT{a b:Int}(h:a=b):aZ a b=true:=by simp[aZ,h]
theorem aN{a b:Int}(h:a≠b):aZ a b=false:=by simp[aZ,h]
theorem aU{i n:Int}(a:0<=i)(b:i<n):within i n=true:=by simp[within,a,b]
theorem aP{i j n:Int}(a:0<=i)(b:i<=j)(c:j<=n):inside i j n=true:=by simp[inside,a,b,c]
theorem de{n:Int}(h:n<=4294967296):fits n=true:=by simp[fits,h]
theorem cR{S:Type}(s:S):dK (some (.inl s:S⊕(Nat×S)))=some (.inl s):=rfl
theorem dJ{S:Type}(n:Nat)(s:S):dK (some (.inr (n,s):S⊕(Nat×S)))=some (.inr s):=rfl
theorem fl{a:Type}(l:List a)(d:a){i:Nat}(h:i<l.length):idx l (i:Int)=some (l.getD i d):=by
 rw[vu,gH h,Of,gH h];rfl
theorem np{a:Type}(l:List a)(d:a){i:Int}{k:Nat}(e:i=k)(h:k<l.length):idx l i=some (l.getD k d):=by subst e;exact fl l d h
theorem gD{a:Type}(l:List a)(i:Nat)(x:a):nF l (i:Int) x=l.set i x:=by simp[nF]
def sF{d c R:Type}(a:Nat->c->d->Option (c⊕R))(b:Nat->c->R):List d->Nat->c->Option R
 | [],i,s=>some (b i s)
 | x::r,i,s=>match a i s x with
   | none=>none
   | some (.inl e)=>sF a b r (i+1) e
   | some (.inr y)=>some y
theorem oM{p j S R:Type}{f:S->Option (S⊕R)}(l:List p)(m:j->Nat->S)(a:Nat->j->p->Option (j⊕R))(c:Nat->j->R)(b:Nat->j->Prop)
  (d:∀s i x,l[i]?=some x->i<l.length->b i s->f (m s i)=(a i s x).map λq=>match q with|.inl e=>.inl (m e<|i+1)|.inr y=>.inr y)
  (n:∀s i x e,l[i]?=some x->b i s->a i s x=some (.inl e)->b (i+1) e)
  (o:∀s,b l.length s->f (m s l.length)=some (.inr<|c l.length s)) (g:∀s i x,l[i]?=some x->b i s->a i s x≠none) :
  ∀s,b 0 s->Loop f (m s 0)=sF a c l 0 s:=by
 have key:∀(rest pre:List p) (s:j),l=pre++rest->b pre.length s->Loop f (m s pre.length)=sF a c rest pre.length s:=by
  intro rest;induction rest with
  | nil =>
    intro pre s k h;rw[y9] at k;subst k;rw[aI,o s h];rfl
  | cons x r v =>
    intro pre s k h;have hx:l[pre.length]?=some x:=by rw[k];simp
    have t:pre.length<l.length:=by rw[k];simp
    rw[aI,d s pre.length x hx t h];unfold sF;cases u:a pre.length s x with
    | none=>exact absurd u (g s _ x hx h)
    | some q =>
      cases q with
      | inr y=>rfl
      | inl e =>
        have:=v (pre++[x]) e (by rw[k];simp) (by rw[gI];exact n s _ x e hx h u);rw[gI] at this;exact this
 intro s h;exact key l [] s rfl h
theorem H9{a:Type}(i:Nat)(l:List a):ba (i:Int) (len l)=decide (i<l.length):=by simp[ba,len]
theorem x4{a:Type}(i:Nat)(l:List a):da (len l) (i:Int)=decide (l.length<=i):=by simp[da,len]
theorem DQ{a b:Type}(l:List a)(m:List b):ba (len l) (len m)=decide (l.length<m.length):=by simp[ba,len]
theorem JT{a b:Type}(l:List a)(m:List b):da (len l) (len m)=decide (l.length<=m.length):=by simp[da,len]
theorem RL{a b:Type}(l:List a)(m:List b):aZ (len l) (len m)=decide (l.length=m.length):=by unfold aZ len;apply jV.2;omega
theorem bP{a b:Type}{l:List a}{m:List b}(h:l.length+m.length<=4294967296):fits (plus (len l)<|len m)=true:=by
 apply de;simp only[plus,len];omega
theorem sX{a:Type}(c:Bool)(x y:a):aj c x y=if c=true then x else y:=by cases c<;>rfl
theorem JU{a:Type}(p:Prop)[Decidable p](x y:a):aj (decide p) x y=if p then x else y:=by by_cases h:p<;>simp[h,aj]
theorem AP{a b:ao}:bw a b=decide (a=b):=rfl
theorem bq{a b:ao}(h:a≠b):bw a b=false:=by simp[bw,h]
theorem cv{a b:ao}(h:a=b):bw a b=true:=by simp[bw,h]
theorem BB{c:UInt8}{n:UInt8}:aZ (u8 c) (n.toNat:Int)=decide (c=n):=by
 unfold aZ u8;by_cases h:c=n
 .simp[h]
 .have:c.toNat≠n.toNat:=λe=>h (Qu.1 e);simp[h];omega
theorem iC{a:Type}(l:List a)(n:Nat):sub l 0 (minus (n:Int) 0)=l.take n:=by
 unfold sub minus;simp
theorem AQ{a b:Type}(l:List a)(m:List b):sub l 0 (minus (len m) 0)=l.take m.length:=iC l m.length
theorem oN{a:Type}(l:List a)(n:Nat)(h:n<=l.length):sub l (n:Int) (minus (len l) (n:Int))=l.drop n:=by
 unfold sub minus len;rw[sQ];apply A8;rw[j8];omega
theorem bV:du 0 0=true:=rfl
theorem eC:du 1 0=false:=rfl
theorem aD{a:Type}{l:List a}{i:Nat}{x:a}(h:l[i]?=some x):i<l.length:=(fU.1 h).1
theorem sub_one{a:Type}{l:List a}{i:Nat}{x:a}(h:l[i]?=some x):sub l (i:Int) (minus ((i+1:Nat):Int) (i:Int))=[x]:=by
 unfold sub minus;rw[show((i+1:Nat):Int)-(i:Int)=1 by omega,sQ];obtain⟨b,rfl⟩:=fU.1 h;rw[y7 b];rfl
theorem Uq{a b n:Nat}(h:a<=b)(k:b<=n):inside (a:Int) (b:Int) (n:Int)=true:=aP (by omega) (by omega) (by omega)
theorem nq{c:Type}{a b:Nat}{l:List c}(h:a<=b)(k:b<=l.length):inside (a:Int) (b:Int) (len l)=true:=Uq h k
theorem ar{a:Type}{l:List a}{i:Nat}{x:a}(h:l[i]?=some x):idx l (i:Int)=some x:=by rw[vu,h]
theorem aq{a:Type}{l:List a}{i:Nat}(h:i<l.length):ba (i:Int) (len l)=true:=by rw[H9,eu h]
theorem aC{a:Type}{l:List a}:ba (l.length:Int) (len l)=false:=by rw[H9,cU (by omega)]
theorem x5{a:Type}(l m:List a):app l m=l++m:=rfl
theorem V4(b:Bool):nt b=!b:=rfl
theorem br{a:Type}(l:List a):len l=(l.length:Int):=rfl
theorem ace(y:ao):gf [] y=decide (y≠[]):=by cases y<;>simp[gf,Op.bytesLess]
theorem JV(x:ao):gf x []=false:=by cases x<;>simp[gf,Op.bytesLess]
theorem DR(a b:UInt8)(x y:ao):gf (a::x) (b::y)=(decide (a<b)||(a==b&&gf x y)):=by simp[gf,Op.bytesLess]
theorem Xt(a:UInt8):¬a<a:=UInt8.lt_irrefl a
theorem aeb(a b:UInt8):a<b\/a=b\/b<a:=by
 rcases MT a.toNat b.toNat with h|h|h
 .exact .inl h
 .exact .inr (.inl<|Qu.1 h)
 .exact .inr (.inr h)
theorem jS:∀x:ao,gf x x=false:=by
 intro x;induction x with
 | nil=>rfl
 | cons a x b=>rw[DR,b];simp[Xt]
theorem AR:∀{x y z:ao},gf x y=true->gf y z=true->gf x z=true:=by
 intro x;induction x with
 | nil =>
   intro y z h k;cases z with
   | nil=>rw[JV] at k;cases k
   | cons c z=>rfl
 | cons a x d =>
   intro y z h k;cases y with
   | nil=>rw[JV] at h;cases h
   | cons b y =>
     cases z with
     | nil=>rw[JV] at k;cases k
     | cons c z =>
       rw[DR] at h k⊢;simp only[wJ,nE,dv,QA] at h k⊢;rcases h with h|⟨rfl,h⟩
       .rcases k with k|⟨rfl,k⟩
        .exact .inl (UInt8.lt_trans h k)
        .exact .inl h
       .rcases k with k|⟨rfl,k⟩
        .exact .inl k
        .exact .inr ⟨rfl,d h k⟩
theorem AU:∀(x y:ao),gf x y=true\/x=y\/gf y x=true:=by
 intro x;induction x with
 | nil=>intro y;cases y<;>simp[ace]
 | cons a x c =>
   intro y;cases y with
   | nil=>exact .inr (.inr rfl)
   | cons b y =>
     rw[DR,DR];simp only[wJ,nE,dv,QA];rcases aeb a b with h|rfl|h
     .exact .inl (.inl h)
     .rcases c y with h|rfl|h
      .exact .inl (.inr ⟨rfl,h⟩)
      .exact .inr (.inl rfl)
      .exact .inr (.inr<|.inr ⟨rfl,h⟩)
     .exact .inr (.inr<|.inl h)
theorem pI{x y:ao}(h:gf x y=true):gf y x=false:=by
 cases k:gf y x with
 | false=>rfl
 | true=>have:=AR h k;rw[jS] at this;cases this
theorem JW{x y:ao}(h:gf x y=true):x≠y:=λe=>by rw[e,jS] at h;cases h
theorem Ur(x y:ao):nt (YG (gf x y)<|bw x y)=gf y x:=by
 rcases AU x y with h|rfl|h
 .rw[h,pI h];rfl
 .rw[jo,jS];rfl
 .rw[h,pI h,bq λe=>JW h e.symm];rfl
def Py(x y:ao):Int:=if gf x y=true then -1 else if x=y then 0 else 1
def cmpL:List ao->List ao->Int
 | [],[]=>0
 | [],_::_=>-1
 | _::_,[]=>1
 | a::x,b::y=>if a=b then cmpL x y else if gf a b=true then -1 else 1
theorem mc:∀x,cmpL x x=0:=by
 intro x;induction x with
 | nil=>rfl
 | cons a x b=>rw[cmpL,aV rfl];exact b
theorem Xu:∀{x y},cmpL x y=0->x=y:=by
 intro x;induction x with
 | nil=>intro y h;cases y with|nil=>rfl|cons b y=>cases h
 | cons a x c =>
   intro y h;cases y with
   | nil=>cases h
   | cons b y =>
     rw[cmpL] at h;split at h
     .rename_i e;rw[e,c h]
     .split at h<;>cases h
theorem aao:∀x y,cmpL x y=- cmpL y x:=by
 intro x;induction x with
 | nil=>intro y;cases y<;>rfl
 | cons a x c =>
   intro y;cases y with
   | nil=>rfl
   | cons b y =>
     rw[cmpL,cmpL];by_cases e:a=b
     .rw[aV e,aV e.symm,c y]
     .have d:¬b=a:=λq=>e q.symm;rw[aX e,aX d];rcases AU a b with h|h|h
      .rw[aV h,aX (by rw[pI h];simp)]
      .exact absurd h e
      .rw[aX<|by rw[pI h];simp,aV h];rfl
theorem rn:∀{x y z},cmpL x y<0->cmpL y z<0->cmpL x z<0:=by
 intro x;induction x with
 | nil =>
   intro y z h k;cases z with
   | nil=>cases y with|nil=>exact absurd k (by simp[cmpL])|cons b y=>exact absurd k (by simp[cmpL])
   | cons c z=>exact(by decide:(-1:Int)<0)
 | cons a x j =>
   intro y z h k;cases y with
   | nil=>exact absurd h (by simp[cmpL])
   | cons b y =>
     cases z with
     | nil=>exact absurd k (by simp[cmpL])
     | cons c z =>
       rw[cmpL] at h k⊢;by_cases e:a=b
       .subst e;rw[aV rfl] at h;by_cases d:a=c
        .subst d;rw[aV rfl] at k⊢;exact j h k
        .rw[aX d] at k⊢;exact k
       .rw[aX e] at h;have g:gf a b=true:=by
         cases q:gf a b with
         | true=>rfl
         | false=>rw[q,aX (by simp)] at h;exact absurd h (by decide)
        by_cases d:b=c
        .subst d;rw[aX e];exact h
        .rw[aX d] at k;have i:gf b c=true:=by
          cases q:gf b c with
          | true=>rfl
          | false=>rw[q,aX (by simp)] at k;exact absurd k (by decide)
         have f:=AR g i;rw[aX<|JW f,aV f];decide
theorem RM(x r:List ao)(h:r≠[]):cmpL x (x++r)=-1:=by
 induction x with
 | nil=>cases r with|nil=>exact absurd rfl h|cons a r=>rfl
 | cons a x b=>rw[y8,cmpL,aV rfl];exact b
theorem aap{a b:Type}{x:List a}{y:List b}{i:Nat}{p:a×b}(h:(x.zip y)[i]?=some p):x[i]?=some p.1/\y[i]?=some p.2:=by
 rw[YN] at h;exact h
theorem RN{c:Type}[DecidableEq c]:∀(x y:List c),(x.zip y).all (λp=>decide (p.1=p.2))=decide (x.take (min x.length y.length)=y.take (min x.length y.length)):=by
 intro x;induction x with
 | nil=>intro y;simp
 | cons a x d =>
   intro y;cases y with
   | nil=>simp
   | cons b y =>
     rw[List.zip_cons_cons,MX,d y];simp only[dh,Nat.add_min_add_right,Vp];by_cases e:a=b
     .subst e;simp
     .simp[e]
theorem Pz{a:Type}[DecidableEq a]{x y:List a}(h:x.length=y.length):(x.zip y).all (λp=>decide (p.1=p.2))=decide (x=y):=by
 rw[RN,h,Zk,wI,<-h,wI]
theorem ob{a b:Type}{o:Option a}{x:a}{f:a->Option b}{r:Option b}(h:o=some x)(k:f x=r):ae o f=r:=by rw[h];exact k
theorem aaq{f:Type}(l:List f)(p:Nat->f->Bool) :
  (∃i x,l[i]?=some x/\p i x=true/\∀j y,j<i->l[j]?=some y->p j y=false)\/∀i x,l[i]?=some x->p i x=false:=by
 by_cases h:∃i x,l[i]?=some x/\p i x=true
 .left;have key:∀n i x,i<=n->l[i]?=some x->p i x=true->∃i x,l[i]?=some x/\p i x=true/\∀j y,j<i->l[j]?=some y->p j y=false:=by
   intro n;induction n with
   | zero =>
     intro i x g a b;obtain rfl:i=0:=by omega
     exact⟨0,x,a,b,λj y d=>by omega⟩
   | succ n m =>
     intro i x g a b;by_cases k:∃j y,j<i/\l[j]?=some y/\p j y=true
     .obtain⟨j,y,d,e,c⟩:=k;exact m j y (by omega) e c
     .refine⟨i,x,a,b,λj y d e=>?_⟩;cases c:p j y with
      | false=>rfl
      | true=>exact absurd ⟨j,y,d,e,c⟩ k
  obtain⟨i,x,a,b⟩:=h;exact key i i x (bZ _) a b
 .right;intro i x a;cases c:p i x with
  | false=>rfl
  | true=>exact absurd ⟨i,x,a,c⟩ h
theorem pT{o S R:Type}{f:S->Option (S⊕R)}(l:List o)(b:Int->S)(p:Nat->o->Bool)(c:Nat->o->R)(d:R)(s:l.length<=4294967296)
  (a:∀i x,l[i]?=some x->i<l.length->aB .i64 (i:Int) 1=((i+1:Nat):Int)->f (b (i:Int))=some (if p i x=true then .inr (c i x) else .inl (b ((i+1:Nat):Int))))
  (g:f (b (l.length:Int))=some (.inr d)) :
  (∃i x,l[i]?=some x/\p i x=true/\(∀j y,j<i->l[j]?=some y->p j y=false)/\Loop f (b 0)=some (c i x))\/((∀i x,l[i]?=some x->p i x=false)/\Loop f (b 0)=some d):=by
 have h:∀i x,l[i]?=some x->p i x=false->f (b (i:Int))=some (.inl<|b ((i+1:Nat):Int)):=λi x e n=>by
  have hi:=aD e;rw[a i x e hi<|aK<|by omega,n];rfl
 rcases aaq l p with ⟨i,x,e,n,k⟩|r
 .left;refine⟨i,x,e,n,k,?_⟩;have hi:=aD e;refine cP i (λj:Nat=>b (j:Int)) (λj q=>?_) ?_
  .have m:j<l.length:=by omega
   exact h j l[j] (gH m) (k j _ q<|gH m)
  .rw[a i x e hi<|aK<|by omega,n];rfl
 .right;refine⟨r,cP l.length (λj:Nat=>b (j:Int)) (λj k=>?_) g⟩;exact h j l[j] (gH k) (r j _<|gH k)
theorem rp{q S R:Type}{f:S->Option (S⊕R)}(l:List q)(n:Nat)(d:Int->S)(p:Nat->q->Bool)(a:Nat->q->R)(b:Nat->R)(u:min n l.length<=4294967296)
  (c:∀i x,l[i]?=some x->i<l.length->i<n->aB .i64 (i:Int) 1=((i+1:Nat):Int)->f (d (i:Int))=some (if p i x=true then .inr (a i x) else .inl (d ((i+1:Nat):Int))))
  (e:f (d ((min n l.length:Nat):Int))=some (.inr<|b<|min n l.length)) :
  (∃i x,i<n/\l[i]?=some x/\p i x=true/\(∀j y,j<i->l[j]?=some y->p j y=false)/\Loop f (d 0)=some (a i x))\/((∀i x,i<n->l[i]?=some x->p i x=false)/\Loop f (d 0)=some (b<|min n l.length)):=by
 have m:∀i x,(l.take n)[i]?=some x↔(i<n/\l[i]?=some x):=λi x=>by
  rw[fA];by_cases h:i<n
  .simp[h]
  .simp[h]
 have hlen:(l.take n).length=min n l.length:=fT;rcases pT (f:=f) (l.take n) d p a (b<|min n l.length) (by rw[hlen];exact u) (λi x g t k=>by
  obtain⟨r,o⟩:=(m i x).1 g;exact c i x o (aD o) r k) (by rw[hlen];exact e) with ⟨i,x,g,v,w,h⟩|⟨z,h⟩
 .obtain⟨r,o⟩:=(m i x).1 g;exact .inl ⟨i,x,r,o,v,λj y s A=>w j y s ((m j y).2 ⟨by omega,A⟩),h⟩
 .exact .inr ⟨λi x t g=>z i x ((m i x).2 ⟨t,g⟩),h⟩
theorem AV{n e S R:Type}{f:S->Option (S⊕R)}(l:List n)(j:e->Int->S)(b:e->Nat->n->e)(g:e->R)(c:e->Nat->Prop)(B:l.length<=4294967296)
  (h:∀s i x,l[i]?=some x->i<l.length->aB .i64 (i:Int) 1=((i+1:Nat):Int)->c s i->f (j s (i:Int))=some (.inl<|j (b s i x) ((i+1:Nat):Int))/\c (b s i x) (i+1))
  (k:∀s,c s l.length->f (j s (l.length:Int))=some (.inr<|g s)) (s:e) (v:c s 0):∃t,c t l.length/\Loop f (j s 0)=some (g t)/\t=(l.zipIdx).foldl (λa p=>b a p.2 p.1) s:=by
 have key:∀(rest pre:List n) (s:e),l=pre++rest->c s pre.length->∃t,c t l.length/\Loop f (j s (pre.length:Int))=some (g t)/\t=(rest.zipIdx pre.length).foldl (λa p=>b a p.2 p.1) s:=by
  intro rest;induction rest with
  | nil =>
    intro pre s d m;rw[y9] at d;subst d;exact⟨s,m,by rw[aI,k s m];rfl,rfl⟩
  | cons x r w =>
    intro pre s d m;have hx:l[pre.length]?=some x:=by rw[d];simp
    have o:=aD hx;obtain⟨y,z⟩:=h s pre.length x hx o (aK<|by omega) m;obtain⟨t,A,q,u⟩:=w (pre++[x]) (b s pre.length x) (by rw[d];simp) (by rw[gI];exact z);rw[gI] at q u;exact⟨t,A,by rw[aI,y];exact q,u⟩
 exact key l [] s rfl v
theorem RO{e h S R:Type}{f:S->Option (S⊕R)}(l:List e)(b:List h->Int->S)(g:e->List h)(c:R)(m:l.length<=4294967296)
  (a:∀i x,l[i]?=some x->i<l.length->aB .i64 (i:Int) 1=((i+1:Nat):Int)->f (b ((l.take i).flatMap g) (i:Int))=some (.inl<|b ((l.take i).flatMap g++g x) ((i+1:Nat):Int)))
  (d:f (b (l.flatMap g) (l.length:Int))=some (.inr c)):Loop f (b [] 0)=some c:=by
 refine cP l.length (λj:Nat=>b ((l.take j).flatMap g) (j:Int)) (λj k=>?_) (by simp only[wI];exact d);have hx:l[j]?=some l[j]:=gH k;have:=a j l[j] hx k (aK<|by omega);rw[this,Ba,hx,List.flatMap_append];simp
theorem lO{a:Type}{l:List a}(h:l.length<=4294967296):fits (len l)=true:=Xk h
theorem bR{a:Type}{l:List a}{x:a}:x∈l↔∃i:Nat,l[i]?=some x:=by rw[MM]
abbrev Tx:=ao
abbrev Nm:=Tx×List Tx×ah
def Small(l:List Nm):Prop:=l.length<=4294967296/\∀x∈l,x.2.1.length<=4294967296
set_option maxRecDepth 100000
def allowed:Tx:=[97,98,99,100,101,102,103,104,105,106,107,108,109,110,111,112,113,114,115,116,117,118,119,120,121,122,48,49,50,51,52,53,54,55,56,57,46,95,45]
def aar(c:UInt8):Bool:=allowed.contains c
def rX(s:Tx):Bool:=decide (1<=s.length)&&decide (s.length<=32)&&s.all aar
def RP(c:UInt8):Bool:=aj (aj (aj (aj (aj (nt<|ba (u8 c) 97) (ba 122<|u8 c) true) (aj (nt<|ba (u8 c) 48) (ba 57<|u8 c) true) false) (nt<|aZ (u8 c) 46) false) (nt<|aZ (u8 c) 95) false) (nt<|aZ (u8 c) 45) false
theorem RQ(c:UInt8):RP c=!aar c:=by
 have key:∀n:Fin 256,RP (UInt8.ofNat n.val)=!aar (UInt8.ofNat n.val):=by decide +kernel
 have:=key ⟨c.toNat,c.toNat_lt⟩;simpa using this
theorem yS(s:Tx)(d:s.length<=4294967296):nj (s,())=some (rX s,()):=by
 unfold nj rX;rcases pT (f:=mv (s,())) s (λi=>((false,i,()),())) (λ_ x=>RP x) (λi x=>(1,(false,(i:Int),()),())) (0,(false,len s,()),()) d (λi x a b e=>by
  unfold mv;dsimp only;rw[aq b,ab,ar a,aa,e];show aj (RP x) _ _=_
  cases RP x<;>rfl) (by unfold mv;dsimp only;rw[aC,af];rfl) with ⟨i,x,a,c,l,h⟩|⟨g,h⟩
 .rw[h,aa];have:s.all aar=false:=by
   rw[Vr];refine⟨x,bR.2 ⟨i,a⟩,?_⟩;rw[RQ] at c;simpa using c
  rw[this,Vw];rfl
 .rw[h,aa];have:s.all aar=true:=by
   rw[sb];intro x a;obtain⟨i,b⟩:=bR.1 a;have:=g i x b;rw[RQ] at this;simpa using this
  rw[this,Zh];have j:da 1 (len s)=decide (1<=s.length):=by unfold da len;apply jV.2;omega
  have k:da (len s) 32=decide (s.length<=32):=by unfold da len;apply jV.2;omega
  show some (aj (da 1<|len s) (da (len s) 32) false,())=_
  rw[j,k];cases decide (1<=s.length)<;>rfl
end Go.Ge
namespace Go.Ge
variable [Lp]
open Go.Lib
def vG(l:List Tx):Bool:=l.all rX&&decide l.Nodup&&decide (l.length<=4)
theorem x6(l:List Tx)(F:l.length<=4294967296)(G:∀x∈l,x.length<=4294967296):l6 (l,())=some (vG l,()):=by
 unfold l6;have inner:∀(r:Bool) (i:Nat) (x:Tx),l[i]?=some x->(∃j y,j<i/\l[j]?=some y/\y=x/\∃q,Loop (ia (l,()) ((r,(i:Int),()),())) ((r,(0:Int),()),())=some (1,(false,q),()))\/((∀j y,j<i->l[j]?=some y->y≠x)/\∃q,Loop (ia (l,()) ((r,(i:Int),()),())) ((r,(0:Int),()),())=some (0,(r,q),())):=by
  intro r i x a;have hi:=aD a;have s:min i l.length=i:=by omega
  rcases rp (f:=ia (l,()) ((r,(i:Int),()),())) l i (λj=>((r,j,()),())) (λ_ y=>decide (y=x)) (λj y=>(1,(false,(j:Int),()),())) (λn=>(0,(r,(n:Int),()),())) (by omega) (λj y k e b v=>by
   unfold ia;dsimp only;rw[aJ<|show(j:Int)<(i:Int) by omega,ab,ar k,aa,ar a,aa,sX,v];by_cases h:y=x<;>simp[bw,h]) (by
   unfold ia;dsimp only;rw[s,aA (qJ _),af]) with ⟨j,y,b,k,g,_,h⟩|⟨p,h⟩
  .exact .inl ⟨j,y,b,k,kH g,_,h⟩
  .exact .inr ⟨λj y b k=>Ol (p j y b k),_,h⟩
 let bad:Nat->Tx->Bool:=λi x=>!rX x||(l.take i).contains x
 have c:∀i x,l[i]?=some x->((l.take i).contains x=true↔∃j y,j<i/\l[j]?=some y/\y=x):=by
  intro i x a;simp only[List.contains_eq_mem,nE];rw[bR];constructor
  .rintro⟨j,e⟩;rw[fA] at e;split at e
   .exact⟨j,x,by assumption,e,rfl⟩
   .cases e
  .rintro⟨j,y,b,k,rfl⟩;exact⟨j,by rw[fA,aV b];exact k⟩
 rcases pT (f:=nT (l,())) l (λi=>((false,i,()),())) bad (λi x=>(1,(false,(i:Int),()),())) (0,(false,len l,()),()) F (λi x a hi v=>by
  unfold nT;dsimp only;rw[aq hi,ab,ar a,aa,yS x (G x<|bR.2 ⟨i,a⟩),aa];dsimp only;cases w:rX x with
  | false=>simp[bad,w,nt,aj]
  | true =>
    rw[aE,af];rcases inner false i x a with ⟨j,y,m,o,t,q,h⟩|⟨p,q,h⟩
    .have d:=(c i x a).2 ⟨j,y,m,o,t⟩;rw[h,aa];show some _=_
     simp only[bad,w,d];rfl
    .have d:(l.take i).contains x=false:=by
      rw[<-Bool.not_eq_true];intro z;obtain⟨j,y,m,o,t⟩:=(c i x a).1 z;exact p j y m o t
     rw[h,aa,v];simp only[bad,w,d];rfl) (by unfold nT;dsimp only;rw[aC,af];rfl) with ⟨i,x,a,g,e,h⟩|⟨p,h⟩
 .rw[h,aa];have:vG l=false:=by
   unfold vG;simp only[bad,wJ,j7] at g;rcases g with g|g
   .have:l.all rX=false:=by rw[Vr];exact⟨x,bR.2 ⟨i,a⟩,by simpa using g⟩
    rw[this];rfl
   .have:¬l.Nodup:=λA=>by
     obtain⟨j,y,m,o,t⟩:=(c i x a).1 g;obtain⟨B,u⟩:=fU.1 a;obtain⟨C,D⟩:=fU.1 o;exact ED.1 A j i C B m (by rw[D,u,t])
    rw[cU this,Vw];rfl
  rw[this];rfl
 .rw[h,aa];have m:l.all rX=true:=by
   rw[sb];intro x E;obtain⟨i,hi⟩:=bR.1 E;have:=p i x hi;simp only[bad,vW,FV] at this;exact this.1
  have o:l.Nodup:=by
   refine ED.2 λj i e hi b H=>?_;have:=p i l[i] (gH hi);simp only[bad,vW] at this;have z:=(c i l[i]<|gH hi).2 ⟨j,l[j],b,gH e,H⟩;rw[z] at this;cases this.2
  show some (da (len l) 4,())=_
  unfold vG;rw[m,eu o];have:da (len l) 4=decide (l.length<=4):=by unfold da len;apply jV.2;omega
  rw[this];rfl
end Go.Ge
namespace Go.Ge
variable [Lp]
theorem JX(l:List Tx)(h:l.length<=4294967296):cg (l,())=some (l,()):=by
 unfold cg;dsimp only;rw[lO h];rfl
theorem Hz(x y:List Tx)(l:x.length<=4294967296):eh (x,y,())=some (decide<|x=y,()):=by
 unfold eh;dsimp only;rw[RL];by_cases g:x.length=y.length
 .rw[eu g,aE,af];rcases pT (f:=jy (x,y,())) x (λi=>((false,i,()),())) (λi a=>decide (y[i]?≠some a)) (λi a=>(1,(false,(i:Int),()),())) (0,(false,len x,()),()) l (λi a j m c=>by
   unfold jy;dsimp only;have b:i<y.length:=by omega
   rw[aq m,ab,aq b,ab,ar j,aa,ar (gH b),aa,V4,sX,c,gH b];by_cases h:a=y[i]
   .simp[bw,h]
   .have n:¬y[i]=a:=λe=>h e.symm;simp[bw,h,n]) (by unfold jy;dsimp only;rw[aC,af,af];rfl) with ⟨i,a,j,k,p,h⟩|⟨o,h⟩
  .rw[h,aa];have:x≠y:=λe=>by subst e;rw[j] at k;simp at k
   rw[cU this];rfl
  .rw[h,aa];have:x=y:=by
    apply Lj;intro i;cases d:x[i]? with
    | none =>
      have:x.length<=i:=ac5.1 d;exact(ac5.2<|by omega).symm
    | some a =>
      have:=o i a d;simp at this;exact this.symm
   rw[eu this];rfl
 .rw[cU g,az,ab];have:x≠y:=λe=>g (by rw[e]);rw[cU this]
theorem rY{a:Type}{n:Nat}{l:List a}{c:Int}(b:c=n):aj (ba ((min n l.length:Nat):Int)<|len l) (ba ((min n l.length:Nat):Int) c) false=false:=by
 subst b;by_cases h:l.length<=n
 .rw[Y9 h,aC,af]
 .rw[pc<|by omega,aA (qJ _)];cases ba (n:Int) (len l)<;>rfl
theorem kN{a:Type}{l:List a}{n:Nat}{c:Int}(b:c=n):da (len l) c=decide (l.length<=n):=by subst b;exact x4 n l
theorem hJ{a:Type}{l:List a}{n:Nat}{c:Int}(b:c=n):ba c (len l)=decide (n<l.length):=by subst b;exact H9 n l
def vg(l:List Tx):Prop:=l.length<=8/\∀x∈l,x.length<=100
def afy(l:List Nm):Prop:=l.length<=40/\∀x∈l,x.1.length<=100/\vg x.2.1
theorem vg.small{l:List Tx}(h:vg l):l.length<=4294967296:=by have:=h.1;omega
theorem vg.each{l:List Tx}(h:vg l):∀x∈l,x.length<=4294967296:=λx a=>by have:=h.2 x a;omega
theorem afy.small{l:List Nm}(h:afy l):Small l:=⟨by have:=h.1;omega,λx a=>by have:=(h.2 x a).2.1;omega⟩
def id1:Tx:=[48,48,48,48,48,49]
abbrev Item:=Tx×Tx×Tx×ah
abbrev ax:=Tx×Tx×List Tx×Tx×Int×Int×Bool×ah
abbrev nu:=Tx×List Tx×Tx×Tx×List Item×ah
abbrev zK:=Tx×List Tx×Tx×Tx×Tx×List Item×ah
abbrev zL:=Int×List ax×List nu×List zK×ah
theorem AW(l:List Tx):∃b,kM (l,())=some (b,())/\(b=true->vg l):=by
 unfold kM;rcases rp (f:=qm (l,())) l 8 (λi=>((false,i,()),())) (λ_ x=>decide (100<x.length)) (λi x=>(1,(false,(i:Int),()),())) (λn=>(0,(false,(n:Int),()),())) (by omega) (λi x d a g j=>by
  unfold qm;dsimp only;rw[aq a,ab,aJ (show(i:Int)<8 by omega),ab,ar d,aa,hJ (n:=100) (c:=100) rfl,sX,j];by_cases h:100<x.length<;>simp[h]) (by unfold qm;dsimp only;rw[rY (c:=8) rfl,af]) with ⟨i,x,a,d,o,_,h⟩|⟨k,h⟩
 .rw[h];exact⟨false,rfl,λh=>by cases h⟩
 .rw[h];refine⟨_,rfl,λe=>?_⟩;dsimp only at e;rw[kN (n:=8) (c:=8) rfl] at e;have m:=kH e;refine⟨m,λx d=>?_⟩;obtain⟨i,a⟩:=bR.1 d;have:=k i x (by have:=aD a;omega) a;simpa using this
theorem NA(l:List Item):∃b,dY (l,())=some (b,()):=by
 unfold dY;rcases rp (f:=ef (l,())) l 8 (λi=>((false,i,()),())) (λ_ x=>decide (100<x.1.length)||decide (200<x.2.2.1.length)) (λi x=>(1,(false,(i:Int),()),())) (λn=>(0,(false,(n:Int),()),())) (by omega) (λi x a d e g=>by
  unfold ef;dsimp only;rw[aq d,ab,aJ (show(i:Int)<8 by omega),ab,ar a,aa,hJ (n:=100) (c:=100) rfl,aa,hJ (n:=200) (c:=200) rfl,g];by_cases h:100<x.1.length
  .simp[h,aj,nt,ae]
  .by_cases j:200<x.2.2.1.length<;>simp[h,j,aj,nt,ae]) (by unfold ef;dsimp only;rw[rY (c:=8) rfl,af]) with ⟨i,x,d,a,k,_,h⟩|⟨m,h⟩
 .rw[h];exact⟨false,rfl⟩
 .rw[h];exact⟨_,rfl⟩
structure FewB (b:zL):Prop where
 ll:b.2.1.length<=40
 ln:∀x∈b.2.1,vg x.2.2.1
 il:b.2.2.1.length<=40
 qL:∀x∈b.2.2.1,vg x.2.1
 bl:b.2.2.2.1.length<=40
 bn:∀x∈b.2.2.2.1,vg x.2.1
theorem aas(b:zL):∃c,pH (b,())=some (c,())/\(c=true->FewB b):=by
 obtain⟨a,d⟩:∃a:List Tx->Bool,∀l,kM (l,())=some (a l,())/\(a l=true->vg l):=⟨λl=>Classical.choose (AW l),λl=>Li (AW l)⟩;obtain⟨j,k⟩:∃a:List Item->Bool,∀l,dY (l,())=some (a l,()):=⟨λl=>Classical.choose (NA l),λl=>Li (NA l)⟩;obtain⟨n,p,r,s,u⟩:=b;unfold pH;rcases rp (f:=ix ((n,p,r,s,u),())) p 40 (λi=>((false,i,()),())) (λ_ x=>!a x.2.2.1) (λi x=>(1,(false,(i:Int),()),())) (λn=>(0,(false,(n:Int),()),())) (by omega) (λi x e g t v=>by
  unfold ix;dsimp only;rw[aq g,ab,aJ (show(i:Int)<40 by omega),ab,ar e,aa,(d _).1,aa,V4,v];cases a x.2.2.1<;>rfl) (by unfold ix;dsimp only;rw[rY (c:=40) rfl,af]) with ⟨i,x,g,e,B,_,h⟩|⟨w,h⟩
 .rw[h];exact⟨false,rfl,λh=>by cases h⟩
 rw[h,aa];dsimp only;rw[bV,ab];rcases rp (f:=iy ((n,p,r,s,u),())) r 40 (λi=>((false,i,()),())) (λ_ x=>!a x.2.1||decide (200<x.2.2.2.1.length)||!j x.2.2.2.2.1) (λi x=>(1,(false,(i:Int),()),())) (λn=>(0,(false,(n:Int),()),())) (by omega) (λi x e g t v=>by
  unfold iy;dsimp only;rw[aq g,ab,aJ (show(i:Int)<40 by omega),ab,ar e,aa,(d _).1,aa,aa,aa,hJ (n:=200) (c:=200) rfl,k,aa,v];dsimp only;cases a x.2.1 with
  | false=>rfl
  | true =>
    by_cases m:200<x.2.2.2.1.length
    .simp[m,aj,nt,ae]
    .cases C:j x.2.2.2.2.1<;>simp[m,aj,nt,ae]) (by unfold iy;dsimp only;rw[rY (c:=40) rfl,af]) with ⟨i,x,g,e,B,_,h⟩|⟨y,h⟩
 .rw[h];exact⟨false,rfl,λh=>by cases h⟩
 rw[h,aa];dsimp only;rw[bV,ab];rcases rp (f:=iz ((n,p,r,s,u),())) s 40 (λi=>((false,i,()),())) (λ_ x=>!a x.2.1||decide (200<x.2.2.2.2.1.length)||!j x.2.2.2.2.2.1) (λi x=>(1,(false,(i:Int),()),())) (λn=>(0,(false,(n:Int),()),())) (by omega) (λi x e g t v=>by
  unfold iz;dsimp only;rw[aq g,ab,aJ (show(i:Int)<40 by omega),ab,ar e,aa,(d _).1,aa,aa,aa,hJ (n:=200) (c:=200) rfl,k,aa,v];dsimp only;cases a x.2.1 with
  | false=>rfl
  | true =>
    by_cases m:200<x.2.2.2.2.1.length
    .simp[m,aj,nt,ae]
    .cases C:j x.2.2.2.2.2.1<;>simp[m,aj,nt,ae]) (by unfold iz;dsimp only;rw[rY (c:=40) rfl,af]) with ⟨i,x,g,e,B,_,h⟩|⟨z,h⟩
 .rw[h];exact⟨false,rfl,λh=>by cases h⟩
 rw[h,aa];refine⟨_,rfl,λo=>?_⟩;rw[kN (n:=40) (c:=40) rfl,kN (n:=40) (c:=40) rfl,kN (n:=40) (c:=40) rfl] at o;have A:p.length<=40:=by
  by_cases q:p.length<=40
  .exact q
  .rw[cU q] at o;cases o
 have m:r.length<=40:=by
  by_cases q:r.length<=40
  .exact q
  .rw[eu A,cU q] at o;cases o
 have D:s.length<=40:=by
  by_cases q:s.length<=40
  .exact q
  .rw[eu A,eu m,cU q] at o;cases o
 refine⟨A,λx e=>?_,m,λx e=>?_,D,λx e=>?_⟩
 .dsimp only at e;obtain⟨i,g⟩:=bR.1 e;have:=w i x (by have:=aD g;omega) g;exact(d _).2 (by simpa using this)
 .dsimp only at e;obtain⟨i,g⟩:=bR.1 e;have:=y i x (by have:=aD g;omega) g;simp only[vW,FV] at this;exact(d _).2 this.1.1
 .dsimp only at e;obtain⟨i,g⟩:=bR.1 e;have:=z i x (by have:=aD g;omega) g;simp only[vW,FV] at this;exact(d _).2 this.1.1
def ofL(x:ax):List Nm:=if x.2.2.2.2.2.2.1=true then [(x.1,x.2.2.1,())] else []
def AX(n x:Int):Int:=vd .u32 (pd .u32 x n) (kb .u32 x<|32-n)
theorem oO{n m:Int}(h:mL .u64 (ka .u64<|cd .i64 0 n) 31=m)(a:ba m 0=false)(b:cd .u64 32 m=n)(c:ba n 0=false)(d:32-n=m)(x:Int):b5 (x,n,())=some (AX n x,()):=by
 unfold b5 jN AX;dsimp only;rw[h,a,af,b,c,af,aa,d,Up]
theorem rZ{n:Int}(a:ba n 0=false)(b:cd .i64 32 n=32-n)(c:ba (32-n) 0=false)(x:Int):bS (x,n,())=some (AX n x,()):=by
 unfold bS AX;dsimp only;rw[a,af,b,c,af]
theorem r7(x:Int):b5 (x,7,())=some (AX 7 x,()):=oO (m:=25) (by decide) (by decide) (by decide) (by decide) (by decide) x
theorem r18(x:Int):b5 (x,18,())=some (AX 18 x,()):=oO (m:=14) (by decide) (by decide) (by decide) (by decide) (by decide) x
theorem r17(x:Int):b5 (x,17,())=some (AX 17 x,()):=oO (m:=15) (by decide) (by decide) (by decide) (by decide) (by decide) x
theorem r19(x:Int):b5 (x,19,())=some (AX 19 x,()):=oO (m:=13) (by decide) (by decide) (by decide) (by decide) (by decide) x
theorem r6(x:Int):b5 (x,6,())=some (AX 6 x,()):=oO (m:=26) (by decide) (by decide) (by decide) (by decide) (by decide) x
theorem r11(x:Int):b5 (x,11,())=some (AX 11 x,()):=oO (m:=21) (by decide) (by decide) (by decide) (by decide) (by decide) x
theorem r25(x:Int):b5 (x,25,())=some (AX 25 x,()):=oO (m:=7) (by decide) (by decide) (by decide) (by decide) (by decide) x
theorem r2(x:Int):b5 (x,2,())=some (AX 2 x,()):=oO (m:=30) (by decide) (by decide) (by decide) (by decide) (by decide) x
theorem r13(x:Int):b5 (x,13,())=some (AX 13 x,()):=oO (m:=19) (by decide) (by decide) (by decide) (by decide) (by decide) x
theorem r22(x:Int):b5 (x,22,())=some (AX 22 x,()):=oO (m:=10) (by decide) (by decide) (by decide) (by decide) (by decide) x
theorem t7(x:Int):bS (x,7,())=some (AX 7 x,()):=rZ (by decide) (by decide) (by decide) x
theorem t18(x:Int):bS (x,18,())=some (AX 18 x,()):=rZ (by decide) (by decide) (by decide) x
theorem t17(x:Int):bS (x,17,())=some (AX 17 x,()):=rZ (by decide) (by decide) (by decide) x
theorem t19(x:Int):bS (x,19,())=some (AX 19 x,()):=rZ (by decide) (by decide) (by decide) x
theorem t6(x:Int):bS (x,6,())=some (AX 6 x,()):=rZ (by decide) (by decide) (by decide) x
theorem t11(x:Int):bS (x,11,())=some (AX 11 x,()):=rZ (by decide) (by decide) (by decide) x
theorem t25(x:Int):bS (x,25,())=some (AX 25 x,()):=rZ (by decide) (by decide) (by decide) x
theorem t2(x:Int):bS (x,2,())=some (AX 2 x,()):=rZ (by decide) (by decide) (by decide) x
theorem t13(x:Int):bS (x,13,())=some (AX 13 x,()):=rZ (by decide) (by decide) (by decide) x
theorem t22(x:Int):bS (x,22,())=some (AX 22 x,()):=rZ (by decide) (by decide) (by decide) x
def word(b:List Int)(t:Nat):Int :=
 vd .u32 (vd .u32 (vd .u32 (kb .u32 (ka .u32<|b.getD (4*t) 0) 24)<|kb .u32 (ka .u32<|b.getD (4*t+1) 0) 16)<|kb .u32 (ka .u32<|b.getD (4*t+2) 0) 8) (ka .u32<|b.getD (4*t+3) 0)
def fL(n:Nat):List Int:=List.replicate n 0
def xn(b:List Int):Nat->List Int
 | 0=>fL 64
 | t+1=>(xn b t).set t (word b t)
theorem sG(b:List Int)(t:Nat):(xn b t).length=64:=by
 induction t with
 | zero=>rfl
 | succ t a=>simp[xn,a]
theorem Xv(b:List Int):∀(t j:Nat),t<=j->j<64->(xn b t).getD j 0=0:=by
 intro t;induction t with
 | zero =>
   intro j _ a;show(List.replicate 64 (0:Int)).getD j 0=0
   rw[Of,Vl,aV a];rfl
 | succ t c =>
   intro j e d;have:=c j (by omega) d;simp only[xn,Of,Vq] at this⊢;rw[aX<|by omega];exact this
def afz(p:List Int)(t:Nat):Int :=
 aB .u32 (aB .u32 (aB .u32 (fV .u32 (fV .u32 (AX 17<|p.getD (t-2) 0)<|AX 19<|p.getD (t-2) 0)<|pd .u32 (p.getD (t-2) 0) 10)<|p.getD (t-7) 0)
  (fV .u32 (fV .u32 (AX 7<|p.getD (t-15) 0)<|AX 18<|p.getD (t-15) 0)<|pd .u32 (p.getD (t-15) 0) 3)) (p.getD (t-16) 0)
def HA(l:List Int):Nat->List Int
 | 0=>l
 | k+1=>(HA l k).set (16+k) (afz (HA l k)<|16+k)
theorem Cn(l:List Int)(k:Nat):(HA l k).length=l.length:=by
 induction k with
 | zero=>rfl
 | succ k a=>simp[HA,a]
def uN(b:List Int):List Int:=HA (xn b 16) 48
theorem DT(b:List Int):(uN b).length=64:=by unfold uN;rw[Cn,sG]
theorem four{t:Nat}(a:t<64):ik .i64 4 (t:Int)=((4*t:Nat):Int):=by rw[zJ (by omega)<|by omega];omega
theorem RR(b:List Int)(s:b.length=64)(t:Nat)(o:t<16)(w:List Int)(l:w.length=64)(m:w.getD t 0=0)(u v:ah)(y:List Int×ah) :
  Loop (jq (b,u) (((t:Int),v),y)) ((0,()),w,())=some (((4:Int),()),w.set t<|word b t,()):=by
 let a:Nat->Int:=λj=>match j with
  | 0=>0
  | 1=>vd .u32 (kb .u32 0 8) (ka .u32<|b.getD (4*t) 0)
  | 2=>vd .u32 (kb .u32 (vd .u32 (kb .u32 0 8)<|ka .u32<|b.getD (4*t) 0) 8) (ka .u32<|b.getD (4*t+1) 0)
  | 3=>vd .u32 (kb .u32 (vd .u32 (kb .u32 (vd .u32 (kb .u32 0 8)<|ka .u32<|b.getD (4*t) 0) 8)<|ka .u32<|b.getD (4*t+1) 0) 8) (ka .u32<|b.getD (4*t+2) 0)
  | _=>word b t
 have c:∀j,j<4->a (j+1)=vd .u32 (kb .u32 (a j) 8) (ka .u32<|b.getD (4*t+j) 0):=by
  intro j n;rcases(by omega:j=0\/j=1\/j=2\/j=3) with rfl|rfl|rfl|rfl
  .rfl
  .rfl
  .rfl
  .exact(acd _ _ _ _).symm
 have d:w=w.set t 0:=by
  apply Lj;intro j;rw[Vq];split
  .rename_i e;subst e;rw[aV<|by omega];rw[Of,gH (by omega)] at m;rw[gH<|by omega];simpa using m
  .rfl
 have:=cP (f:=jq (b,u) (((t:Int),v),y)) (r:=(((4:Int),()),w.set t<|word b t,())) 4 (λj=>(((j:Int),()),w.set t<|a j,())) (λj n=>by
  unfold jq;dsimp only;rw[four<|by omega,fk (by omega) (by omega)];have g:minus (((4*t:Nat):Int)+4) ((4*t:Nat):Int)=4:=by unfold minus;omega
  rw[g,aJ (by omega),ab,aU (by omega) (by omega),ab,aU (by omega) (by omega)];have p:(w.set t<|a j).length=64:=by simp[l]
  have q:(w.set t<|a j).getD t 0=a j:=by simp[Of,l,o,(by omega:t<64)]
  rw[np b 0 (i:=plus ((4*t:Nat):Int) j) (k:=4*t+j) (by unfold plus;omega)<|by omega,aa,ab,fl _ 0 (by rw[p];omega),q,aa,aA (by decide),af,ab,aa,aa,aa,cR,aK (by omega),gD,List.set_set,c j n])
  (by
   unfold jq;dsimp only;rw[four<|by omega,fk (by omega) (by omega)];have g:minus (((4*t:Nat):Int)+4) ((4*t:Nat):Int)=4:=by unfold minus;omega
   rw[g,aA (by omega),af,dJ];rfl)
 have h:w.set t (a 0)=w:=d.symm;rw[h] at this;exact this
theorem V5:([0,0,0,0,0,0,0,0,0,0,0,0,0,0,0,0,0,0,0,0,0,0,0,0,0,0,0,0,0,0,0,0,0,0,0,0,0,0,0,0,0,0,0,0,0,0,0,0,0,0,0,0,0,0,0,0,0,0,0,0,0,0,0,0]:List Int)=fL 64:=rfl
theorem RS(b:List Int)(a:b.length=64)(u:ah):Loop (jr (b,u)) ((0,()),fL 64,())=some (((16:Int),()),xn b 16,()):=by
 refine cP (f:=jr (b,u)) 16 (λt=>(((t:Int),()),xn b t,())) (λt c=>?_) ?_
 .unfold jr;dsimp only;rw[aJ<|by omega,ab,four (by omega),fk (by omega) (by omega),aP (by omega) (by omega) (by omega),ab,RR b a t c _ (sG b t) (Xv b t t (bZ _)<|by omega),aa,cR,aK (by omega)];rfl
 .unfold jr;dsimp only;rw[aA<|by omega,af,dJ];rfl
theorem Xw(l:List Int)(a:l.length=64):Loop js ((16,()),l,())=some (((64:Int),()),HA l 48,()):=by
 refine cP (f:=js) 48 (λk=>((((16+k:Nat):Int),()),HA l k,())) (λk b=>?_) ?_
 .have hlen:(HA l k).length=64:=by rw[Cn,a]
  unfold js;dsimp only;rw[aJ<|by omega,ab,dx (by omega) (by omega),dx (by omega) (by omega),dx (by omega) (by omega),dx (by omega) (by omega),
   aU (by omega) (by omega),ab,np _ 0 (k:=16+k-2) (by omega) (by omega),aa,aU (by omega) (by omega),ab,np _ 0 (k:=16+k-15) (by omega) (by omega),aa,
   r7,aa,r18,aa,aA (by decide),af,r17,aa,r19,aa,aA (by decide),af,aU (by omega) (by omega),ab,np _ 0 (k:=16+k-7) (by omega) (by omega),aa,
   aU (by omega) (by omega),ab,np _ 0 (k:=16+k-16) (by omega) (by omega),aa,aU (by omega) (by omega),ab,fl _ 0 (by omega),aa,aa,aa,cR,aK (by omega),gD]
  rfl
 .unfold js;dsimp only;rw[aA<|by omega,af,dJ];rfl
theorem PA(b:List Int)(a:b.length=64)(u:ah):qc (b,u)=some (uN b,()):=by
 unfold qc;rw[V5,RS b a,aa];dsimp only;rw[Xw _<|sG b 16,aa];dsimp only[uN]
theorem aat(s:ao){i:Nat}(h:i<s.length)(x:UInt8)(a:s[i]?=some x):u8 x=(av s).getD i 0:=by
 simp[av,Of,a,u8]
theorem Xx(h:List Int)(s:ao)(p:s.length=64)(u:ah):Loop (hM (h,s,u)) ((0,()),fL 64,())=some (((16:Int),()),xn (av s) 16,()):=by
 have key:∀b:List Int,b=av s->Loop (hM (h,s,u)) ((0,()),fL 64,())=some (((16:Int),()),xn b 16,()):=by
  intro b a;refine cP (f:=hM (h,s,u)) 16 (λt=>(((t:Int),()),xn b t,())) (λt q=>?_) ?_
  .have at_:∀(i:Int) (j:Nat),i=j->j<64->∃x,idx s i=some x/\u8 x=b.getD j 0:=by
    intro i j e r;subst e;refine⟨s[j],?_,by rw[a];exact aat s (by omega) _ (gH<|by omega)⟩;rw[vu,gH]
   unfold hM;dsimp only;rw[aJ<|by omega,ab,four (by omega),fk (by omega) (by omega),fk (by omega) (by omega),fk (by omega) (by omega)];obtain⟨v,c,d⟩:=at_ ((4*t:Nat):Int) (4*t) rfl (by omega);obtain⟨w,g,k⟩:=at_ (((4*t:Nat):Int)+1) (4*t+1) (by omega) (by omega);obtain⟨y,l,m⟩:=at_ (((4*t:Nat):Int)+2) (4*t+2) (by omega) (by omega);obtain⟨z,n,o⟩:=at_ (((4*t:Nat):Int)+3) (4*t+3) (by omega) (by omega);rw[c,aa,aA (by decide),af,g,aa,aA (by decide),af,l,aa,aA (by decide),af,n,aa,aU (by omega) (by omega),ab,
    fl _ 0 (by rw[sG];omega),aa,aa,aa,cR,aK (by omega),gD,d,k,m,o]
   rfl
  .unfold hM;dsimp only;rw[aA<|by omega,af,dJ];rfl
 exact key _ rfl
theorem acf(l:List Int)(a:l.length=64):Loop kj ((16,()),l,())=some (((64:Int),()),HA l 48,()):=by
 refine cP (f:=kj) 48 (λk=>((((16+k:Nat):Int),()),HA l k,())) (λk b=>?_) ?_
 .have hlen:(HA l k).length=64:=by rw[Cn,a]
  unfold kj;dsimp only;rw[aJ<|by omega,ab,dx (by omega) (by omega),dx (by omega) (by omega),dx (by omega) (by omega),dx (by omega) (by omega),
   aU (by omega) (by omega),ab,np _ 0 (k:=16+k-2) (by omega) (by omega),aa,aU (by omega) (by omega),ab,np _ 0 (k:=16+k-15) (by omega) (by omega),aa,
   t17,aa,t19,aa,aA (by decide),af,aU (by omega) (by omega),ab,np _ 0 (k:=16+k-7) (by omega) (by omega),aa,t7,aa,t18,aa,aA (by decide),af,
   aU (by omega) (by omega),ab,np _ 0 (k:=16+k-16) (by omega) (by omega),aa,aU (by omega) (by omega),ab,fl _ 0 (by omega),aa,aa,aa,cR,aK (by omega),gD]
  rfl
 .unfold kj;dsimp only;rw[aA<|by omega,af,dJ];rfl
abbrev W8:=Int×Int×Int×Int×Int×Int×Int×Int
def rnd(k w:Int):W8->W8
 | (a,b,c,d,e,f,g,h) =>
   let one:=aB .u32 (aB .u32 (aB .u32 (aB .u32 h<|fV .u32 (fV .u32 (AX 6 e)<|AX 11 e)<|AX 25 e)<|fV .u32 g<|mL .u32 e<|fV .u32 f g) k) w
   let two:=aB .u32 (fV .u32 (fV .u32 (AX 2 a)<|AX 13 a)<|AX 22 a) (vd .u32 (mL .u32 a b)<|mL .u32 c<|vd .u32 a b)
   (aB .u32 one two,a,b,c,aB .u32 d one,e,f,g)
def DU(K w:List Int)(s:W8):Nat->W8
 | 0=>s
 | t+1=>rnd (K.getD t 0) (w.getD t 0) (DU K w s t)
def sH:List Int:=[1116352408,1899447441,3049323471,3921009573,961987163,1508970993,2453635748,2870763221,3624381080,310598401,607225278,1426881987,1925078388,2162078206,2614888103,3248222580,3835390401,4022224774,264347078,604807628,770255983,1249150122,1555081692,1996064986,2554220882,2821834349,2952996808,3210313671,3336571891,3584528711,113926993,338241895,666307205,773529912,1294757372,1396182291,1695183700,1986661051,2177026350,2456956037,2730485921,2820302411,3259730800,3345764771,3516065817,3600352804,4094571909,275423344,430227734,506948616,659060556,883997877,958139571,1322822218,1537002063,1747873779,1955562222,2024104815,2227730452,2361852424,2428436474,2756734187,3204031479,3329325298]
theorem Xy:zF ()=some (sH,()):=rfl
theorem Us:uE ()=some (sH,()):=rfl
def qU(s:W8)(t:Int):Int×Int×Int×Int×Int×Int×Int×Int×Int×ah:=(s.1,s.2.1,s.2.2.1,s.2.2.2.1,s.2.2.2.2.1,s.2.2.2.2.2.1,s.2.2.2.2.2.2.1,s.2.2.2.2.2.2.2,t,())
def jU(s:W8):List Int:=[s.1,s.2.1,s.2.2.1,s.2.2.2.1,s.2.2.2.2.1,s.2.2.2.2.2.1,s.2.2.2.2.2.2.1,s.2.2.2.2.2.2.2]
theorem Ut(w:List Int)(i:w.length=64)(s:W8)(u v:ah):Loop (fo (sH,u) (w,v)) (qU s 0,())=some (qU (DU sH w s 64) 64,()):=by
 refine cP (f:=fo (sH,u) (w,v)) 64 (λt=>(qU (DU sH w s t) t,())) (λt j=>?_) ?_
 .show fo (sH,u) (w,v) (qU (DU sH w s t) t,())=some (.inl (qU (rnd (sH.getD t 0) (w.getD t 0)<|DU sH w s t) ((t+1:Nat):Int),()))
  generalize DU sH w s t=q;obtain⟨a,b,c,d,e,f,g,h⟩:=q;unfold fo qU;dsimp only;rw[aJ<|by omega,ab,r6,aa,r11,aa,r25,aa,aU (by omega) (by omega),ab,fl sH 0 (by show t<64;omega),aa,ab,fl w 0 (by omega),aa,
   r2,aa,r13,aa,r22,aa,cR,aK (by omega)]
  rfl
 .unfold fo qU;dsimp only;rw[aA<|by omega,af,dJ];rfl
theorem Uu(w:List Int)(C:w.length=64)(s:W8)(q:Int×ah)(u v:ah):Loop (hR (q,w,u) (sH,v)) ((0,()),jU s,())=some (((64:Int),()),jU<|DU sH w s 64,()):=by
 refine cP (f:=hR (q,w,u) (sH,v)) 64 (λt=>(((t:Int),()),jU<|DU sH w s t,())) (λt i=>?_) ?_
 .show hR (q,w,u) (sH,v) (((t:Int),()),jU<|DU sH w s t,())=some (.inl ((((t+1:Nat):Int),()),jU<|rnd (sH.getD t 0) (w.getD t 0)<|DU sH w s t,()))
  generalize DU sH w s t=q;obtain⟨a,b,c,d,e,f,g,h⟩:=q;have j:idx (jU (a,b,c,d,e,f,g,h)) 0=some a:=rfl;have k:idx (jU (a,b,c,d,e,f,g,h)) 1=some b:=rfl;have l:idx (jU (a,b,c,d,e,f,g,h)) 2=some c:=rfl;have m:idx (jU (a,b,c,d,e,f,g,h)) 3=some d:=rfl;have n:idx (jU (a,b,c,d,e,f,g,h)) 4=some e:=rfl;have o:idx (jU (a,b,c,d,e,f,g,h)) 5=some f:=rfl;have p:idx (jU (a,b,c,d,e,f,g,h)) 6=some g:=rfl;have r:idx (jU (a,b,c,d,e,f,g,h)) 7=some h:=rfl;have w0:within 0 8=true:=by decide
  have w1:within 1 8=true:=by decide
  have w2:within 2 8=true:=by decide
  have x:within 3 8=true:=by decide
  have y:within 4 8=true:=by decide
  have z:within 5 8=true:=by decide
  have A:within 6 8=true:=by decide
  have B:within 7 8=true:=by decide
  have wt:within (t:Int) 64=true:=aU (by omega) (by omega);unfold hR;dsimp only;simp only[aJ<|show(t:Int)<64 by omega,ab,w0,w1,w2,x,y,z,A,B,wt,j,k,l,m,n,o,p,r,aa,t6,t11,t25,t2,t13,t22,fl sH 0 (show t<sH.length from i),fl w 0 (show t<w.length by omega),cR,aK (show t<4611686018427387904 by omega),
   <-afx,<-aea]
  rfl
 .unfold hR;dsimp only;rw[aA<|by omega,af,dJ];rfl
def of8(l:List Int):W8:=(l.getD 0 0,l.getD 1 0,l.getD 2 0,l.getD 3 0,l.getD 4 0,l.getD 5 0,l.getD 6 0,l.getD 7 0)
theorem Xz(l:List Int)(i:l.length=8):jU (of8 l)=l:=by
 match l,i with
 | [a,b,c,d,e,f,g,h],_=>rfl
def xo(l m:List Int):Nat->List Int
 | 0=>l
 | i+1=>(xo l m i).set i (aB .u32 (l.getD i 0)<|m.getD i 0)
theorem zM(l m:List Int)(i:Nat):(xo l m i).length=l.length:=by
 induction i with
 | zero=>rfl
 | succ i a=>simp[xo,a]
theorem V6(l m:List Int):∀(i j:Nat),i<=j->(xo l m i).getD j 0=l.getD j 0:=by
 intro i;induction i with
 | zero=>intro j _;rfl
 | succ i a =>
   intro j h;have:=a j (by omega);simp only[xo,Of,Vq] at this⊢;rw[aX<|by omega];exact this
def comp(h b:List Int):List Int:=xo h (jU<|DU sH (uN b) (of8 h) 64) 8
theorem RT(h b:List Int):(comp h b).length=h.length:=zM _ _ _
theorem XA(l m:List Int)(i:l.length=8)(j:m.length=8):xo l m 8=xo m l 8:=by
 match l,i,m,j with
 | [a,b,c,d,e,f,g,h],_,[k,n,o,p,q,r,s,t],_ =>
   simp only[xo,List.set,List.getD_cons_zero,List.getD_cons_succ];simp only[RJ]
theorem XB(h:List Int)(c:h.length=8)(s:ao)(g:s.length=64)(u:ah):rI (h,s,u)=some (comp h<|av s,()):=by
 have j:(xn (av s) 16).length=64:=sG _ _;unfold rI;rw[V5,Xx h s g,aa];dsimp only;rw[acf _ j,aa,Us,aa];have k:h=jU (of8 h):=(Xz h c).symm;have b:(uN<|av s).length=64:=DT _;have d:=Uu (uN<|av s) b (of8 h) ((64:Int),()) () ();rw[<-k] at d;rw[show HA (xn (av s) 16) 48=uN (av s) from rfl,d,aa];dsimp only;generalize e:jU (DU sH (uN<|av s) (of8 h) 64)=m;have a:m.length=8:=by rw[<-e];rfl
 have:Loop (kk (h,s,u)) ((0,()),m,())=some (((8:Int),()),xo m h 8,()):=by
  refine cP (f:=kk (h,s,u)) 8 (λi=>(((i:Int),()),xo m h i,())) (λi l=>?_) ?_
  .have n:(xo m h i).length=8:=by rw[zM,a]
   unfold kk;dsimp only;simp only[aJ<|show(i:Int)<8 by omega,ab,aU (show(0:Int)<=i by omega) (show(i:Int)<8 by omega),fl (xo m h i) 0 (show i<(xo m h i).length by omega),fl h 0 (show i<h.length by omega),aa,cR,aK (show i<4611686018427387904 by omega),gD];rw[V6 m h i i<|bZ _];rfl
  .unfold kk;dsimp only;rw[aA<|by omega,af,dJ];rfl
 rw[this,aa];dsimp only;rw[XA m h a c];unfold comp;rw[e]
def H0:List Int:=[1779033703,3144134277,1013904242,2773480762,1359893119,2600822924,528734635,1541459225]
theorem XC:sv ()=some (H0,()):=rfl
theorem LR:wg ()=some (H0,()):=rfl
def xD(a:ao):Nat->List Int
 | 0=>H0
 | k+1=>comp (xD a k) (av<|(a.drop<|64*k).take 64)
theorem x7(a:ao)(k:Nat):(xD a k).length=8:=by
 induction k with
 | zero=>rfl
 | succ k b=>simp only[xD];rw[RT,b]
theorem V7(a b:ao):∀k,64*k<=a.length->xD (a++b) k=xD a k:=by
 intro k;induction k with
 | zero=>intro _;rfl
 | succ k c =>
   intro h;simp only[xD];rw[c<|by omega,WC (by omega),Th (by rw[j8];omega)]
abbrev Co:=(Bool×List Int×ah)×List Int×Int×ah
def Inv(c:Co)(a:ao):Prop :=
 ∃b,c=((decide<|64<=a.length,(if 64<=a.length then xD a (a.length / 64) else fL 8),()),b,(a.length:Int),())/\b.length=64/\b.take (a.length % 64)=av (a.drop<|64*(a.length / 64))
def aau:Co:=((false,fL 8,()),fL 64,0,())
theorem ahY:Inv aau []:=⟨fL 64,rfl,rfl,rfl⟩
theorem r0(a b:ao):av (a++b)=av a++av b:=by simp[av]
theorem zN(a:ao)(n:Nat):(av a).take n=av (a.take n):=by simp[av,Zf]
theorem fS(a:ao):(av a).length=a.length:=by simp[av]
theorem sI(a b:Nat):iR (a:Int) (b:Int)=((a % b:Nat):Int):=by
 unfold iR;rw[Int.tmod_eq_emod_of_nonneg<|by omega];exact(Int.natCast_emod a b).symm
theorem aav(q:W8)(a:Co)(b:a.1.2.1.length=8):Loop (gz (qU q 64,())) ((0,()),a,())=some (((8:Int),()),((a.1.1,xo a.1.2.1 (jU q) 8,a.1.2.2),a.2),()):=by
 obtain⟨⟨c,h,u⟩,d⟩:=a;dsimp only at b⊢;refine cP (f:=gz (qU q 64,())) 8 (λi=>(((i:Int),()),((c,xo h (jU q) i,u),d),())) (λi j=>?_) ?_
 .have k:(xo h (jU q) i).length=8:=by rw[zM,b]
  have e:([(qU q 64).1,(qU q 64).2.1,(qU q 64).2.2.1,(qU q 64).2.2.2.1,(qU q 64).2.2.2.2.1,(qU q 64).2.2.2.2.2.1,(qU q 64).2.2.2.2.2.2.1,(qU q 64).2.2.2.2.2.2.2.1]:List Int)=jU q:=rfl;unfold gz;dsimp only;rw[e];have g:(jU q).length=8:=rfl;simp only[aJ<|show(i:Int)<8 by omega,ab,aU (show(0:Int)<=i by omega) (show(i:Int)<8 by omega),fl (xo h (jU q) i) 0 (show i<(xo h (jU q) i).length by omega),fl (jU q) 0 (show i<(jU q).length by omega),aa,cR,aK (show i<4611686018427387904 by omega),gD];rw[V6 h (jU q) i i<|bZ _];rfl
 .unfold gz;dsimp only;rw[aA<|by omega,af,dJ];rfl
theorem aaw(a b:ao)(O:Co)(P:a≠[])(Q:Inv O b)(hb:b.length+a.length<1152921504606846976) :
  ∃s,fq ((a,()),O,())=some (.inl ((a.drop<|64-b.length % 64,()),s,()))/\Inv s (b++a.take (64-b.length % 64)):=by
 obtain⟨e,rfl,hw,R⟩:=Q;generalize S:b.length=N at *;have T:N % 64<64:=wM _ (by decide);have D:iR (N:Int) 64=((N % 64:Nat):Int):=sI N 64;have em:jj (av a) (minus (64:Int) ((N % 64:Nat):Int))=av (a.take<|64-N % 64):=by
  unfold jj minus;rw[show((64:Int)-((N % 64:Nat):Int)).toNat=64-N % 64 by omega,zN]
 generalize l:(a.take<|64-N % 64).length=k;have U:k=min (64-N % 64) a.length:=by rw[<-l,fT]
 have V:0<k:=by
  have:0<a.length:=by cases a with|nil=>exact absurd rfl P|cons=>simp
  omega
 have t:len (av<|a.take<|64-N % 64)=(k:Int):=by unfold len;rw[fS,l]
 have u:aB .i64 ((N % 64:Nat):Int) (k:Int)=((N % 64+k:Nat):Int):=by rw[fk (by omega)<|by omega];omega
 have m:aB .i64 (N:Int) (k:Int)=((N+k:Nat):Int):=by rw[fk (by omega)<|by omega];omega
 have v:inside ((N % 64:Nat):Int) 64 64=true:=aP (by omega) (by omega) (by omega);have w:inside (k:Int) (len a) (len a)=true:=aP (by omega) (by unfold len;omega) (by omega);have z:sub a (k:Int) (minus (len a) (k:Int))=a.drop k:=by
  unfold sub minus len;rw[sQ,A8 (by rw[j8];omega)]
 have A:a.drop k=a.drop (64-N % 64):=by
  rcases Nat.le_total (64-N % 64) a.length with h|h
  .rw[show k=64-N % 64 by omega]
  .rw[GL<|by omega,GL h]
 have n:over e ((N % 64:Nat):Int) (av<|a.take<|64-N % 64)=av (b.drop (64*(N / 64))++a.take (64-N % 64))++e.drop (N % 64+k):=by
  unfold over;rw[sQ,R,fS,l,r0]
 have E:nt (bw a [])=true:=by
  unfold bw nt;cases a with
  | nil=>exact absurd rfl P
  | cons x r=>rfl
 have f:(b++a.take (64-N % 64)).length=N+k:=by rw[gI,S,l]
 have W:64*(N / 64)+N % 64=N:=Qs N 64;have c:(b.drop<|64*(N / 64)).length=N % 64:=by rw[j8];omega
 have j:(av (b.drop (64*(N / 64))++a.take (64-N % 64))++e.drop (N % 64+k)).length=64:=by
  rw[gI,fS,gI,c,l,j8];omega
 unfold fq;dsimp only;simp only[E,ab,aN (show(64:Int)≠0 by decide),af,D,v,em,t,w,u,m,z,n];by_cases F:N % 64+k=64
 ·
  have G:e.drop (N % 64+k)=[]:=by rw[GL<|by omega]
  simp only[aT<|show((N % 64+k:Nat):Int)=64 by omega,ab,G,y9] at j⊢;generalize B:av (b.drop (64*(N / 64))++a.take (64-N % 64))=blk at *;have C:(N+k) / 64=N / 64+1:=by omega
  have p:(N+k) % 64=0:=by omega
  have q:((b++a.take (64-N % 64)).drop<|64*(N / 64)).take 64=b.drop (64*(N / 64))++a.take (64-N % 64):=by
   rw[WC<|by omega,A8 (by rw[gI,c,l];omega)]
  have H:∃I:Bool,I=true/\(ae (aj (nt<|decide<|64<=N) (ae (sv ()) λJ:List Int×ah=>some ((),((true,J.1,()),blk,((N+k:Nat):Int),()),()))<|some ((),((decide<|64<=N,(if 64<=N then xD b (N / 64) else fL 8),()),blk,((N+k:Nat):Int),()),())) λy:ah×Co×ah=>some y)=some ((),((true,xD b (N / 64),()),blk,((N+k:Nat):Int),()),()):=by
   refine⟨true,rfl,?_⟩;by_cases d:64<=N
   .simp only[d,CN,kQ];rfl
   .have:N / 64=0:=by omega
    simp only[d,VA,pV,this,XC];rfl
  obtain⟨_,_,H⟩:=H;have K:(aj (nt<|decide<|64<=N) (ae (sv ()) λJ:List Int×ah=>some ((),((true,J.1,()),blk,((N+k:Nat):Int),()),())) (some ((),((decide<|64<=N,(if 64<=N then xD b (N / 64) else fL 8),()),blk,((N+k:Nat):Int),()),())):Option (ah×Co×ah))=some ((),((true,xD b (N / 64),()),blk,((N+k:Nat):Int),()),()):=by
   have:∀o:Option (ah×Co×ah),(ae o λy=>some y)=o:=by intro o;cases o<;>rfl
   exact(this _).symm.trans H
  rw[K,aa,Xy,aa,PA blk j,aa];dsimp only;have L:=x7 b (N / 64);have X:=np (xD b<|N / 64) 0 (i:=0) (k:=0) rfl (by omega);have Y:=np (xD b<|N / 64) 0 (i:=1) (k:=1) rfl (by omega);have Z:=np (xD b<|N / 64) 0 (i:=2) (k:=2) rfl (by omega);have i3:=np (xD b<|N / 64) 0 (i:=3) (k:=3) rfl (by omega);have i4:=np (xD b<|N / 64) 0 (i:=4) (k:=4) rfl (by omega);have i5:=np (xD b<|N / 64) 0 (i:=5) (k:=5) rfl (by omega);have i6:=np (xD b<|N / 64) 0 (i:=6) (k:=6) rfl (by omega);have i7:=np (xD b<|N / 64) 0 (i:=7) (k:=7) rfl (by omega);have w0:within 0 8=true:=by decide
  have w1:within 1 8=true:=by decide
  have w2:within 2 8=true:=by decide
  have w3:within 3 8=true:=by decide
  have w4:within 4 8=true:=by decide
  have w5:within 5 8=true:=by decide
  have w6:within 6 8=true:=by decide
  have w7:within 7 8=true:=by decide
  simp only[w0,w1,w2,w3,w4,w5,w6,w7,ab,X,Y,Z,i3,i4,i5,i6,i7,aa];have hr:=Ut (uN blk) (DT blk) (of8<|xD b<|N / 64) () ();rw[show((xD b<|N / 64).getD 0 0,(xD b<|N / 64).getD 1 0,(xD b<|N / 64).getD 2 0,(xD b<|N / 64).getD 3 0,(xD b<|N / 64).getD 4 0,(xD b<|N / 64).getD 5 0,(xD b<|N / 64).getD 6 0,(xD b<|N / 64).getD 7 0,(0:Int),())=qU (of8<|xD b<|N / 64) 0 from rfl,hr,aa];rw[aav _ ((true,xD b (N / 64),()),blk,((N+k:Nat):Int),()) L,aa,aa,cR];dsimp only;refine⟨_,by rw[A],?_⟩;refine⟨blk,?_,j,?_⟩
  .rw[f];have d:64<=N+k:=by omega
   simp only[d,CN,kQ];have M:xD (b++a.take (64-N % 64)) ((N+k) / 64)=xo (xD b<|N / 64) (jU<|DU sH (uN blk) (of8<|xD b<|N / 64) 64) 8:=by
    rw[C];simp only[xD];rw[V7 b _ _<|by omega,q,B];rfl
   rw[M]
  .rw[f,p,C,MW,GL (by omega)];rfl
 .have hnf:N % 64+k<64:=by omega
  simp only[aN<|show((N % 64+k:Nat):Int)≠64 by omega,af,aa,cR];refine⟨_,by rw[A],?_⟩;have C:(N+k) / 64=N / 64:=by omega
  have p:(N+k) % 64=N % 64+k:=by omega
  refine⟨_,?_,j,?_⟩
  .rw[f,C];by_cases d:64<=N
   .have g:64<=N+k:=by omega
    simp only[d,g,CN,kQ];rw[V7 b _ _<|by omega]
   .have g:¬64<=N+k:=by omega
    simp only[d,g,VA,pV]
  .rw[f,p,C,Th (by rw[fS,gI,c,l];omega),A8 (by rw[fS,gI,c,l];omega),WC (by omega)]
end Go.Ge
