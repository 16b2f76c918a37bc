/- Plain laws of what the functions compute: part 2. -/
import Derived.Test.YtkmbhcglaophaaaPlA
set_option linter.unusedSectionVars false
set_option linter.unusedVariables false
set_option linter.unusedSimpArgs false
namespace Go.Ge
variable [Lp]
abbrev NV:=List UInt8×(Unit×(Unit×Int×Unit)×(Unit×(Int×Int×Unit)×Unit)×Unit)×List UInt8×(Unit×Unit×Int×Unit)×Unit
def Lz(s:List UInt8)(d:Int)(t:List UInt8)(m:Int):NV:=(s,(((),(((),(d,())),(((),(((0:Int),((0:Int),())),())),()))),(t,(((),((),(m,()))),()))))
theorem zE(s:List UInt8)(hs:s.length≤1048576):bP ((),(Lz s 0 [] 0,()))=some ((nx s,()),(Lz s 1 (nx s) 1,())):=by
 unfold bP Lz;dsimp only;rw[nV,aq,aq,aq,C0 s hs,aa]
theorem zF(s t:List UInt8)(m:Int):bP ((),(Lz s 1 t m,()))=some ((t,()),(Lz s 1 t m,())):=by
 unfold bP Lz;dsimp only;rw[cV (by decide),ax]
def nq(s:List UInt8)(i:Nat):NV:=Lz s (if i=0 then 0 else 1) (if i=0 then [] else nx s) (if i=0 then 0 else 1)
theorem Hh(s:List UInt8)(hs:s.length≤1048576)(i:Nat):bP ((),(nq s i,()))=some ((nx s,()),(nq s (i+1),())):=by
 cases i with
 | zero=>exact zE s hs
 | succ i=>exact zF s (nx s) 1
theorem Hi(s:List UInt8)(i:Nat):cH ((),(nq s (i+1),()))=some (((1:Int),()),(nq s (i+1),())):=rfl
theorem yf(s:List UInt8)(i:Nat):dm ((),(nq s i,()))=some ((s,()),(nq s i,())):=rfl
theorem LM(t m:Int):∃n:Nat,n<256∧fc .u8 t m=(n:Int):=by
 have h:fc .u8 t m=((BitVec.ofInt 8 t &&& BitVec.ofInt 8 m).toNat:Int) % 256:=Kp _;refine⟨(BitVec.ofInt 8 t &&& BitVec.ofInt 8 m).toNat % 256,wJ _ (by decide),by rw[h];rfl⟩
theorem we(s:List UInt8)(t:Int):eZ (s,(t,()))=some (true,()):=by
 unfold eZ;dsimp only;by_cases h1:s.length≤1024
 ·have hs:s.length≤1048576:=by omega
  rw[aQ (by simp only[len];omega),ax];have e0:(s,((),((),(0:Int),()),((),((0:Int),(0:Int),()),()),()),([]:List UInt8),((),(),(0:Int),()),())=nq s 0:=rfl;rw[e0,show cH ((),(nq s 0,()))=some (((0:Int),()),(nq s 0,())) from rfl,aa];dsimp only;rw[nV,fG,ff,aq,show((nq s 0).1,(nq s 0).2.1,(nq s 0).2.2.1,(nq s 0).2.2.2.1,())=nq s 0 from rfl,yf,aa];dsimp only;rw[ri,fG,ax,show((nq s 0).1,(nq s 0).2.1,(nq s 0).2.2.1,(nq s 0).2.2.2.1,())=nq s 0 from rfl];obtain⟨n,hn,e⟩:=LM t 7;have hl:Loop (cC (s,(t,()))) ((false,((0:Int),())),(nq s 0,()))=some ((0:Nat),((false,((n:Int),())),(nq s n,()))):=by
   refine cO (f:=cC (s,(t,()))) (r:=((0:Nat),((false,((n:Int),())),(nq s n,())))) n (fun i=>((false,((i:Int),())),(nq s i,()))) ?_ ?_
   ·intro i hi;unfold cC;dsimp only;rw[e,zz (by omega) (by omega),cD (by omega),aq,show((nq s i).1,(nq s i).2.1,(nq s i).2.2.1,(nq s i).2.2.2.1,())=nq s i from rfl,Hh s hs,aa,ES s hs,aa];dsimp only;rw[ri,fG,ff,aq,show((nq s (i+1)).1,(nq s (i+1)).2.1,(nq s (i+1)).2.2.1,(nq s (i+1)).2.2.2.1,())=nq s (i+1) from rfl,Hi,aa];dsimp only;rw[nV,fG,ff,aq,show((nq s (i+1)).1,(nq s (i+1)).2.1,(nq s (i+1)).2.2.1,(nq s (i+1)).2.2.2.1,())=nq s (i+1) from rfl,yf,aa];dsimp only;rw[ri,fG,ax,fW (by omega) (by omega)];rfl
   ·unfold cC;dsimp only;rw[e,zz (by omega) (by omega),aQ (by omega),ax]
  rw[hl,aa];dsimp only;rw[show Jr 0 0=true from rfl,aq,DL,aa]
 ·rw[cD (by simp only[len];omega),aq,DL,aa]
end Go.Ge
