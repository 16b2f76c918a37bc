/- Plain laws of what the functions compute: part 2. -/
import Derived.Test.YtkmbhcglaophaaaPlA
set_option linter.unusedSectionVars false
set_option linter.unusedVariables false
set_option linter.unusedSimpArgs false
namespace Go.Ge
variable [Lp]
abbrev NW:=List UInt8×(Unit×(Unit×Int×Unit)×(Unit×(Int×Int×Unit)×Unit)×Unit)×List UInt8×(Unit×Unit×Int×Unit)×Unit
def Lz(s:List UInt8)(d:Int)(t:List UInt8)(m:Int):NW:=(s,(((),(((),(d,())),(((),(((0:Int),((0:Int),())),())),()))),(t,(((),((),(m,()))),()))))
theorem zG(s:List UInt8)(hs:s.length≤1048576):bP ((),(Lz s 0 [] 0,()))=some ((nw s,()),(Lz s 1 (nw s) 1,())):=by
 unfold bP Lz;dsimp only;rw[ri,aq,aq,aq,zF s hs,aa]
theorem zH(s t:List UInt8)(m:Int):bP ((),(Lz s 1 t m,()))=some ((t,()),(Lz s 1 t m,())):=by
 unfold bP Lz;dsimp only;rw[cU (by decide),ax]
def td(s:List UInt8)(i:Nat):NW:=Lz s (if i=0 then 0 else 1) (if i=0 then [] else nw s) (if i=0 then 0 else 1)
theorem Hj(s:List UInt8)(hs:s.length≤1048576)(i:Nat):bP ((),(td s i,()))=some ((nw s,()),(td s (i+1),())):=by
 cases i with
 | zero=>exact zG s hs
 | succ i=>exact zH s (nw s) 1
theorem Hl(s:List UInt8)(i:Nat):dI ((),(td s (i+1),()))=some (((1:Int),()),(td s (i+1),())):=rfl
theorem EU(s:List UInt8)(i:Nat):dh ((),(td s i,()))=some ((s,()),(td s i,())):=rfl
theorem LN(t m:Int):∃n:Nat,n<256∧ff .u8 t m=(n:Int):=by
 have h:ff .u8 t m=((BitVec.ofInt 8 t &&& BitVec.ofInt 8 m).toNat:Int) % 256:=Kr _;refine⟨(BitVec.ofInt 8 t &&& BitVec.ofInt 8 m).toNat % 256,wK _ (by decide),by rw[h];rfl⟩
theorem sy(t:Int):en (t,())=some (true,()):=by
 unfold en;obtain⟨n,hn,e⟩:=LN t 3;have hs:([]:List UInt8).length≤1048576:=by decide
 have e0:(([]:List UInt8),((),((),(0:Int),()),((),((0:Int),(0:Int),()),()),()),([]:List UInt8),((),(),(0:Int),()),())=td [] 0:=rfl;have hl:Loop (b6 (t,())) ((false,((0:Int),())),(td [] 0,()))=some ((0:Nat),((false,(((n+1:Nat):Int),())),(td [] (n+1),()))):=by
  refine cM (f:=b6 (t,())) (r:=((0:Nat),((false,(((n+1:Nat):Int),())),(td [] (n+1),())))) (n+1) (fun i=>((false,((i:Int),())),(td [] i,()))) ?_ ?_
  ·intro i hi;unfold b6;dsimp only;rw[e,zB (by omega) (by omega),eV (by omega) (by omega),cN (by omega),aq,zF [] hs,aa,ES [] hs,aa];dsimp only;rw[nU,fH,eR,aq,nU,fH,eR,aq,show((td [] i).1,(td [] i).2.1,(td [] i).2.2.1,(td [] i).2.2.2.1,())=td [] i from rfl,Hj [] hs,aa,aa];dsimp only;rw[nU,fH,eR,aq,show((td [] (i+1)).1,(td [] (i+1)).2.1,(td [] (i+1)).2.2.1,(td [] (i+1)).2.2.2.1,())=td [] (i+1) from rfl,EU,aa];dsimp only;rw[nU,fH,eR,aq,show((td [] (i+1)).1,(td [] (i+1)).2.1,(td [] (i+1)).2.2.1,(td [] (i+1)).2.2.2.1,())=td [] (i+1) from rfl,Hl,aa];dsimp only;rw[ri,fH,ax,eV (by omega) (by omega)];rfl
  ·unfold b6;dsimp only;rw[e,zB (by omega) (by omega),eV (by omega) (by omega),aQ (by omega),ax]
 rw[e0,hl,aa];dsimp only;rw[show Ju 0 0=true from rfl,aq,Ja,aa]
end Go.Ge
