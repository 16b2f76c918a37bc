/- record.unlike: a list is copied, sorted, and made to have each text once; the lengths of both are compared (steps by hand: the length of the list that was handed over is asked for last). -/
import Derived.Test.YtpmecibilnjeiaaGreatDoorChecked
import Derived.Test.YtpmecibilnjeiaaGreatDoorPlH
import Derived.BigCall
import Derived.Tactics2
set_option linter.unusedVariables false
set_option linter.unusedSimpArgs false
set_option linter.unusedSectionVars false
namespace Go.Proofs.YtpmecibilnjeiaaGreatDoor
open Go Go.Ge Go.Proofs
variable [Lp]
set_option maxRecDepth 100000 in
set_option maxHeartbeats 1600000 in
theorem PW{G:fD}(E:fK Tryz.prog 28 (.clone .str))(F:fK Tryz.prog 173 (.own .str .unit false ck))(H:fK Tryz.prog 174 (.own .str .unit true cm)) :
  Holds Tryz.prog G 124 ⟨(.pair (.slice .str) .unit),(.pair .bool .unit),jg⟩ where
 body:=by
  obtain⟨c,j⟩:∃c,Tryz.f124.body=some c:=⟨_,rfl⟩;exact⟨_,c,Tryz.func124,by kernel_rfl,j⟩
 calls:=λI w r x y J hG ha i=>by
  obtain⟨l,u⟩:=x;obtain⟨K,s,he,hr,t⟩:=ha;have t:s=[]:=t;subst t;obtain rfl:r=#[bW (.slice .str) K]:=BU.1 he;generalize M:bW (.slice .str) K=v0;have i:aj (fits<|len (α:=ao) l) (ae (ck l ()) λy1=>ae (cm y1 ()) λy2=>some (aZ (len y2)<|len (α:=ao) l,())) none=some y:=i;cases D:fits (len (α:=ao) l) with
  | false=>rw[D] at i;cases i
  | true =>
  rw[D,ab] at i;have N:ck l ()=some (qb l):=by unfold ck;rw[D];rfl
  rw[N,aa] at i;have j:cm (qb l) ()=some (Lib.compact (α:=ao)<|qb l):=rfl;rw[j,aa] at i;generalize Lib.compact (α:=ao) (qb l)=z at i j;generalize qb l=A at N j;obtain rfl:=aG i;have c1:=E.2 I w #[v0] l J ⟨K,[],by rw[<-M],hr,rfl⟩ D
  go_enter Tryz.func124,Tryz.ntmps124
  go_wp2_with (go_at_call 28;refine c1.mono ?_;rintro e O ⟨V,W,L,rfl,a,P,Q⟩)
  go_wp2_with (go_at_call 173;refine(F.2 W O _ V [] l A L () a.sg rfl P rfl N).mono ?_;rintro e R ⟨X,d,rfl,p,B⟩)
  go_wp2_with (go_at_call 174;refine(H.2 X R _ V [] A z L () d.sg rfl B rfl j).mono ?_;rintro e Y ⟨Z,f,v3,L3,rfl,S,hL3⟩)
  have hlen:∀{w':World} {I':Nat->Nat->Prop} {m:List ao} {L':Option (Nat×Nat)} {v:Value},ux w' I' .str m L' v->∀u:World,(Builtin.len_ #[25] 3 #[v]).run Tryz.prog u=.ok (goInt (m.length:Int)) u:=by
   intro w' I' m L' v h u;have hu:Tryz.prog.underlying 25=some (.slice 9):=by kernel_rfl
   rcases h with ⟨_,rfl,rfl⟩|⟨blk,cap,cur,tid,fr,_,rfl,_⟩
   .simp[Builtin.len_,run_underlying hu];rfl
   .simp[Builtin.len_,run_underlying hu];rfl
  rw[hlen S];simp only[Result.andThen];rw[Oper.upon_value]
  go_wp2
  rw[hlen B];simp only[Result.andThen];rw[Oper.upon_value]
  go_wp2
  go_ret
  have hX:∀k,k<w.heap.size->¬∃c,L=some (k,c):=λk g ⟨c,j⟩=>M4.2 (Q k c j) g;have C:=a.below.size;have T:=d.below.size;have z3:=f.below.size;have b1:∀k,k<w.heap.size->O.heap[k]?=w.heap[k]?:=λk g=>a.below.block k λq=>by
   rcases q with q|q
   .exact absurd g (M4.2 q)
   .exact q
  have b2:∀k,k<w.heap.size->R.heap[k]?=O.heap[k]?:=λk g=>d.below.block k λq=>by
   rcases q with q|q
   .exact absurd (A9 g C) (M4.2 q)
   .exact hX k g q
  have b3:∀k,k<w.heap.size->Y.heap[k]?=R.heap[k]?:=λk g=>f.below.block k λq=>by
   rcases q with q|q
   .exact absurd (A9 g<|fM C T) (M4.2 q)
   .exact hX k g q
  refine⟨_,Z,rfl,⟨f.below.os.trans<|d.below.os.trans a.below.os,f.below.tape.trans (d.below.tape.trans a.below.tape),f.below.output.trans (d.below.output.trans a.below.output),fM C (fM T z3),λk g=>(b3 k g).trans ((b2 k g).trans<|b1 k g)⟩,
   λb o hi=>f.held b o (d.held b o<|a.held b o hi),f.sg,λb o h3 t=>?_,?_⟩
  .by_cases h2:X b o
   .by_cases h1:W b o
    .exact a.ox b o h1 t
    .exact fM C (d.ox b o h2 h1)
   .exact fM C (fM T<|f.ox b o h3 h2)
  .have hb:Value.bool ((z.length:Int)==(A.length:Int))=.bool (aZ (len z)<|len (α:=ao) l):=by
    have U:(A.length:Int)=len (α:=ao) l:=congrArg (λn:Nat=>(n:Int)) p;rw[U];rfl
   show kX Y Z (.pair .bool .unit) (aZ (len z)<|len (α:=ao) l,()) (.bool<|(z.length:Int)==(A.length:Int))
   rw[hb];exact⟨[.bool _],rfl,rfl⟩
end Go.Proofs.YtpmecibilnjeiaaGreatDoor
