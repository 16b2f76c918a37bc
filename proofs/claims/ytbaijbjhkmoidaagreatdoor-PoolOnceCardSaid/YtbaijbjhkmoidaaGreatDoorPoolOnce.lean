/- THE LAW PoolOnce HOLDS: it answers true, and leaves its arguments as they are. No condition. -/
import Derived.Test.YtbaijbjhkmoidaaGreatDoorHolds
import Derived.Test.YtbaijbjhkmoidaaGreatDoorLaid
import Derived.Test.YtbaijbjhkmoidaaGreatDoorCards
import Derived.Test.YtbaijbjhkmoidaaGreatDoorTie
import Derived.Lay
import Derived.Deep.DeepHandedRow
import Derived.SevenTiedAt
import Derived.OpenShut
import Derived.JoinedCond
import Derived.JoinedOf
import Derived.Handed
set_option linter.unusedVariables false
set_option linter.unusedSimpArgs false
set_option linter.unusedSectionVars false
namespace Go.Proofs.YtbaijbjhkmoidaaGreatDoor
open Go Go.Ge Go.ChangeShapes Go.WideShapes Go.ChangeAt Go.RowKit
noncomputable instance Q6:Lp:=Lp.y3
theorem M3{H:Type}:yd (H:=H) Rows.uptoBulk Rows.uptoBulkAll where
 lit:=λl=>by cases l<;>simp[Rows.uptoBulk]
 str:=λs=>by simp[Rows.uptoBulk]
 nil:=by simp[Rows.uptoBulk]
 slice:=λe s=>by simp[Rows.uptoBulk]
 agg:=λp=>by simp[Rows.uptoBulk]
 none:=by simp[Rows.uptoBulkAll]
 cons:=λd r=>by simp[Rows.uptoBulkAll]
theorem own:ownKnob Tryz.prog.godebug=none:=by kernel_rfl
theorem laidOut:laidOutB Tryz.prog=true:=by kernel_rfl
theorem Ov:Tryz.prog.readableRec 43=true/\43<Tryz.prog.types.size:=⟨by kernel_rfl,yW (by kernel_rfl)⟩
set_option maxRecDepth 100000 in
theorem LJ(H:Type)(c:TypeId×Value->H)(W:World)(d:Nat)(a:Array Value)(h k:List (DataW H))(b:List MemPlace)(l:mO bD W)
  (f:∀(j:Nat) t v,Tryz.f4.params[j]?=some t->a[j]?=some v->Value.okWide Tryz.prog W .any d t v)
  (m:DataW.Whole c Tryz.prog Tryz.f4.params.toList Rows.poolOnceSpec.vars false W a.toList h k b) :
  Calls Tryz.prog 4 a W λe n=>∃v,e=.returned v/\Rows.poolOnceSpec.post c Tryz.prog Tryz.f4 false true false false W a v n:=by
 refine HY (bulk:=Rows.uptoBulk) (all:=Rows.uptoBulkAll) (tb:=4) (A:=(.pair (.slice .str) .unit)) (spec:=jh) M3 laidOut (by rw[Tryz.params4];exact⟨Ot 43 (.slice .str) rfl,trivial⟩) (λt i=>?_) (by kernel_rfl) Tryz.underlying4 rfl (λh g=>?_) uU l f m (λx o p=>?_)
 .rw[Tryz.params4] at i;simp only[eR,List.not_mem_nil,or_false] at i;subst i;exact Ov
 .rw[Tryz.params4] at g
  match h,g with
  | [q],_=>rfl
 .obtain⟨a0,u⟩:=x;exact Ce a0
noncomputable def LK(a:Os):World:=World.laidAll Tryz.prog a Rows.poolOnceRow.laid
set_option maxRecDepth 100000 in
theorem LL(a:Os):laidMet Tryz.prog Rows.poolOnceRow.laid ((LK a).forCall (λ_ _=>0) ⟨#[],#[.slice none 0 0],[]⟩).memory :=
 laidMet_laidAll #[.slice none 0 0] (by kernel_rfl) (by kernel_rfl)
set_option maxRecDepth 100000 in
theorem reads(b:Os){H:Type}(enc:TypeId×Value->H):∃a,DataW.whole enc Tryz.prog ((LK b).forCall (λ_ _=>0) ⟨#[],#[.slice none 0 0],[]⟩).memory Tryz.f4.params.toList Rows.poolOnceSpec.vars false (#[.slice none 0 0]:Array Value).toList 12=some ([.nil],[],a) :=
 ⟨[],by kernel_rfl⟩
set_option maxRecDepth 100000 in
theorem lifted(c:Os)(a:c.Started)(H:Type)(enc:TypeId×Value->H)(F:Stop.Interp) :
  ReturnsInHanded {} Tryz.checked c 4 .any ((OpenSpec.ofChange Rows.poolOnceSpec).preRow enc Tryz.prog Tryz.f4 Rows.poolOnceRow.domain false Rows.poolOnceRow.laid) (((OpenSpec.ofChange Rows.poolOnceSpec).at F).post enc Tryz.prog Tryz.f4 false true false false):=by
 obtain⟨g,i⟩:=reads c enc;refine returnsInHanded_of_row (C:=Tryz.checked) (s:=(OpenSpec.ofChange Rows.poolOnceSpec)) own a (by kernel_rfl) Tryz.func4
  (witness_row_at (enc:=enc) (C:=Tryz.checked) false (LK c) #[.slice none 0 0] (World.laidAll_os _ _ _) (by kernel_rfl) (by kernel_rfl) (by kernel_rfl)
   (OpenSpec.preRow_of_cond 12 i (by kernel_rfl) (λk j=>by cases j) (by kernel_rfl)<|LL c)) ?_
 intro W d e l m b f n _ h _ o _ _;exact LJ H enc W d e l m b (IV o) f n
theorem Ow{a b:Bool}(h:a=true)(k:b=true):(a&&b)=true:=by rw[h,k];rfl
set_option maxHeartbeats 20000000 in
theorem said:Rows.PoolOnceSaid :=
 OpenClaim.holds_of_cond 4 Tryz.f4 rfl rfl rfl rfl rfl rfl rfl ⟨rfl,rfl,rfl,rfl,rfl⟩ rfl rfl rfl rfl rfl (by kernel_rfl) Tryz.func4 (by unfold joinedFacts;(repeat' with_reducible refine Ow ?_ ?_)<;>as_aux_lemma=>kernel_rfl)
  (yW<|by kernel_rfl) (by unfold Func.isWrapper;first|(rw[bH<|by decide +kernel];kernel_rfl)|(rw[bp<|by decide +kernel];exact⟨rfl,rfl⟩))
  (λb a H enc _ F=>by rw[OpenClaim.pre_eq_preRow];exact lifted b a H enc F)
theorem LM(f:FuncId)(a:Func)(d:Tryz.pinned.checked.prog.funcNamed "cooperage/cooperagelaw30.PoolOnce"=some f)(b:Tryz.pinned.checked.prog.funcs[f]?=some a) :
  false=Tryz.pinned.checked.prog.looks []/\∀(j:Nat) t,a.params[j]?=some t->Tryz.pinned.checked.prog.wantsStandIn t=false:=by
 obtain rfl:f=4:=aq ((show Tryz.prog.funcNamed "cooperage/cooperagelaw30.PoolOnce"=some 4 by kernel_rfl).symm.trans d) |>.symm;obtain rfl:a=Tryz.f4:=(aq<|Tryz.func4.symm.trans b).symm;refine⟨by kernel_rfl,λj t e=>?_⟩;have c:t∈Tryz.f4.params.toList:=by simpa using Jg e
 rw[Tryz.params4] at c;simp only[eR,List.not_mem_nil,or_false] at c;subst c;exact(show Tryz.prog.wantsStandIn 43=false by kernel_rfl)
theorem poolOnce_holds:Rows.PoolOnceCardSaid :=
 Claim7.holds_tied_plain_at .later [] _ _ _ _ said (λ_ h=>by cases h) (by kernel_rfl) (λ_ h=>by cases h) poolOnce_row_tie rfl ⟨rfl,rfl⟩ (by kernel_rfl) rfl LM (by kernel_rfl)
end Go.Proofs.YtbaijbjhkmoidaaGreatDoor
