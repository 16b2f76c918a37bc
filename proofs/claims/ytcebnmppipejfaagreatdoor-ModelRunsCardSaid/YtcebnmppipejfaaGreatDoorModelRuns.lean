import Derived.Test.YtcebnmppipejfaaGreatDoorHolds
import Derived.Test.YtcebnmppipejfaaGreatDoorLed
import Derived.Test.YtcebnmppipejfaaGreatDoorTie
import Derived.Lay
import Derived.Deep.DeepHandedRow
import Derived.SevenTiedAt
import Derived.OpenShut
import Derived.Handed
set_option linter.unusedVariables false
set_option linter.unusedSimpArgs false
set_option linter.unusedSectionVars false
set_option linter.defProp false
open Option renaming some->aa,none->af
namespace Go.Proofs.YtcebnmppipejfaaGreatDoor
open Go Go.Ge Go.ChangeShapes Go.WideShapes Go.ChangeAt Go.RowKit
noncomputable instance arS:Lp:=Lp.akZ
def amO{H:Type}:QA (H:=H) Rows.uptoBulk Rows.uptoBulkAll where
 lit:=λl=>by cases l<;>simp[Rows.uptoBulk]
 str:=λs=>by simp[Rows.uptoBulk]
 nil:=by simp[Rows.uptoBulk]
 slice:=λe s=>by simp[Rows.uptoBulk]
 agg:=λp=>by simp[Rows.uptoBulk]
 none:=by simp[Rows.uptoBulkAll]
 cons:=λd r=>by simp[Rows.uptoBulkAll]
def own:ownKnob Tryz.prog.godebug=none:=by kernel_rfl
def laidOut:laidOutB Tryz.prog=true:=by kernel_rfl
def aox:Tryz.prog.readableRec 22=true/\22<Tryz.prog.types.size:=⟨by kernel_rfl,gb (by kernel_rfl)⟩
set_option maxRecDepth 100000 in
def akJ(H:Type)(c:TypeId×Value->H)(W:World)(d:Nat)(a:Array Value)(h k:List (DataW H))(b:List MemPlace)
  (f:∀(j:Nat) t v,Tryz.f3.params[j]?=aa t->a[j]?=aa v->Value.okWide Tryz.prog W .any d t v)
  (l:DataW.Whole c Tryz.prog Tryz.f3.params.toList Rows.modelRunsSpec.vars false W a.toList h k b) :
  Calls Tryz.prog 3 a W λe m=>∃v,e=.returned v/\Rows.modelRunsSpec.post c Tryz.prog Tryz.f3 false true false false W a v m:=by
 refine afF (bulk:=Rows.uptoBulk) (all:=Rows.uptoBulkAll) (tb:=4) (A:=(.pair (.slice<|.pair (.int .i64)<|.pair (.int .i64)<|.pair .str<|.pair .str<|.pair (.slice .str)<|.pair .str<|.pair .str<|.pair (.int .i64) .unit) .unit)) (spec:=od) amO laidOut (by rw[Tryz.params3];exact⟨ahk 22 (.slice<|.pair (.int .i64)<|.pair (.int .i64)<|.pair .str<|.pair .str<|.pair (.slice .str)<|.pair .str<|.pair .str<|.pair (.int .i64) .unit) rfl,trivial⟩) (λt i=>?_) (by kernel_rfl) Tryz.underlying4 rfl (λh g=>?_) KA (aiY (λ_ _=>False) _) f l (λx n o=>?_)
 .rw[Tryz.params3] at i;simp only[eK,adU,or_false] at i;subst i;exact aox
 .rw[Tryz.params3] at g
  match h,g with
  | [p],_=>rfl
 .obtain⟨a0,u⟩:=x;exact TV a0
noncomputable def akK(a:Os):World:=World.laidAll Tryz.prog a Rows.modelRunsRow.laid
set_option maxRecDepth 100000 in
def akL(a:Os):laidMet Tryz.prog Rows.modelRunsRow.laid ((akK a).forCall (λ_ _=>0) ⟨#[],#[.slice af 0 0],[]⟩).memory :=
 laidMet_laidAll #[.slice af 0 0] (by kernel_rfl) (by kernel_rfl)
set_option maxRecDepth 100000 in
def reads(b:Os){H:Type}(enc:TypeId×Value->H):∃a,DataW.whole enc Tryz.prog ((akK b).forCall (λ_ _=>0) ⟨#[],#[.slice af 0 0],[]⟩).memory Tryz.f3.params.toList Rows.modelRunsSpec.vars false (#[.slice af 0 0]:Array Value).toList 12=aa ([.nil],[],a) :=
 ⟨[],by kernel_rfl⟩
set_option maxRecDepth 100000 in
def lifted(c:Os)(a:c.Started)(H:Type)(enc:TypeId×Value->H)(F:Stop.Interp) :
  ReturnsInHanded {} Tryz.checked c 3 .any ((OpenSpec.ofChange Rows.modelRunsSpec).preRow enc Tryz.prog Tryz.f3 Rows.modelRunsRow.domain false Rows.modelRunsRow.laid) (((OpenSpec.ofChange Rows.modelRunsSpec).at F).post enc Tryz.prog Tryz.f3 false true false false):=by
 obtain⟨g,i⟩:=reads c enc;refine returnsInHanded_of_row (C:=Tryz.checked) (s:=(OpenSpec.ofChange Rows.modelRunsSpec)) own a (by kernel_rfl) Tryz.func3
  (witness_row_at (enc:=enc) (C:=Tryz.checked) false (akK c) #[.slice af 0 0] (World.laidAll_os _ _ _) (by kernel_rfl) (by kernel_rfl) (by kernel_rfl)
   (OpenSpec.preRow_of_cond 12 i (by kernel_rfl) Ak (by kernel_rfl)<|akL c)) ?_
 intro W d e j k b f l _ h _ m _ _;exact akJ H enc W d e j k b f l
def aoy{a b:Bool}(h:a=true)(k:b=true):(a&&b)=true:=by rw[h,k];rfl
set_option maxHeartbeats 20000000 in
def said:Rows.ModelRunsSaid :=
 OpenClaim.holds_of_cond 3 Tryz.f3 rfl rfl rfl rfl rfl rfl rfl ⟨rfl,rfl,rfl,rfl,rfl⟩ rfl rfl rfl rfl rfl (by kernel_rfl) Tryz.func3 (by unfold joinedFacts;(repeat' with_reducible refine aoy ?_ ?_)<;>first|with_reducible exact aow|with_reducible exact aov|with_reducible exact amN|with_reducible exact akH|as_aux_lemma=>kernel_rfl)
  (gb<|by kernel_rfl) (by unfold Func.isWrapper;first|(rw[aN<|by decide +kernel];kernel_rfl)|(rw[aK<|by decide +kernel];exact⟨rfl,rfl⟩))
  (λb a H enc _ F=>by rw[OpenClaim.pre_eq_preRow];exact lifted b a H enc F)
def akM(f:FuncId)(a:Func)(d:Tryz.pinned.checked.prog.funcNamed "cooperage/cooperagelaw24.ModelRuns"=aa f)(b:Tryz.pinned.checked.prog.funcs[f]?=aa a) :
  false=Tryz.pinned.checked.prog.looks []/\∀(j:Nat) t,a.params[j]?=aa t->Tryz.pinned.checked.prog.wantsStandIn t=false:=by
 obtain rfl:f=3:=aU ((show Tryz.prog.funcNamed "cooperage/cooperagelaw24.ModelRuns"=aa 3 by kernel_rfl).symm.trans d) |>.symm;obtain rfl:a=Tryz.f3:=(aU<|Tryz.func3.symm.trans b).symm;refine⟨by kernel_rfl,λj t e=>?_⟩;have c:t∈Tryz.f3.params.toList:=by simpa using ahD e
 rw[Tryz.params3] at c;simp only[eK,adU,or_false] at c;subst c;exact(show Tryz.prog.wantsStandIn 22=false by kernel_rfl)
theorem modelRuns_holds:Rows.ModelRunsCardSaid :=
 Claim7.holds_tied_plain_at .later [] _ _ _ _ said Ak (by kernel_rfl) Ak modelRuns_row_tie rfl ⟨rfl,rfl⟩ (by kernel_rfl) rfl akM akI
end Go.Proofs.YtcebnmppipejfaaGreatDoor
