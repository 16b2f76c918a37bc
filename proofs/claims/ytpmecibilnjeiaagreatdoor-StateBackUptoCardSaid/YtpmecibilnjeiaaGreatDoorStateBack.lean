/- THE LAW StateBack HOLDS: it answers true, and leaves its arguments as they are. Condition: the arguments hold together at most 1048576 values and letters. -/
import Derived.Test.YtpmecibilnjeiaaGreatDoorHolds
import Derived.Test.YtpmecibilnjeiaaGreatDoorCards
import Derived.Test.YtpmecibilnjeiaaGreatDoorTie
import Derived.Lay
import Derived.Deep.DeepHandedRow
import Derived.SevenTiedAt
import Derived.OpenShut
import Derived.JoinedCond
import Derived.JoinedOf
import Derived.Handed
set_option linter.unusedVariables false
set_option linter.unusedSimpArgs false
set_option linter.unusedSectionVars false
namespace Go.Proofs.YtpmecibilnjeiaaGreatDoor
open Go Go.Ge Go.ChangeShapes Go.WideShapes Go.ChangeAt Go.RowKit
noncomputable instance ais:Lp:=Lp.mg
theorem acX{H:Type}:JM (H:=H) Rows.uptoBulk Rows.uptoBulkAll where
 lit:=λl=>by cases l<;>simp[Rows.uptoBulk]
 str:=λs=>by simp[Rows.uptoBulk]
 nil:=by simp[Rows.uptoBulk]
 slice:=λe s=>by simp[Rows.uptoBulk]
 agg:=λp=>by simp[Rows.uptoBulk]
 none:=by simp[Rows.uptoBulkAll]
 cons:=λd r=>by simp[Rows.uptoBulkAll]
theorem own:ownKnob Tryz.prog.godebug=none:=by kernel_rfl
theorem laidOut:laidOutB Tryz.prog=true:=by kernel_rfl
theorem afV:Tryz.prog.readableRec 9=true/\9<Tryz.prog.types.size:=⟨by kernel_rfl,kH (by kernel_rfl)⟩
theorem aeD:Tryz.prog.readableRec 28=true/\28<Tryz.prog.types.size:=⟨by kernel_rfl,kH (by kernel_rfl)⟩
theorem aeE:Tryz.prog.readableRec 30=true/\30<Tryz.prog.types.size:=⟨by kernel_rfl,kH (by kernel_rfl)⟩
set_option maxRecDepth 100000 in
theorem abr(H:Type)(c:TypeId×Value->H)(W:World)(d:Nat)(a:Array Value)(h k:List (DataW H))(b:List MemPlace)(o:Rows.uptoSmall H (h++k)=true)
  (f:∀(j:Nat) t v,Tryz.f3.params[j]?=some t->a[j]?=some v->Value.okWide Tryz.prog W .any d t v)
  (p:DataW.Whole c Tryz.prog Tryz.f3.params.toList Rows.stateBackSpec.vars false W a.toList h k b) :
  Calls Tryz.prog 3 a W λe q=>∃v,e=.returned v/\Rows.stateBackSpec.post c Tryz.prog Tryz.f3 false true false false W a v q:=by
 refine Xj (bulk:=Rows.uptoBulk) (all:=Rows.uptoBulkAll) (tb:=4) (A:=(.pair (.pair (.slice<|.pair .str<|.pair (.slice .str)<|.pair .str<|.pair .str<|.pair .str<|.pair (.slice<|.pair .str<|.pair .str<|.pair .str .unit) .unit)<|.pair (.slice<|.pair .str<|.pair (.slice .str)<|.pair .str<|.pair .str<|.pair (.slice<|.pair .str<|.pair .str<|.pair .str .unit) .unit)<|.pair (.slice<|.pair .str<|.pair .str<|.pair (.slice .str)<|.pair .str<|.pair (.int .i64)<|.pair (.int .i64)<|.pair .bool .unit)<|.pair (.slice .str)<|.pair (.slice<|.pair .str<|.pair (.int .i64) .unit) .unit)<|.pair (.pair .str<|.pair .str<|.pair (.slice .str)<|.pair .str<|.pair (.int .i64)<|.pair (.int .i64)<|.pair .bool .unit)<|.pair .str .unit)) (spec:=jC) acX laidOut (by rw[Tryz.params3];exact⟨SU 28 (.pair (.slice<|.pair .str<|.pair (.slice .str)<|.pair .str<|.pair .str<|.pair .str<|.pair (.slice<|.pair .str<|.pair .str<|.pair .str .unit) .unit)<|.pair (.slice<|.pair .str<|.pair (.slice .str)<|.pair .str<|.pair .str<|.pair (.slice<|.pair .str<|.pair .str<|.pair .str .unit) .unit)<|.pair (.slice<|.pair .str<|.pair .str<|.pair (.slice .str)<|.pair .str<|.pair (.int .i64)<|.pair (.int .i64)<|.pair .bool .unit)<|.pair (.slice .str)<|.pair (.slice<|.pair .str<|.pair (.int .i64) .unit) .unit) rfl,SU 30 (.pair .str<|.pair .str<|.pair (.slice .str)<|.pair .str<|.pair (.int .i64)<|.pair (.int .i64)<|.pair .bool .unit) rfl,SU 9 .str rfl,trivial⟩) (λt i=>?_) (by kernel_rfl) Tryz.underlying4 rfl (λh g=>?_) EB (aaf (λ_ _=>False) _) f p (λx r s=>?_)
 .rw[Tryz.params3] at i;simp only[gd,List.not_mem_nil,or_false] at i;rcases i with rfl|rfl|rfl
  .exact aeD
  .exact aeE
  .exact afV
 .rw[Tryz.params3] at g
  match h,g with
  | [w,d1,d2],_=>rfl
 .obtain⟨a0,l,m,u⟩:=x;have n:((.pair (.pair (.slice<|.pair .str<|.pair (.slice .str)<|.pair .str<|.pair .str<|.pair .str<|.pair (.slice<|.pair .str<|.pair .str<|.pair .str .unit) .unit)<|.pair (.slice<|.pair .str<|.pair (.slice .str)<|.pair .str<|.pair .str<|.pair (.slice<|.pair .str<|.pair .str<|.pair .str .unit) .unit)<|.pair (.slice<|.pair .str<|.pair .str<|.pair (.slice .str)<|.pair .str<|.pair (.int .i64)<|.pair (.int .i64)<|.pair .bool .unit)<|.pair (.slice .str)<|.pair (.slice<|.pair .str<|.pair (.int .i64) .unit) .unit)<|.pair (.pair .str<|.pair .str<|.pair (.slice .str)<|.pair .str<|.pair (.int .i64)<|.pair (.int .i64)<|.pair .bool .unit)<|.pair .str .unit):Ty).bulk (a0,l,m,())<=1048576:=fM s (kH o);exact Mf a0 l m (aet<|fM (Nat.le_add_right _ _) n) (abk<|fM (fM (Nat.le_add_right _ _)<|Nat.le_add_left _ _) n)
noncomputable def abt(a:Os):World:=World.laidAll Tryz.prog a Rows.stateBackUptoRow.laid
set_option maxRecDepth 100000 in
theorem abu(a:Os):laidMet Tryz.prog Rows.stateBackUptoRow.laid ((abt a).forCall (λ_ _=>0) ⟨#[],#[.agg #[.slice none 0 0,.slice none 0 0,.slice none 0 0,.slice none 0 0,.slice none 0 0],.agg #[.string ⟨#[]⟩,.string ⟨#[]⟩,.slice none 0 0,.string ⟨#[]⟩,.int .i64 0,.int .i64 0,.bool false],.string ⟨#[]⟩],[]⟩).memory :=
 laidMet_laidAll #[.agg #[.slice none 0 0,.slice none 0 0,.slice none 0 0,.slice none 0 0,.slice none 0 0],.agg #[.string ⟨#[]⟩,.string ⟨#[]⟩,.slice none 0 0,.string ⟨#[]⟩,.int .i64 0,.int .i64 0,.bool false],.string ⟨#[]⟩] (by kernel_rfl) (by kernel_rfl)
set_option maxRecDepth 100000 in
theorem reads(b:Os){H:Type}(enc:TypeId×Value->H):∃a,DataW.whole enc Tryz.prog ((abt b).forCall (λ_ _=>0) ⟨#[],#[.agg #[.slice none 0 0,.slice none 0 0,.slice none 0 0,.slice none 0 0,.slice none 0 0],.agg #[.string ⟨#[]⟩,.string ⟨#[]⟩,.slice none 0 0,.string ⟨#[]⟩,.int .i64 0,.int .i64 0,.bool false],.string ⟨#[]⟩],[]⟩).memory Tryz.f3.params.toList Rows.stateBackSpec.vars false (#[.agg #[.slice none 0 0,.slice none 0 0,.slice none 0 0,.slice none 0 0,.slice none 0 0],.agg #[.string ⟨#[]⟩,.string ⟨#[]⟩,.slice none 0 0,.string ⟨#[]⟩,.int .i64 0,.int .i64 0,.bool false],.string ⟨#[]⟩]:Array Value).toList 12=some ([.agg [.nil,.nil,.nil,.nil,.nil],.agg [.lit<|.string [],.lit (.string []),.nil,.lit (.string []),.lit (.int .i64 0),.lit (.int .i64 0),.lit (.bool false)],.lit (.string [])],[],a) :=
 ⟨[],by kernel_rfl⟩
set_option maxRecDepth 100000 in
theorem lifted(d:Os)(a:d.Started)(H:Type)(enc:TypeId×Value->H)(F:Stop.Interp) :
  ReturnsInHanded {} Tryz.checked d 3 .any ((Rows.OpenSpec.upto Rows.stateBackSpec).preRow enc Tryz.prog Tryz.f3 Rows.stateBackUptoRow.domain false Rows.stateBackUptoRow.laid) (((Rows.OpenSpec.upto Rows.stateBackSpec).at F).post enc Tryz.prog Tryz.f3 false true false false):=by
 obtain⟨h,i⟩:=reads d enc;refine returnsInHanded_of_row (C:=Tryz.checked) (s:=(Rows.OpenSpec.upto Rows.stateBackSpec)) own a (by kernel_rfl) Tryz.func3
  (witness_row_at (enc:=enc) (C:=Tryz.checked) false (abt d) #[.agg #[.slice none 0 0,.slice none 0 0,.slice none 0 0,.slice none 0 0,.slice none 0 0],.agg #[.string ⟨#[]⟩,.string ⟨#[]⟩,.slice none 0 0,.string ⟨#[]⟩,.int .i64 0,.int .i64 0,.bool false],.string ⟨#[]⟩] (World.laidAll_os _ _ _) (by kernel_rfl) (by kernel_rfl) (by kernel_rfl)
   (OpenSpec.preRow_of_cond 12 i (by kernel_rfl) (λk j=>by cases j;kernel_rfl) (by kernel_rfl)<|abu d)) ?_
 intro W e f l m b g n _ c _ o _ _;exact abr H enc W e f l m b (c _ rfl) g n
theorem aeF{a b:Bool}(h:a=true)(k:b=true):(a&&b)=true:=by rw[h,k];rfl
set_option maxHeartbeats 20000000 in
theorem said:Rows.StateBackUptoSaid :=
 OpenClaim.holds_of_cond 3 Tryz.f3 rfl rfl rfl rfl rfl rfl rfl ⟨rfl,rfl,rfl,rfl,rfl⟩ rfl rfl rfl rfl rfl (by kernel_rfl) Tryz.func3 (by unfold joinedFacts;(repeat' with_reducible refine aeF ?_ ?_)<;>as_aux_lemma=>kernel_rfl)
  (kH<|by kernel_rfl) (by unfold Func.isWrapper;first|(rw[aV<|by decide +kernel];kernel_rfl)|(rw[aX<|by decide +kernel];exact⟨rfl,rfl⟩))
  (λb a H enc _ F=>by rw[OpenClaim.pre_eq_preRow];exact lifted b a H enc F)
theorem abv(f:FuncId)(a:Func)(d:Tryz.pinned.checked.prog.funcNamed "cooperage/cooperagelaw20.StateBack"=some f)(b:Tryz.pinned.checked.prog.funcs[f]?=some a) :
  false=Tryz.pinned.checked.prog.looks []/\∀(j:Nat) t,a.params[j]?=some t->Tryz.pinned.checked.prog.wantsStandIn t=false:=by
 obtain rfl:f=3:=aG ((show Tryz.prog.funcNamed "cooperage/cooperagelaw20.StateBack"=some 3 by kernel_rfl).symm.trans d) |>.symm;obtain rfl:a=Tryz.f3:=(aG<|Tryz.func3.symm.trans b).symm;refine⟨by kernel_rfl,λj t e=>?_⟩;have c:t∈Tryz.f3.params.toList:=by simpa using YU e
 rw[Tryz.params3] at c;simp only[gd,List.not_mem_nil,or_false] at c;rcases c with rfl|rfl|rfl
 .exact(show Tryz.prog.wantsStandIn 28=false by kernel_rfl)
 .exact(show Tryz.prog.wantsStandIn 30=false by kernel_rfl)
 .exact(show Tryz.prog.wantsStandIn 9=false by kernel_rfl)
theorem stateBack_holds:Rows.StateBackUptoCardSaid :=
 Claim7.holds_tied_plain_at .later [] _ _ _ _ said (λ_ h=>by cases h) (by kernel_rfl) (λ_ h=>by cases h) stateBackUpto_row_tie rfl ⟨rfl,rfl⟩ (by kernel_rfl) rfl abv (by kernel_rfl)
end Go.Proofs.YtpmecibilnjeiaaGreatDoor
