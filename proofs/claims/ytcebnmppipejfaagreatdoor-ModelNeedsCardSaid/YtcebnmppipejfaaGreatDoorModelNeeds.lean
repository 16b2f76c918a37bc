import Derived.Test.YtcebnmppipejfaaGreatDoorHolds
import Derived.Test.YtcebnmppipejfaaGreatDoorLed
import Derived.Test.YtcebnmppipejfaaGreatDoorTie
import Derived.Lay
import Derived.Deep.DeepHandedRow
import Derived.SevenTiedAt
import Derived.OpenShut
import Derived.Handed
set_option linter.unusedVariables false
set_option linter.unusedSimpArgs false
set_option linter.unusedSectionVars false
namespace Go.Proofs.YtcebnmppipejfaaGreatDoor
open Go Go.Ge Go.ChangeShapes Go.WideShapes Go.ChangeAt Go.RowKit
noncomputable instance akr:Lp:=Lp.kD
theorem afn{H:Type}:LG (H:=H) Rows.uptoBulk Rows.uptoBulkAll where
 lit:=λl=>by cases l<;>simp[Rows.uptoBulk]
 str:=λs=>by simp[Rows.uptoBulk]
 nil:=by simp[Rows.uptoBulk]
 slice:=λe s=>by simp[Rows.uptoBulk]
 agg:=λp=>by simp[Rows.uptoBulk]
 none:=by simp[Rows.uptoBulkAll]
 cons:=λd r=>by simp[Rows.uptoBulkAll]
theorem own:ownKnob Tryz.prog.godebug=none:=by kernel_rfl
theorem laidOut:laidOutB Tryz.prog=true:=by kernel_rfl
theorem adV:Tryz.prog.readableRec 31=true/\31<Tryz.prog.types.size:=⟨by kernel_rfl,kx (by kernel_rfl)⟩
theorem agV:Tryz.prog.readableRec 43=true/\43<Tryz.prog.types.size:=⟨by kernel_rfl,kx (by kernel_rfl)⟩
set_option maxRecDepth 100000 in
theorem adW(H:Type)(c:TypeId×Value->H)(W:World)(d:Nat)(a:Array Value)(h k:List (DataW H))(b:List MemPlace)
  (f:∀(j:Nat) t v,Tryz.f4.params[j]?=some t->a[j]?=some v->Value.okWide Tryz.prog W .any d t v)
  (l:DataW.Whole c Tryz.prog Tryz.f4.params.toList Rows.modelNeedsSpec.vars false W a.toList h k b) :
  Calls Tryz.prog 4 a W λe m=>∃v,e=.returned v/\Rows.modelNeedsSpec.post c Tryz.prog Tryz.f4 false true false false W a v m:=by
 refine ZE (bulk:=Rows.uptoBulk) (all:=Rows.uptoBulkAll) (tb:=4) (A:=(.pair (.pair (.slice<|.pair .str<|.pair (.slice .str)<|.pair .str<|.pair .str<|.pair .str<|.pair (.slice<|.pair .str<|.pair .str<|.pair .str .unit) .unit)<|.pair (.slice<|.pair .str<|.pair (.slice .str)<|.pair .str<|.pair .str<|.pair (.slice<|.pair .str<|.pair .str<|.pair .str .unit) .unit)<|.pair (.slice<|.pair .str<|.pair .str<|.pair (.slice .str)<|.pair .str<|.pair (.int .i64)<|.pair (.int .i64)<|.pair .bool .unit)<|.pair (.slice .str)<|.pair (.slice<|.pair .str<|.pair (.int .i64) .unit) .unit)<|.pair (.pair (.slice<|.pair .str<|.pair (.slice .str)<|.pair .str<|.pair .str<|.pair .str<|.pair (.slice<|.pair .str<|.pair .str<|.pair .str .unit) .unit)<|.pair (.slice<|.pair .str<|.pair (.slice .str)<|.pair .str<|.pair .str<|.pair (.slice<|.pair .str<|.pair .str<|.pair .str .unit) .unit)<|.pair (.slice<|.pair .str<|.pair .str<|.pair (.slice .str)<|.pair .str<|.pair (.int .i64)<|.pair (.int .i64)<|.pair .bool .unit)<|.pair (.slice .str)<|.pair (.slice<|.pair .str<|.pair (.int .i64) .unit) .unit)<|.pair (.pair (.int .i64)<|.pair (.int .i64)<|.pair .str<|.pair .str<|.pair (.slice .str)<|.pair .str<|.pair .str<|.pair (.int .i64) .unit) .unit)) (spec:=ic) afn laidOut (by rw[Tryz.params4];exact⟨U3 31 (.pair (.slice<|.pair .str<|.pair (.slice .str)<|.pair .str<|.pair .str<|.pair .str<|.pair (.slice<|.pair .str<|.pair .str<|.pair .str .unit) .unit)<|.pair (.slice<|.pair .str<|.pair (.slice .str)<|.pair .str<|.pair .str<|.pair (.slice<|.pair .str<|.pair .str<|.pair .str .unit) .unit)<|.pair (.slice<|.pair .str<|.pair .str<|.pair (.slice .str)<|.pair .str<|.pair (.int .i64)<|.pair (.int .i64)<|.pair .bool .unit)<|.pair (.slice .str)<|.pair (.slice<|.pair .str<|.pair (.int .i64) .unit) .unit) rfl,U3 31 (.pair (.slice<|.pair .str<|.pair (.slice .str)<|.pair .str<|.pair .str<|.pair .str<|.pair (.slice<|.pair .str<|.pair .str<|.pair .str .unit) .unit)<|.pair (.slice<|.pair .str<|.pair (.slice .str)<|.pair .str<|.pair .str<|.pair (.slice<|.pair .str<|.pair .str<|.pair .str .unit) .unit)<|.pair (.slice<|.pair .str<|.pair .str<|.pair (.slice .str)<|.pair .str<|.pair (.int .i64)<|.pair (.int .i64)<|.pair .bool .unit)<|.pair (.slice .str)<|.pair (.slice<|.pair .str<|.pair (.int .i64) .unit) .unit) rfl,U3 43 (.pair (.int .i64)<|.pair (.int .i64)<|.pair .str<|.pair .str<|.pair (.slice .str)<|.pair .str<|.pair .str<|.pair (.int .i64) .unit) rfl,trivial⟩) (λt i=>?_) (by kernel_rfl) Tryz.underlying4 rfl (λh g=>?_) DX (acy (λ_ _=>False) _) f l (λx n q=>?_)
 .rw[Tryz.params4] at i;simp only[fY,abq,or_false] at i;rcases i with rfl|rfl|rfl
  .exact adV
  .exact adV
  .exact agV
 .rw[Tryz.params4] at g
  match h,g with
  | [r,d1,d2],_=>rfl
 .obtain⟨a0,o,p,u⟩:=x;exact MK a0 o p
noncomputable def adX(a:Os):World:=World.laidAll Tryz.prog a Rows.modelNeedsRow.laid
set_option maxRecDepth 100000 in
theorem adY(a:Os):laidMet Tryz.prog Rows.modelNeedsRow.laid ((adX a).forCall (λ_ _=>0) ⟨#[],#[.agg #[.slice none 0 0,.slice none 0 0,.slice none 0 0,.slice none 0 0,.slice none 0 0],.agg #[.slice none 0 0,.slice none 0 0,.slice none 0 0,.slice none 0 0,.slice none 0 0],.agg #[.int .i64 0,.int .i64 0,.string ⟨#[]⟩,.string ⟨#[]⟩,.slice none 0 0,.string ⟨#[]⟩,.string ⟨#[]⟩,.int .i64 0]],[]⟩).memory :=
 laidMet_laidAll #[.agg #[.slice none 0 0,.slice none 0 0,.slice none 0 0,.slice none 0 0,.slice none 0 0],.agg #[.slice none 0 0,.slice none 0 0,.slice none 0 0,.slice none 0 0,.slice none 0 0],.agg #[.int .i64 0,.int .i64 0,.string ⟨#[]⟩,.string ⟨#[]⟩,.slice none 0 0,.string ⟨#[]⟩,.string ⟨#[]⟩,.int .i64 0]] (by kernel_rfl) (by kernel_rfl)
set_option maxRecDepth 100000 in
theorem reads(b:Os){H:Type}(enc:TypeId×Value->H):∃a,DataW.whole enc Tryz.prog ((adX b).forCall (λ_ _=>0) ⟨#[],#[.agg #[.slice none 0 0,.slice none 0 0,.slice none 0 0,.slice none 0 0,.slice none 0 0],.agg #[.slice none 0 0,.slice none 0 0,.slice none 0 0,.slice none 0 0,.slice none 0 0],.agg #[.int .i64 0,.int .i64 0,.string ⟨#[]⟩,.string ⟨#[]⟩,.slice none 0 0,.string ⟨#[]⟩,.string ⟨#[]⟩,.int .i64 0]],[]⟩).memory Tryz.f4.params.toList Rows.modelNeedsSpec.vars false (#[.agg #[.slice none 0 0,.slice none 0 0,.slice none 0 0,.slice none 0 0,.slice none 0 0],.agg #[.slice none 0 0,.slice none 0 0,.slice none 0 0,.slice none 0 0,.slice none 0 0],.agg #[.int .i64 0,.int .i64 0,.string ⟨#[]⟩,.string ⟨#[]⟩,.slice none 0 0,.string ⟨#[]⟩,.string ⟨#[]⟩,.int .i64 0]]:Array Value).toList 12=some ([.agg [.nil,.nil,.nil,.nil,.nil],.agg [.nil,.nil,.nil,.nil,.nil],.agg [.lit<|.int .i64 0,.lit (.int .i64 0),.lit (.string []),.lit (.string []),.nil,.lit (.string []),.lit (.string []),.lit (.int .i64 0)]],[],a) :=
 ⟨[],by kernel_rfl⟩
set_option maxRecDepth 100000 in
theorem lifted(c:Os)(a:c.Started)(H:Type)(enc:TypeId×Value->H)(F:Stop.Interp) :
  ReturnsInHanded {} Tryz.checked c 4 .any ((OpenSpec.ofChange Rows.modelNeedsSpec).preRow enc Tryz.prog Tryz.f4 Rows.modelNeedsRow.domain false Rows.modelNeedsRow.laid) (((OpenSpec.ofChange Rows.modelNeedsSpec).at F).post enc Tryz.prog Tryz.f4 false true false false):=by
 obtain⟨g,i⟩:=reads c enc;refine returnsInHanded_of_row (C:=Tryz.checked) (s:=(OpenSpec.ofChange Rows.modelNeedsSpec)) own a (by kernel_rfl) Tryz.func4
  (witness_row_at (enc:=enc) (C:=Tryz.checked) false (adX c) #[.agg #[.slice none 0 0,.slice none 0 0,.slice none 0 0,.slice none 0 0,.slice none 0 0],.agg #[.slice none 0 0,.slice none 0 0,.slice none 0 0,.slice none 0 0,.slice none 0 0],.agg #[.int .i64 0,.int .i64 0,.string ⟨#[]⟩,.string ⟨#[]⟩,.slice none 0 0,.string ⟨#[]⟩,.string ⟨#[]⟩,.int .i64 0]] (World.laidAll_os _ _ _) (by kernel_rfl) (by kernel_rfl) (by kernel_rfl)
   (OpenSpec.preRow_of_cond 12 i (by kernel_rfl) (λk j=>by cases j) (by kernel_rfl)<|adY c)) ?_
 intro W d e l m b f n _ h _ o _ _;exact adW H enc W d e l m b f n
theorem agW{a b:Bool}(h:a=true)(k:b=true):(a&&b)=true:=by rw[h,k];rfl
set_option maxHeartbeats 20000000 in
theorem said:Rows.ModelNeedsSaid :=
 OpenClaim.holds_of_cond 4 Tryz.f4 rfl rfl rfl rfl rfl rfl rfl ⟨rfl,rfl,rfl,rfl,rfl⟩ rfl rfl rfl rfl rfl (by kernel_rfl) Tryz.func4 (by unfold joinedFacts;(repeat' with_reducible refine agW ?_ ?_)<;>first|with_reducible exact agU|with_reducible exact agT|with_reducible exact afm|with_reducible exact adT|as_aux_lemma=>kernel_rfl)
  (kx<|by kernel_rfl) (by unfold Func.isWrapper;first|(rw[bd<|by decide +kernel];kernel_rfl)|(rw[bb<|by decide +kernel];exact⟨rfl,rfl⟩))
  (λb a H enc _ F=>by rw[OpenClaim.pre_eq_preRow];exact lifted b a H enc F)
theorem adZ(f:FuncId)(a:Func)(d:Tryz.pinned.checked.prog.funcNamed "cooperage/cooperagelaw24.ModelNeeds"=some f)(b:Tryz.pinned.checked.prog.funcs[f]?=some a) :
  false=Tryz.pinned.checked.prog.looks []/\∀(j:Nat) t,a.params[j]?=some t->Tryz.pinned.checked.prog.wantsStandIn t=false:=by
 obtain rfl:f=4:=aE ((show Tryz.prog.funcNamed "cooperage/cooperagelaw24.ModelNeeds"=some 4 by kernel_rfl).symm.trans d) |>.symm;obtain rfl:a=Tryz.f4:=(aE<|Tryz.func4.symm.trans b).symm;refine⟨by kernel_rfl,λj t e=>?_⟩;have c:t∈Tryz.f4.params.toList:=by simpa using aa5 e
 rw[Tryz.params4] at c;simp only[fY,abq,or_false] at c;rcases c with rfl|rfl|rfl
 .exact(show Tryz.prog.wantsStandIn 31=false by kernel_rfl)
 .exact(show Tryz.prog.wantsStandIn 31=false by kernel_rfl)
 .exact(show Tryz.prog.wantsStandIn 43=false by kernel_rfl)
theorem modelNeeds_holds:Rows.ModelNeedsCardSaid :=
 Claim7.holds_tied_plain_at .later [] _ _ _ _ said (λ_ h=>by cases h) (by kernel_rfl) (λ_ h=>by cases h) modelNeeds_row_tie rfl ⟨rfl,rfl⟩ (by kernel_rfl) rfl adZ adU
end Go.Proofs.YtcebnmppipejfaaGreatDoor
