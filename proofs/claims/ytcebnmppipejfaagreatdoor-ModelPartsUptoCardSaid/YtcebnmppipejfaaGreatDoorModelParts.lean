import Derived.Test.YtcebnmppipejfaaGreatDoorHolds
import Derived.Test.YtcebnmppipejfaaGreatDoorLed
import Derived.Test.YtcebnmppipejfaaGreatDoorTie
import Derived.Lay
import Derived.Deep.DeepHandedRow
import Derived.SevenTiedAt
import Derived.OpenShut
import Derived.Handed
set_option linter.unusedVariables false
set_option linter.unusedSimpArgs false
set_option linter.unusedSectionVars false
set_option linter.defProp false
open Option renaming some->ab,none->ah
namespace Go.Proofs.YtcebnmppipejfaaGreatDoor
open Go Go.Ge Go.ChangeShapes Go.WideShapes Go.ChangeAt Go.RowKit
noncomputable instance anB:Lp:=Lp.l7
def aix{H:Type}:MS (H:=H) Rows.uptoBulk Rows.uptoBulkAll where
 lit:=λl=>by cases l<;>simp[Rows.uptoBulk]
 str:=λs=>by simp[Rows.uptoBulk]
 nil:=by simp[Rows.uptoBulk]
 slice:=λe s=>by simp[Rows.uptoBulk]
 agg:=λp=>by simp[Rows.uptoBulk]
 none:=by simp[Rows.uptoBulkAll]
 cons:=λd r=>by simp[Rows.uptoBulkAll]
def own:ownKnob Tryz.prog.godebug=none:=by kernel_rfl
def laidOut:laidOutB Tryz.prog=true:=by kernel_rfl
def aj3:Tryz.prog.readableRec 31=true/\31<Tryz.prog.types.size:=⟨by kernel_rfl,iy (by kernel_rfl)⟩
def aj4:Tryz.prog.readableRec 43=true/\43<Tryz.prog.types.size:=⟨by kernel_rfl,iy (by kernel_rfl)⟩
set_option maxRecDepth 100000 in
def agJ(H:Type)(c:TypeId×Value->H)(W:World)(d:Nat)(a:Array Value)(h k:List (DataW H))(b:List MemPlace)(m:Rows.uptoSmall H (h++k)=true)
  (f:∀(j:Nat) t v,Tryz.f5.params[j]?=ab t->a[j]?=ab v->Value.okWide Tryz.prog W .any d t v)
  (n:DataW.Whole c Tryz.prog Tryz.f5.params.toList Rows.modelPartsSpec.vars false W a.toList h k b) :
  Calls Tryz.prog 5 a W λe o=>∃v,e=.returned v/\Rows.modelPartsSpec.post c Tryz.prog Tryz.f5 false true false false W a v o:=by
 refine abB (bulk:=Rows.uptoBulk) (all:=Rows.uptoBulkAll) (tb:=4) (A:=(.pair (.pair (.slice<|.pair .str<|.pair (.slice .str)<|.pair .str<|.pair .str<|.pair .str<|.pair (.slice<|.pair .str<|.pair .str<|.pair .str .unit) .unit)<|.pair (.slice<|.pair .str<|.pair (.slice .str)<|.pair .str<|.pair .str<|.pair (.slice<|.pair .str<|.pair .str<|.pair .str .unit) .unit)<|.pair (.slice<|.pair .str<|.pair .str<|.pair (.slice .str)<|.pair .str<|.pair (.int .i64)<|.pair (.int .i64)<|.pair .bool .unit)<|.pair (.slice .str)<|.pair (.slice<|.pair .str<|.pair (.int .i64) .unit) .unit)<|.pair (.pair (.int .i64)<|.pair (.int .i64)<|.pair .str<|.pair .str<|.pair (.slice .str)<|.pair .str<|.pair .str<|.pair (.int .i64) .unit) .unit)) (spec:=jw) aix laidOut (by rw[Tryz.params5];exact⟨Zr 31 (.pair (.slice<|.pair .str<|.pair (.slice .str)<|.pair .str<|.pair .str<|.pair .str<|.pair (.slice<|.pair .str<|.pair .str<|.pair .str .unit) .unit)<|.pair (.slice<|.pair .str<|.pair (.slice .str)<|.pair .str<|.pair .str<|.pair (.slice<|.pair .str<|.pair .str<|.pair .str .unit) .unit)<|.pair (.slice<|.pair .str<|.pair .str<|.pair (.slice .str)<|.pair .str<|.pair (.int .i64)<|.pair (.int .i64)<|.pair .bool .unit)<|.pair (.slice .str)<|.pair (.slice<|.pair .str<|.pair (.int .i64) .unit) .unit) rfl,Zr 43 (.pair (.int .i64)<|.pair (.int .i64)<|.pair .str<|.pair .str<|.pair (.slice .str)<|.pair .str<|.pair .str<|.pair (.int .i64) .unit) rfl,trivial⟩) (λt i=>?_) (by kernel_rfl) Tryz.underlying4 rfl (λh g=>?_) Fv (aeU (λ_ _=>False) _) f n (λx p q=>?_)
 .rw[Tryz.params5] at i;simp only[ld,List.not_mem_nil,or_false] at i;rcases i with rfl|rfl
  .exact aj3
  .exact aj4
 .rw[Tryz.params5] at g
  match h,g with
  | [s,d1],_=>rfl
 .obtain⟨a0,l,u⟩:=x;have r:((.pair (.pair (.slice<|.pair .str<|.pair (.slice .str)<|.pair .str<|.pair .str<|.pair .str<|.pair (.slice<|.pair .str<|.pair .str<|.pair .str .unit) .unit)<|.pair (.slice<|.pair .str<|.pair (.slice .str)<|.pair .str<|.pair .str<|.pair (.slice<|.pair .str<|.pair .str<|.pair .str .unit) .unit)<|.pair (.slice<|.pair .str<|.pair .str<|.pair (.slice .str)<|.pair .str<|.pair (.int .i64)<|.pair (.int .i64)<|.pair .bool .unit)<|.pair (.slice .str)<|.pair (.slice<|.pair .str<|.pair (.int .i64) .unit) .unit)<|.pair (.pair (.int .i64)<|.pair (.int .i64)<|.pair .str<|.pair .str<|.pair (.slice .str)<|.pair .str<|.pair .str<|.pair (.int .i64) .unit) .unit):Ty).bulk (a0,l,())<=1048576:=jb q (iy m);exact Og a0 l (ajM<|jb (Nat.le_add_right _ _) r)
noncomputable def agK(a:Os):World:=World.laidAll Tryz.prog a Rows.modelPartsUptoRow.laid
set_option maxRecDepth 100000 in
def agL(a:Os):laidMet Tryz.prog Rows.modelPartsUptoRow.laid ((agK a).forCall (λ_ _=>0) ⟨#[],#[.agg #[.slice ah 0 0,.slice ah 0 0,.slice ah 0 0,.slice ah 0 0,.slice ah 0 0],.agg #[.int .i64 0,.int .i64 0,.string ⟨#[]⟩,.string ⟨#[]⟩,.slice ah 0 0,.string ⟨#[]⟩,.string ⟨#[]⟩,.int .i64 0]],[]⟩).memory :=
 laidMet_laidAll #[.agg #[.slice ah 0 0,.slice ah 0 0,.slice ah 0 0,.slice ah 0 0,.slice ah 0 0],.agg #[.int .i64 0,.int .i64 0,.string ⟨#[]⟩,.string ⟨#[]⟩,.slice ah 0 0,.string ⟨#[]⟩,.string ⟨#[]⟩,.int .i64 0]] (by kernel_rfl) (by kernel_rfl)
set_option maxRecDepth 100000 in
def reads(b:Os){H:Type}(enc:TypeId×Value->H):∃a,DataW.whole enc Tryz.prog ((agK b).forCall (λ_ _=>0) ⟨#[],#[.agg #[.slice ah 0 0,.slice ah 0 0,.slice ah 0 0,.slice ah 0 0,.slice ah 0 0],.agg #[.int .i64 0,.int .i64 0,.string ⟨#[]⟩,.string ⟨#[]⟩,.slice ah 0 0,.string ⟨#[]⟩,.string ⟨#[]⟩,.int .i64 0]],[]⟩).memory Tryz.f5.params.toList Rows.modelPartsSpec.vars false (#[.agg #[.slice ah 0 0,.slice ah 0 0,.slice ah 0 0,.slice ah 0 0,.slice ah 0 0],.agg #[.int .i64 0,.int .i64 0,.string ⟨#[]⟩,.string ⟨#[]⟩,.slice ah 0 0,.string ⟨#[]⟩,.string ⟨#[]⟩,.int .i64 0]]:Array Value).toList 12=ab ([.agg [.nil,.nil,.nil,.nil,.nil],.agg [.lit<|.int .i64 0,.lit (.int .i64 0),.lit (.string []),.lit (.string []),.nil,.lit (.string []),.lit (.string []),.lit (.int .i64 0)]],[],a) :=
 ⟨[],by kernel_rfl⟩
set_option maxRecDepth 100000 in
def lifted(d:Os)(a:d.Started)(H:Type)(enc:TypeId×Value->H)(F:Stop.Interp) :
  ReturnsInHanded {} Tryz.checked d 5 .any ((Rows.OpenSpec.upto Rows.modelPartsSpec).preRow enc Tryz.prog Tryz.f5 Rows.modelPartsUptoRow.domain false Rows.modelPartsUptoRow.laid) (((Rows.OpenSpec.upto Rows.modelPartsSpec).at F).post enc Tryz.prog Tryz.f5 false true false false):=by
 obtain⟨h,i⟩:=reads d enc;refine returnsInHanded_of_row (C:=Tryz.checked) (s:=(Rows.OpenSpec.upto Rows.modelPartsSpec)) own a (by kernel_rfl) Tryz.func5
  (witness_row_at (enc:=enc) (C:=Tryz.checked) false (agK d) #[.agg #[.slice ah 0 0,.slice ah 0 0,.slice ah 0 0,.slice ah 0 0,.slice ah 0 0],.agg #[.int .i64 0,.int .i64 0,.string ⟨#[]⟩,.string ⟨#[]⟩,.slice ah 0 0,.string ⟨#[]⟩,.string ⟨#[]⟩,.int .i64 0]] (World.laidAll_os _ _ _) (by kernel_rfl) (by kernel_rfl) (by kernel_rfl)
   (OpenSpec.preRow_of_cond 12 i (by kernel_rfl) (λk j=>by cases j;kernel_rfl) (by kernel_rfl)<|agL d)) ?_
 intro W e f l m b g n _ c _ o _ _;exact agJ H enc W e f l m b (c _ rfl) g n
def aj5{a b:Bool}(h:a=true)(k:b=true):(a&&b)=true:=by rw[h,k];rfl
set_option maxHeartbeats 20000000 in
def said:Rows.ModelPartsUptoSaid :=
 OpenClaim.holds_of_cond 5 Tryz.f5 rfl rfl rfl rfl rfl rfl rfl ⟨rfl,rfl,rfl,rfl,rfl⟩ rfl rfl rfl rfl rfl (by kernel_rfl) Tryz.func5 (by unfold joinedFacts;(repeat' with_reducible refine aj5 ?_ ?_)<;>first|with_reducible exact aj2|with_reducible exact aj1|with_reducible exact aiw|with_reducible exact agH|as_aux_lemma=>kernel_rfl)
  (iy<|by kernel_rfl) (by unfold Func.isWrapper;first|(rw[aW<|by decide +kernel];kernel_rfl)|(rw[aQ<|by decide +kernel];exact⟨rfl,rfl⟩))
  (λb a H enc _ F=>by rw[OpenClaim.pre_eq_preRow];exact lifted b a H enc F)
def agM(f:FuncId)(a:Func)(d:Tryz.pinned.checked.prog.funcNamed "cooperage/cooperagelaw24.ModelParts"=ab f)(b:Tryz.pinned.checked.prog.funcs[f]?=ab a) :
  false=Tryz.pinned.checked.prog.looks []/\∀(j:Nat) t,a.params[j]?=ab t->Tryz.pinned.checked.prog.wantsStandIn t=false:=by
 obtain rfl:f=5:=aR ((show Tryz.prog.funcNamed "cooperage/cooperagelaw24.ModelParts"=ab 5 by kernel_rfl).symm.trans d) |>.symm;obtain rfl:a=Tryz.f5:=(aR<|Tryz.func5.symm.trans b).symm;refine⟨by kernel_rfl,λj t e=>?_⟩;have c:t∈Tryz.f5.params.toList:=by simpa using adz e
 rw[Tryz.params5] at c;simp only[ld,List.not_mem_nil,or_false] at c;rcases c with rfl|rfl
 .exact(show Tryz.prog.wantsStandIn 31=false by kernel_rfl)
 .exact(show Tryz.prog.wantsStandIn 43=false by kernel_rfl)
theorem modelParts_holds:Rows.ModelPartsUptoCardSaid :=
 Claim7.holds_tied_plain_at .later [] _ _ _ _ said Fx (by kernel_rfl) Fx modelPartsUpto_row_tie rfl ⟨rfl,rfl⟩ (by kernel_rfl) rfl agM agI
end Go.Proofs.YtcebnmppipejfaaGreatDoor
