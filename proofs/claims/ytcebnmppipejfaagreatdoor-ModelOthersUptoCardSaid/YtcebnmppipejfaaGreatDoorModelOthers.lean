import Derived.Test.YtcebnmppipejfaaGreatDoorHolds
import Derived.Test.YtcebnmppipejfaaGreatDoorLed
import Derived.Test.YtcebnmppipejfaaGreatDoorTie
import Derived.Lay
import Derived.Deep.DeepHandedRow
import Derived.SevenTiedAt
import Derived.OpenShut
import Derived.Handed
set_option linter.unusedVariables false
set_option linter.unusedSimpArgs false
set_option linter.unusedSectionVars false
set_option linter.defProp false
open Option renaming some->ab,none->ah
namespace Go.Proofs.YtcebnmppipejfaaGreatDoor
open Go Go.Ge Go.ChangeShapes Go.WideShapes Go.ChangeAt Go.RowKit
noncomputable instance anb:Lp:=Lp.lZ
def ah4{H:Type}:MB (H:=H) Rows.uptoBulk Rows.uptoBulkAll where
 lit:=λl=>by cases l<;>simp[Rows.uptoBulk]
 str:=λs=>by simp[Rows.uptoBulk]
 nil:=by simp[Rows.uptoBulk]
 slice:=λe s=>by simp[Rows.uptoBulk]
 agg:=λp=>by simp[Rows.uptoBulk]
 none:=by simp[Rows.uptoBulkAll]
 cons:=λd r=>by simp[Rows.uptoBulkAll]
def own:ownKnob Tryz.prog.godebug=none:=by kernel_rfl
def laidOut:laidOutB Tryz.prog=true:=by kernel_rfl
def ago:Tryz.prog.readableRec 31=true/\31<Tryz.prog.types.size:=⟨by kernel_rfl,iq (by kernel_rfl)⟩
def ajA:Tryz.prog.readableRec 43=true/\43<Tryz.prog.types.size:=⟨by kernel_rfl,iq (by kernel_rfl)⟩
set_option maxRecDepth 100000 in
def agp(H:Type)(c:TypeId×Value->H)(W:World)(d:Nat)(a:Array Value)(h k:List (DataW H))(b:List MemPlace)(o:Rows.uptoSmall H (h++k)=true)
  (f:∀(j:Nat) t v,Tryz.f6.params[j]?=ab t->a[j]?=ab v->Value.okWide Tryz.prog W .any d t v)
  (p:DataW.Whole c Tryz.prog Tryz.f6.params.toList Rows.modelOthersSpec.vars false W a.toList h k b) :
  Calls Tryz.prog 6 a W λe q=>∃v,e=.returned v/\Rows.modelOthersSpec.post c Tryz.prog Tryz.f6 false true false false W a v q:=by
 refine abm (bulk:=Rows.uptoBulk) (all:=Rows.uptoBulkAll) (tb:=4) (A:=(.pair (.pair (.slice<|.pair .str<|.pair (.slice .str)<|.pair .str<|.pair .str<|.pair .str<|.pair (.slice<|.pair .str<|.pair .str<|.pair .str .unit) .unit)<|.pair (.slice<|.pair .str<|.pair (.slice .str)<|.pair .str<|.pair .str<|.pair (.slice<|.pair .str<|.pair .str<|.pair .str .unit) .unit)<|.pair (.slice<|.pair .str<|.pair .str<|.pair (.slice .str)<|.pair .str<|.pair (.int .i64)<|.pair (.int .i64)<|.pair .bool .unit)<|.pair (.slice .str)<|.pair (.slice<|.pair .str<|.pair (.int .i64) .unit) .unit)<|.pair (.pair (.slice<|.pair .str<|.pair (.slice .str)<|.pair .str<|.pair .str<|.pair .str<|.pair (.slice<|.pair .str<|.pair .str<|.pair .str .unit) .unit)<|.pair (.slice<|.pair .str<|.pair (.slice .str)<|.pair .str<|.pair .str<|.pair (.slice<|.pair .str<|.pair .str<|.pair .str .unit) .unit)<|.pair (.slice<|.pair .str<|.pair .str<|.pair (.slice .str)<|.pair .str<|.pair (.int .i64)<|.pair (.int .i64)<|.pair .bool .unit)<|.pair (.slice .str)<|.pair (.slice<|.pair .str<|.pair (.int .i64) .unit) .unit)<|.pair (.pair (.int .i64)<|.pair (.int .i64)<|.pair .str<|.pair .str<|.pair (.slice .str)<|.pair .str<|.pair .str<|.pair (.int .i64) .unit) .unit)) (spec:=ig) ah4 laidOut (by rw[Tryz.params6];exact⟨Wy 31 (.pair (.slice<|.pair .str<|.pair (.slice .str)<|.pair .str<|.pair .str<|.pair .str<|.pair (.slice<|.pair .str<|.pair .str<|.pair .str .unit) .unit)<|.pair (.slice<|.pair .str<|.pair (.slice .str)<|.pair .str<|.pair .str<|.pair (.slice<|.pair .str<|.pair .str<|.pair .str .unit) .unit)<|.pair (.slice<|.pair .str<|.pair .str<|.pair (.slice .str)<|.pair .str<|.pair (.int .i64)<|.pair (.int .i64)<|.pair .bool .unit)<|.pair (.slice .str)<|.pair (.slice<|.pair .str<|.pair (.int .i64) .unit) .unit) rfl,Wy 31 (.pair (.slice<|.pair .str<|.pair (.slice .str)<|.pair .str<|.pair .str<|.pair .str<|.pair (.slice<|.pair .str<|.pair .str<|.pair .str .unit) .unit)<|.pair (.slice<|.pair .str<|.pair (.slice .str)<|.pair .str<|.pair .str<|.pair (.slice<|.pair .str<|.pair .str<|.pair .str .unit) .unit)<|.pair (.slice<|.pair .str<|.pair .str<|.pair (.slice .str)<|.pair .str<|.pair (.int .i64)<|.pair (.int .i64)<|.pair .bool .unit)<|.pair (.slice .str)<|.pair (.slice<|.pair .str<|.pair (.int .i64) .unit) .unit) rfl,Wy 43 (.pair (.int .i64)<|.pair (.int .i64)<|.pair .str<|.pair .str<|.pair (.slice .str)<|.pair .str<|.pair .str<|.pair (.int .i64) .unit) rfl,trivial⟩) (λt i=>?_) (by kernel_rfl) Tryz.underlying4 rfl (λh g=>?_) DH (aeB (λ_ _=>False) _) f p (λx r s=>?_)
 .rw[Tryz.params6] at i;simp only[lW,List.not_mem_nil,or_false] at i;rcases i with rfl|rfl|rfl
  .exact ago
  .exact ago
  .exact ajA
 .rw[Tryz.params6] at g
  match h,g with
  | [w,d1,d2],_=>rfl
 .obtain⟨a0,l,m,u⟩:=x;have n:((.pair (.pair (.slice<|.pair .str<|.pair (.slice .str)<|.pair .str<|.pair .str<|.pair .str<|.pair (.slice<|.pair .str<|.pair .str<|.pair .str .unit) .unit)<|.pair (.slice<|.pair .str<|.pair (.slice .str)<|.pair .str<|.pair .str<|.pair (.slice<|.pair .str<|.pair .str<|.pair .str .unit) .unit)<|.pair (.slice<|.pair .str<|.pair .str<|.pair (.slice .str)<|.pair .str<|.pair (.int .i64)<|.pair (.int .i64)<|.pair .bool .unit)<|.pair (.slice .str)<|.pair (.slice<|.pair .str<|.pair (.int .i64) .unit) .unit)<|.pair (.pair (.slice<|.pair .str<|.pair (.slice .str)<|.pair .str<|.pair .str<|.pair .str<|.pair (.slice<|.pair .str<|.pair .str<|.pair .str .unit) .unit)<|.pair (.slice<|.pair .str<|.pair (.slice .str)<|.pair .str<|.pair .str<|.pair (.slice<|.pair .str<|.pair .str<|.pair .str .unit) .unit)<|.pair (.slice<|.pair .str<|.pair .str<|.pair (.slice .str)<|.pair .str<|.pair (.int .i64)<|.pair (.int .i64)<|.pair .bool .unit)<|.pair (.slice .str)<|.pair (.slice<|.pair .str<|.pair (.int .i64) .unit) .unit)<|.pair (.pair (.int .i64)<|.pair (.int .i64)<|.pair .str<|.pair .str<|.pair (.slice .str)<|.pair .str<|.pair .str<|.pair (.int .i64) .unit) .unit):Ty).bulk (a0,l,m,())<=1048576:=iU s (iq o);exact Kn a0 l m (afz<|iU (Nat.le_add_right _ _) n) (afz<|iU (iU (Nat.le_add_right _ _)<|Nat.le_add_left _ _) n)
noncomputable def agq(a:Os):World:=World.laidAll Tryz.prog a Rows.modelOthersUptoRow.laid
set_option maxRecDepth 100000 in
def agr(a:Os):laidMet Tryz.prog Rows.modelOthersUptoRow.laid ((agq a).forCall (λ_ _=>0) ⟨#[],#[.agg #[.slice ah 0 0,.slice ah 0 0,.slice ah 0 0,.slice ah 0 0,.slice ah 0 0],.agg #[.slice ah 0 0,.slice ah 0 0,.slice ah 0 0,.slice ah 0 0,.slice ah 0 0],.agg #[.int .i64 0,.int .i64 0,.string ⟨#[]⟩,.string ⟨#[]⟩,.slice ah 0 0,.string ⟨#[]⟩,.string ⟨#[]⟩,.int .i64 0]],[]⟩).memory :=
 laidMet_laidAll #[.agg #[.slice ah 0 0,.slice ah 0 0,.slice ah 0 0,.slice ah 0 0,.slice ah 0 0],.agg #[.slice ah 0 0,.slice ah 0 0,.slice ah 0 0,.slice ah 0 0,.slice ah 0 0],.agg #[.int .i64 0,.int .i64 0,.string ⟨#[]⟩,.string ⟨#[]⟩,.slice ah 0 0,.string ⟨#[]⟩,.string ⟨#[]⟩,.int .i64 0]] (by kernel_rfl) (by kernel_rfl)
set_option maxRecDepth 100000 in
def reads(b:Os){H:Type}(enc:TypeId×Value->H):∃a,DataW.whole enc Tryz.prog ((agq b).forCall (λ_ _=>0) ⟨#[],#[.agg #[.slice ah 0 0,.slice ah 0 0,.slice ah 0 0,.slice ah 0 0,.slice ah 0 0],.agg #[.slice ah 0 0,.slice ah 0 0,.slice ah 0 0,.slice ah 0 0,.slice ah 0 0],.agg #[.int .i64 0,.int .i64 0,.string ⟨#[]⟩,.string ⟨#[]⟩,.slice ah 0 0,.string ⟨#[]⟩,.string ⟨#[]⟩,.int .i64 0]],[]⟩).memory Tryz.f6.params.toList Rows.modelOthersSpec.vars false (#[.agg #[.slice ah 0 0,.slice ah 0 0,.slice ah 0 0,.slice ah 0 0,.slice ah 0 0],.agg #[.slice ah 0 0,.slice ah 0 0,.slice ah 0 0,.slice ah 0 0,.slice ah 0 0],.agg #[.int .i64 0,.int .i64 0,.string ⟨#[]⟩,.string ⟨#[]⟩,.slice ah 0 0,.string ⟨#[]⟩,.string ⟨#[]⟩,.int .i64 0]]:Array Value).toList 12=ab ([.agg [.nil,.nil,.nil,.nil,.nil],.agg [.nil,.nil,.nil,.nil,.nil],.agg [.lit<|.int .i64 0,.lit (.int .i64 0),.lit (.string []),.lit (.string []),.nil,.lit (.string []),.lit (.string []),.lit (.int .i64 0)]],[],a) :=
 ⟨[],by kernel_rfl⟩
set_option maxRecDepth 100000 in
def lifted(d:Os)(a:d.Started)(H:Type)(enc:TypeId×Value->H)(F:Stop.Interp) :
  ReturnsInHanded {} Tryz.checked d 6 .any ((Rows.OpenSpec.upto Rows.modelOthersSpec).preRow enc Tryz.prog Tryz.f6 Rows.modelOthersUptoRow.domain false Rows.modelOthersUptoRow.laid) (((Rows.OpenSpec.upto Rows.modelOthersSpec).at F).post enc Tryz.prog Tryz.f6 false true false false):=by
 obtain⟨h,i⟩:=reads d enc;refine returnsInHanded_of_row (C:=Tryz.checked) (s:=(Rows.OpenSpec.upto Rows.modelOthersSpec)) own a (by kernel_rfl) Tryz.func6
  (witness_row_at (enc:=enc) (C:=Tryz.checked) false (agq d) #[.agg #[.slice ah 0 0,.slice ah 0 0,.slice ah 0 0,.slice ah 0 0,.slice ah 0 0],.agg #[.slice ah 0 0,.slice ah 0 0,.slice ah 0 0,.slice ah 0 0,.slice ah 0 0],.agg #[.int .i64 0,.int .i64 0,.string ⟨#[]⟩,.string ⟨#[]⟩,.slice ah 0 0,.string ⟨#[]⟩,.string ⟨#[]⟩,.int .i64 0]] (World.laidAll_os _ _ _) (by kernel_rfl) (by kernel_rfl) (by kernel_rfl)
   (OpenSpec.preRow_of_cond 12 i (by kernel_rfl) (λk j=>by cases j;kernel_rfl) (by kernel_rfl)<|agr d)) ?_
 intro W e f l m b g n _ c _ o _ _;exact agp H enc W e f l m b (c _ rfl) g n
def ajB{a b:Bool}(h:a=true)(k:b=true):(a&&b)=true:=by rw[h,k];rfl
set_option maxHeartbeats 20000000 in
def said:Rows.ModelOthersUptoSaid :=
 OpenClaim.holds_of_cond 6 Tryz.f6 rfl rfl rfl rfl rfl rfl rfl ⟨rfl,rfl,rfl,rfl,rfl⟩ rfl rfl rfl rfl rfl (by kernel_rfl) Tryz.func6 (by unfold joinedFacts;(repeat' with_reducible refine ajB ?_ ?_)<;>first|with_reducible exact ajz|with_reducible exact ajy|with_reducible exact ah3|with_reducible exact agm|as_aux_lemma=>kernel_rfl)
  (iq<|by kernel_rfl) (by unfold Func.isWrapper;first|(rw[aX<|by decide +kernel];kernel_rfl)|(rw[aR<|by decide +kernel];exact⟨rfl,rfl⟩))
  (λb a H enc _ F=>by rw[OpenClaim.pre_eq_preRow];exact lifted b a H enc F)
def ags(f:FuncId)(a:Func)(d:Tryz.pinned.checked.prog.funcNamed "cooperage/cooperagelaw24.ModelOthers"=ab f)(b:Tryz.pinned.checked.prog.funcs[f]?=ab a) :
  false=Tryz.pinned.checked.prog.looks []/\∀(j:Nat) t,a.params[j]?=ab t->Tryz.pinned.checked.prog.wantsStandIn t=false:=by
 obtain rfl:f=6:=aQ ((show Tryz.prog.funcNamed "cooperage/cooperagelaw24.ModelOthers"=ab 6 by kernel_rfl).symm.trans d) |>.symm;obtain rfl:a=Tryz.f6:=(aQ<|Tryz.func6.symm.trans b).symm;refine⟨by kernel_rfl,λj t e=>?_⟩;have c:t∈Tryz.f6.params.toList:=by simpa using adh e
 rw[Tryz.params6] at c;simp only[lW,List.not_mem_nil,or_false] at c;rcases c with rfl|rfl|rfl
 .exact(show Tryz.prog.wantsStandIn 31=false by kernel_rfl)
 .exact(show Tryz.prog.wantsStandIn 31=false by kernel_rfl)
 .exact(show Tryz.prog.wantsStandIn 43=false by kernel_rfl)
theorem modelOthers_holds:Rows.ModelOthersUptoCardSaid :=
 Claim7.holds_tied_plain_at .later [] _ _ _ _ said Fm (by kernel_rfl) Fm modelOthersUpto_row_tie rfl ⟨rfl,rfl⟩ (by kernel_rfl) rfl ags agn
end Go.Proofs.YtcebnmppipejfaaGreatDoor
