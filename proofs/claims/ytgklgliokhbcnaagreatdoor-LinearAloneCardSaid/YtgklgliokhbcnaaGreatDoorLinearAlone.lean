import Derived.Test.YtgklgliokhbcnaaGreatDoorLed
import Derived.Test.YtgklgliokhbcnaaGreatDoorAwake
import Derived.Test.YtgklgliokhbcnaaGreatDoorTie
import Derived.Lay
import Derived.Deep.DeepHandedRow
import Derived.SevenTiedAt
import Derived.OpenShut
import Derived.Handed
set_option linter.unusedVariables false
set_option linter.unusedSimpArgs false
set_option linter.unusedSectionVars false
set_option linter.defProp false
open Option renaming some->aa,none->af
namespace Go.Proofs.YtgklgliokhbcnaaGreatDoor
open Go Go.Ge Go.ChangeShapes Go.WideShapes Go.ChangeAt Go.RowKit
noncomputable instance ana:Lp:=Lp.JL
def ahU{H:Type}:Mx (H:=H) Rows.uptoBulk Rows.uptoBulkAll where
 lit:=λl=>by cases l<;>simp[Rows.uptoBulk]
 str:=λs=>by simp[Rows.uptoBulk]
 nil:=by simp[Rows.uptoBulk]
 slice:=λe s=>by simp[Rows.uptoBulk]
 agg:=λp=>by simp[Rows.uptoBulk]
 none:=by simp[Rows.uptoBulkAll]
 cons:=λd r=>by simp[Rows.uptoBulkAll]
abbrev aln:Ty:=(.slice<|.pair (.int .i64)<|.pair (.int .i64)<|.pair .str<|.pair .str<|.pair (.slice .str)<|.pair .str<|.pair .str<|.pair (.int .i64) .unit)
abbrev ags:Array Value:=#[.slice af 0 0,.int .u8 0]
def own:ownKnob Tryz.prog.godebug=none:=by kernel_rfl
def laidOut:laidOutB Tryz.prog=true:=by kernel_rfl
def alp:Tryz.prog.readableRec 5=true/\5<Tryz.prog.types.size:=⟨by kernel_rfl,fU (by kernel_rfl)⟩
def ajM:Tryz.prog.readableRec 39=true/\39<Tryz.prog.types.size:=⟨by kernel_rfl,fU (by kernel_rfl)⟩
set_option maxRecDepth 100000 in
def aga(H:Type)(c:TypeId×Value->H)(W:World)(d:Nat)(a:Array Value)(i l:List (DataW H))(b:List MemPlace)
  (f:∀(j:Nat) t v,Tryz.f4.params[j]?=aa t->a[j]?=aa v->Value.okWide Tryz.prog W .any d t v)
  (m:DataW.Whole c Tryz.prog Tryz.f4.params.toList Rows.linearAloneSpec.vars false W a.toList i l b) :
  Calls Tryz.prog 4 a W λe n=>∃v,e=.returned v/\Rows.linearAloneSpec.post c Tryz.prog Tryz.f4 false true false false W a v n:=by
 refine aa0 (bulk:=Rows.uptoBulk) (all:=Rows.uptoBulkAll) (tb:=4) (A:=(.pair aln<|.pair (.int .u8) .unit)) (spec:=hL) ahU laidOut (by rw[Tryz.params4];exact⟨ahS 39 aln rfl,ahS 5 (.int .u8) rfl,trivial⟩) (λt k=>?_) (by kernel_rfl) Tryz.underlying4 rfl (λi g=>?_) DR (Gc (λ_ _=>False) _) f m (λx h p=>?_)
 .rw[Tryz.params4] at k;simp only[fI,Y6,or_false] at k;rcases k with rfl|rfl
  .exact ajM
  .exact alp
 .rw[Tryz.params4] at g
  match i,g with
  | [q,d1],_=>rfl
 .obtain⟨a0,o,u⟩:=x;exact Kt a0 o h.2.1.1 h.2.1.2
noncomputable def agb(a:Os):World:=World.laidAll Tryz.prog a Rows.linearAloneRow.laid
set_option maxRecDepth 100000 in
def agc(a:Os):laidMet Tryz.prog Rows.linearAloneRow.laid ((agb a).forCall (λ_ _=>0) ⟨#[],ags,[]⟩).memory :=
 laidMet_laidAll ags (by kernel_rfl) (by kernel_rfl)
set_option maxRecDepth 100000 in
def reads(b:Os){H:Type}(enc:TypeId×Value->H):∃a,DataW.whole enc Tryz.prog ((agb b).forCall (λ_ _=>0) ⟨#[],ags,[]⟩).memory Tryz.f4.params.toList Rows.linearAloneSpec.vars false (ags:Array Value).toList 12=aa ([.nil,.lit (.int .u8 0)],[],a) :=
 ⟨[],by kernel_rfl⟩
set_option maxRecDepth 100000 in
def lifted(c:Os)(a:c.Started)(H:Type)(enc:TypeId×Value->H)(F:Stop.Interp) :
  ReturnsInHanded {} Tryz.checked c 4 .any ((OpenSpec.ofChange Rows.linearAloneSpec).preRow enc Tryz.prog Tryz.f4 Rows.linearAloneRow.domain false Rows.linearAloneRow.laid) (((OpenSpec.ofChange Rows.linearAloneSpec).at F).post enc Tryz.prog Tryz.f4 false true false false):=by
 obtain⟨g,i⟩:=reads c enc;refine returnsInHanded_of_row (C:=Tryz.checked) (s:=(OpenSpec.ofChange Rows.linearAloneSpec)) own a (by kernel_rfl) Tryz.func4
  (witness_row_at (enc:=enc) (C:=Tryz.checked) false (agb c) ags (World.laidAll_os _ _ _) (by kernel_rfl) (by kernel_rfl) (by kernel_rfl)
   (OpenSpec.preRow_of_cond 12 i (by kernel_rfl) Bz (by kernel_rfl)<|agc c)) ?_
 intro W d e j k b f l _ h _ m _ _;exact aga H enc W d e j k b f l
def ajN{a b:Bool}(h:a=true)(k:b=true):(a&&b)=true:=by rw[h,k];rfl
set_option maxHeartbeats 20000000 in
def said:Rows.LinearAloneSaid :=
 OpenClaim.holds_of_cond 4 Tryz.f4 rfl rfl rfl rfl rfl rfl rfl ⟨rfl,rfl,rfl,rfl,rfl⟩ rfl rfl rfl rfl rfl (by kernel_rfl) Tryz.func4 (by unfold joinedFacts;(repeat' with_reducible refine ajN ?_ ?_)<;>first|with_reducible exact ajL|with_reducible exact ajK|with_reducible exact ahT|with_reducible exact af8|as_aux_lemma=>kernel_rfl)
  (fU<|by kernel_rfl) (by unfold Func.isWrapper;first|(rw[aN<|by decide +kernel];kernel_rfl)|(rw[aJ<|by decide +kernel];exact⟨rfl,rfl⟩))
  (λb a H enc _ F=>by rw[OpenClaim.pre_eq_preRow];exact lifted b a H enc F)
def agd(f:FuncId)(a:Func)(d:Tryz.pinned.checked.prog.funcNamed "cooperage/cooperagelaw36.LinearAlone"=aa f)(b:Tryz.pinned.checked.prog.funcs[f]?=aa a) :
  false=Tryz.pinned.checked.prog.looks []/\∀(j:Nat) t,a.params[j]?=aa t->Tryz.pinned.checked.prog.wantsStandIn t=false:=by
 obtain rfl:f=4:=aF ((show Tryz.prog.funcNamed "cooperage/cooperagelaw36.LinearAlone"=aa 4 by kernel_rfl).symm.trans d) |>.symm;obtain rfl:a=Tryz.f4:=(aF<|Tryz.func4.symm.trans b).symm;refine⟨by kernel_rfl,λj t e=>?_⟩;have c:t∈Tryz.f4.params.toList:=by simpa using acX e
 rw[Tryz.params4] at c;simp only[fI,Y6,or_false] at c;rcases c with rfl|rfl
 .exact(show Tryz.prog.wantsStandIn 39=false by kernel_rfl)
 .exact(show Tryz.prog.wantsStandIn 5=false by kernel_rfl)
theorem linearAlone_holds:Rows.LinearAloneCardSaid :=
 Claim7.holds_tied_plain_at .later [] _ _ _ _ said Bz (by kernel_rfl) Bz linearAlone_row_tie rfl ⟨rfl,rfl⟩ (by kernel_rfl) rfl agd af9
end Go.Proofs.YtgklgliokhbcnaaGreatDoor
