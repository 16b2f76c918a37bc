import Derived.Test.YtgklgliokhbcnaaGreatDoorLed
import Derived.Test.YtgklgliokhbcnaaGreatDoorAwake
import Derived.Test.YtgklgliokhbcnaaGreatDoorTie
import Derived.Lay
import Derived.Deep.DeepHandedRow
import Derived.SevenTiedAt
import Derived.OpenShut
import Derived.Handed
set_option linter.unusedVariables false
set_option linter.unusedSimpArgs false
set_option linter.unusedSectionVars false
set_option linter.defProp false
open Option renaming some->aa,none->af
namespace Go.Proofs.YtgklgliokhbcnaaGreatDoor
open Go Go.Ge Go.ChangeShapes Go.WideShapes Go.ChangeAt Go.RowKit
noncomputable instance aop:Lp:=Lp.KL
def ai7{H:Type}:Nz (H:=H) Rows.uptoBulk Rows.uptoBulkAll where
 lit:=λl=>by cases l<;>simp[Rows.uptoBulk]
 str:=λs=>by simp[Rows.uptoBulk]
 nil:=by simp[Rows.uptoBulk]
 slice:=λe s=>by simp[Rows.uptoBulk]
 agg:=λp=>by simp[Rows.uptoBulk]
 none:=by simp[Rows.uptoBulkAll]
 cons:=λd r=>by simp[Rows.uptoBulkAll]
abbrev ad2:Ty:=(.pair (.slice<|.pair .str<|.pair (.slice .str)<|.pair .str<|.pair .str<|.pair .str<|.pair (.slice<|.pair .str<|.pair .str<|.pair .str .unit) .unit)<|.pair (.slice<|.pair .str<|.pair (.slice .str)<|.pair .str<|.pair .str<|.pair (.slice<|.pair .str<|.pair .str<|.pair .str .unit) .unit)<|.pair (.slice<|.pair .str<|.pair .str<|.pair (.slice .str)<|.pair .str<|.pair (.int .i64)<|.pair (.int .i64)<|.pair .bool .unit)<|.pair (.slice .str)<|.pair (.slice<|.pair .str<|.pair (.int .i64) .unit) .unit)
abbrev akY:Ty:=(.pair (.slice<|.pair (.int .i64)<|.pair (.pair (.int .i64)<|.pair (.int .i64)<|.pair .str<|.pair .str<|.pair (.slice .str)<|.pair .str<|.pair .str<|.pair (.int .i64) .unit)<|.pair (.int .i64)<|.pair (.int .i64)<|.pair (.int .i64)<|.pair (.pair (.int .i64)<|.pair .str<|.pair (.int .i64)<|.pair .str .unit) .unit)<|.pair (.slice<|.int .i64) .unit)
abbrev ags:Array Value:=#[.agg #[.slice af 0 0,.slice af 0 0,.slice af 0 0,.slice af 0 0,.slice af 0 0],.agg #[.slice af 0 0,.slice af 0 0,.slice af 0 0,.slice af 0 0,.slice af 0 0],.agg #[.slice af 0 0,.slice af 0 0]]
def own:ownKnob Tryz.prog.godebug=none:=by kernel_rfl
def laidOut:laidOutB Tryz.prog=true:=by kernel_rfl
def ahq:Tryz.prog.readableRec 28=true/\28<Tryz.prog.types.size:=⟨by kernel_rfl,fy (by kernel_rfl)⟩
def akZ:Tryz.prog.readableRec 32=true/\32<Tryz.prog.types.size:=⟨by kernel_rfl,fy (by kernel_rfl)⟩
set_option maxRecDepth 100000 in
def ahr(H:Type)(c:TypeId×Value->H)(W:World)(d:Nat)(a:Array Value)(h m:List (DataW H))(b:List MemPlace)(p:Rows.uptoSmall H (h++m)=true)
  (f:∀(j:Nat) t v,Tryz.f5.params[j]?=aa t->a[j]?=aa v->Value.okWide Tryz.prog W .any d t v)
  (q:DataW.Whole c Tryz.prog Tryz.f5.params.toList Rows.linearIsSpec.vars false W a.toList h m b) :
  Calls Tryz.prog 5 a W λe r=>∃v,e=.returned v/\Rows.linearIsSpec.post c Tryz.prog Tryz.f5 false true false false W a v r:=by
 refine aco (fa:=Rows.uptoBulk) (all:=Rows.uptoBulkAll) (tb:=4) (A:=(.pair ad2<|.pair ad2<|.pair akY .unit)) (spec:=qc) ai7 laidOut (by rw[Tryz.params5];exact⟨ahh 28 ad2 rfl,ahh 28 ad2 rfl,ahh 32 akY rfl,trivial⟩) (λt k=>?_) (by kernel_rfl) Tryz.underlying4 rfl (λh g=>?_) JO (Hg (λ_ _=>False) _) f q (λx l s=>?_)
 .rw[Tryz.params5] at k;simp only[fA,aas,or_false] at k;rcases k with rfl|rfl|rfl
  .exact ahq
  .exact ahq
  .exact akZ
 .rw[Tryz.params5] at g
  match h,g with
  | [z,B,C],_=>rfl
 .obtain⟨a0,n,o,u⟩:=x;have w:((.pair ad2<|.pair ad2<|.pair akY .unit):Ty).fa (a0,n,o,())<=1048576:=fB s (fy p);exact Ux a0 n o (akC<|fB (Nat.le_add_right _ _) w) (λi e y=>(l.2.2.1.1 i e y).2.2.1.2)
noncomputable def ahs(a:Os):World:=World.laidAll Tryz.prog a Rows.linearIsUptoRow.laid
set_option maxRecDepth 100000 in
def aht(a:Os):laidMet Tryz.prog Rows.linearIsUptoRow.laid ((ahs a).forCall (λ_ _=>0) ⟨#[],ags,[]⟩).memory :=
 laidMet_laidAll ags (by kernel_rfl) (by kernel_rfl)
set_option maxRecDepth 100000 in
def reads(b:Os){H:Type}(enc:TypeId×Value->H):∃a,DataW.whole enc Tryz.prog ((ahs b).forCall (λ_ _=>0) ⟨#[],ags,[]⟩).memory Tryz.f5.params.toList Rows.linearIsSpec.vars false (ags:Array Value).toList 12=aa ([.agg [.nil,.nil,.nil,.nil,.nil],.agg [.nil,.nil,.nil,.nil,.nil],.agg [.nil,.nil]],[],a) :=
 ⟨[],by kernel_rfl⟩
set_option maxRecDepth 100000 in
def lifted(d:Os)(a:d.Started)(H:Type)(enc:TypeId×Value->H)(F:Stop.Interp) :
  ReturnsInHanded {} Tryz.checked d 5 .any ((Rows.OpenSpec.upto Rows.linearIsSpec).preRow enc Tryz.prog Tryz.f5 Rows.linearIsUptoRow.domain false Rows.linearIsUptoRow.laid) (((Rows.OpenSpec.upto Rows.linearIsSpec).at F).post enc Tryz.prog Tryz.f5 false true false false):=by
 obtain⟨h,i⟩:=reads d enc;refine returnsInHanded_of_row (C:=Tryz.checked) (s:=(Rows.OpenSpec.upto Rows.linearIsSpec)) own a (by kernel_rfl) Tryz.func5
  (witness_row_at (enc:=enc) (C:=Tryz.checked) false (ahs d) ags (World.laidAll_os _ _ _) (by kernel_rfl) (by kernel_rfl) (by kernel_rfl)
   (OpenSpec.preRow_of_cond 12 i (by kernel_rfl) (λk j=>by cases j;kernel_rfl) (by kernel_rfl)<|aht d)) ?_
 intro W e f l m b g n _ c _ o _ _;exact ahr H enc W e f l m b (c _ rfl) g n
def ak0{a b:Bool}(h:a=true)(k:b=true):(a&&b)=true:=by rw[h,k];rfl
set_option maxHeartbeats 20000000 in
def said:Rows.LinearIsUptoSaid :=
 OpenClaim.holds_of_cond 5 Tryz.f5 rfl rfl rfl rfl rfl rfl rfl ⟨rfl,rfl,rfl,rfl,rfl⟩ rfl rfl rfl rfl rfl (by kernel_rfl) Tryz.func5 (by unfold joinedFacts;(repeat' with_reducible refine ak0 ?_ ?_)<;>first|with_reducible exact akX|with_reducible exact akW|with_reducible exact ai6|with_reducible exact aho|as_aux_lemma=>kernel_rfl)
  (fy<|by kernel_rfl) (by unfold Func.isWrapper;first|(rw[aQ<|by decide +kernel];kernel_rfl)|(rw[aK<|by decide +kernel];exact⟨rfl,rfl⟩))
  (λb a H enc _ F=>by rw[OpenClaim.pre_eq_preRow];exact lifted b a H enc F)
def ahu(f:FuncId)(a:Func)(d:Tryz.pinned.checked.prog.funcNamed "cooperage/cooperagelaw36.LinearIs"=aa f)(b:Tryz.pinned.checked.prog.funcs[f]?=aa a) :
  false=Tryz.pinned.checked.prog.looks []/\∀(j:Nat) t,a.params[j]?=aa t->Tryz.pinned.checked.prog.wantsStandIn t=false:=by
 obtain rfl:f=5:=aI ((show Tryz.prog.funcNamed "cooperage/cooperagelaw36.LinearIs"=aa 5 by kernel_rfl).symm.trans d) |>.symm;obtain rfl:a=Tryz.f5:=(aI<|Tryz.func5.symm.trans b).symm;refine⟨by kernel_rfl,λj t e=>?_⟩;have c:t∈Tryz.f5.params.toList:=by simpa using aef e
 rw[Tryz.params5] at c;simp only[fA,aas,or_false] at c;rcases c with rfl|rfl|rfl
 .exact(show Tryz.prog.wantsStandIn 28=false by kernel_rfl)
 .exact(show Tryz.prog.wantsStandIn 28=false by kernel_rfl)
 .exact(show Tryz.prog.wantsStandIn 32=false by kernel_rfl)
theorem linearIs_holds:Rows.LinearIsUptoCardSaid :=
 Claim7.holds_tied_plain_at .later [] _ _ _ _ said Cu (by kernel_rfl) Cu linearIsUpto_row_tie rfl ⟨rfl,rfl⟩ (by kernel_rfl) rfl ahu ahp
end Go.Proofs.YtgklgliokhbcnaaGreatDoor
