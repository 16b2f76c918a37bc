import Derived.Test.YtgklgliokhbcnaaGreatDoorLed
import Derived.Test.YtgklgliokhbcnaaGreatDoorAwake
import Derived.Test.YtgklgliokhbcnaaGreatDoorTie
import Derived.Lay
import Derived.Deep.DeepHandedRow
import Derived.SevenTiedAt
import Derived.OpenShut
import Derived.Handed
set_option linter.unusedVariables false
set_option linter.unusedSimpArgs false
set_option linter.unusedSectionVars false
set_option linter.defProp false
open Option renaming some->aa,none->af
namespace Go.Proofs.YtgklgliokhbcnaaGreatDoor
open Go Go.Ge Go.ChangeShapes Go.WideShapes Go.ChangeAt Go.RowKit
noncomputable instance am3:Lp:=Lp.JQ
def ahM{H:Type}:MB (H:=H) Rows.uptoBulk Rows.uptoBulkAll where
 lit:=λl=>by cases l<;>simp[Rows.uptoBulk]
 str:=λs=>by simp[Rows.uptoBulk]
 nil:=by simp[Rows.uptoBulk]
 slice:=λe s=>by simp[Rows.uptoBulk]
 agg:=λp=>by simp[Rows.uptoBulk]
 none:=by simp[Rows.uptoBulkAll]
 cons:=λd r=>by simp[Rows.uptoBulkAll]
abbrev ajB:Ty:=(.pair (.slice<|.pair .str<|.pair (.slice .str)<|.pair .str<|.pair .str<|.pair .str<|.pair (.slice<|.pair .str<|.pair .str<|.pair .str .unit) .unit)<|.pair (.slice<|.pair .str<|.pair (.slice .str)<|.pair .str<|.pair .str<|.pair (.slice<|.pair .str<|.pair .str<|.pair .str .unit) .unit)<|.pair (.slice<|.pair .str<|.pair .str<|.pair (.slice .str)<|.pair .str<|.pair (.int .i64)<|.pair (.int .i64)<|.pair .bool .unit)<|.pair (.slice .str)<|.pair (.slice<|.pair .str<|.pair (.int .i64) .unit) .unit)
abbrev ajC:Ty:=(.pair (.slice<|.pair (.int .i64)<|.pair (.pair (.int .i64)<|.pair (.int .i64)<|.pair .str<|.pair .str<|.pair (.slice .str)<|.pair .str<|.pair .str<|.pair (.int .i64) .unit)<|.pair (.int .i64)<|.pair (.int .i64)<|.pair (.int .i64)<|.pair (.pair (.int .i64)<|.pair .str<|.pair (.int .i64)<|.pair .str .unit) .unit)<|.pair (.slice<|.int .i64) .unit)
abbrev ags:Array Value:=#[.agg #[.slice af 0 0,.slice af 0 0,.slice af 0 0,.slice af 0 0,.slice af 0 0],.agg #[.slice af 0 0,.slice af 0 0],.slice af 0 0]
def own:ownKnob Tryz.prog.godebug=none:=by kernel_rfl
def laidOut:laidOutB Tryz.prog=true:=by kernel_rfl
def ajD:Tryz.prog.readableRec 28=true/\28<Tryz.prog.types.size:=⟨by kernel_rfl,fb (by kernel_rfl)⟩
def ajE:Tryz.prog.readableRec 30=true/\30<Tryz.prog.types.size:=⟨by kernel_rfl,fb (by kernel_rfl)⟩
def ajF:Tryz.prog.readableRec 32=true/\32<Tryz.prog.types.size:=⟨by kernel_rfl,fb (by kernel_rfl)⟩
set_option maxRecDepth 100000 in
def af7(H:Type)(c:TypeId×Value->H)(W:World)(d:Nat)(a:Array Value)(h m:List (DataW H))(b:List MemPlace)(p:Rows.uptoSmall H (h++m)=true)
  (f:∀(j:Nat) t v,Tryz.f3.params[j]?=aa t->a[j]?=aa v->Value.okWide Tryz.prog W .any d t v)
  (q:DataW.Whole c Tryz.prog Tryz.f3.params.toList Rows.linearFollowsSpec.vars false W a.toList h m b) :
  Calls Tryz.prog 3 a W λe r=>∃v,e=.returned v/\Rows.linearFollowsSpec.post c Tryz.prog Tryz.f3 false true false false W a v r:=by
 refine aa6 (bulk:=Rows.uptoBulk) (all:=Rows.uptoBulkAll) (tb:=4) (A:=(.pair ajB<|.pair ajC<|.pair (.slice<|.int .i64) .unit)) (spec:=fS) ahM laidOut (by rw[Tryz.params3];exact⟨afY 28 ajB rfl,afY 32 ajC rfl,afY 30 (.slice<|.int .i64) rfl,trivial⟩) (λt k=>?_) (by kernel_rfl) Tryz.underlying4 rfl (λh g=>?_) BQ (Gr (λ_ _=>False) _) f q (λx l s=>?_)
 .rw[Tryz.params3] at k;simp only[fh,Zd,or_false] at k;rcases k with rfl|rfl|rfl
  .exact ajD
  .exact ajF
  .exact ajE
 .rw[Tryz.params3] at g
  match h,g with
  | [z,d1,d2],_=>rfl
 .obtain⟨a0,n,o,u⟩:=x;have w:((.pair ajB<|.pair ajC<|.pair (.slice<|.int .i64) .unit):Ty).bulk (a0,n,o,())<=1048576:=fi s (fb p);exact Hi a0 n o (ajh<|fi (Nat.le_add_right _ _) w) (λi e y=>(l.2.1.1 i e y).2.2.1.2)
noncomputable def af8(a:Os):World:=World.laidAll Tryz.prog a Rows.linearFollowsUptoRow.laid
set_option maxRecDepth 100000 in
def af9(a:Os):laidMet Tryz.prog Rows.linearFollowsUptoRow.laid ((af8 a).forCall (λ_ _=>0) ⟨#[],ags,[]⟩).memory :=
 laidMet_laidAll ags (by kernel_rfl) (by kernel_rfl)
set_option maxRecDepth 100000 in
def reads(b:Os){H:Type}(enc:TypeId×Value->H):∃a,DataW.whole enc Tryz.prog ((af8 b).forCall (λ_ _=>0) ⟨#[],ags,[]⟩).memory Tryz.f3.params.toList Rows.linearFollowsSpec.vars false (ags:Array Value).toList 12=aa ([.agg [.nil,.nil,.nil,.nil,.nil],.agg [.nil,.nil],.nil],[],a) :=
 ⟨[],by kernel_rfl⟩
set_option maxRecDepth 100000 in
def lifted(d:Os)(a:d.Started)(H:Type)(enc:TypeId×Value->H)(F:Stop.Interp) :
  ReturnsInHanded {} Tryz.checked d 3 .any ((Rows.OpenSpec.upto Rows.linearFollowsSpec).preRow enc Tryz.prog Tryz.f3 Rows.linearFollowsUptoRow.domain false Rows.linearFollowsUptoRow.laid) (((Rows.OpenSpec.upto Rows.linearFollowsSpec).at F).post enc Tryz.prog Tryz.f3 false true false false):=by
 obtain⟨h,i⟩:=reads d enc;refine returnsInHanded_of_row (C:=Tryz.checked) (s:=(Rows.OpenSpec.upto Rows.linearFollowsSpec)) own a (by kernel_rfl) Tryz.func3
  (witness_row_at (enc:=enc) (C:=Tryz.checked) false (af8 d) ags (World.laidAll_os _ _ _) (by kernel_rfl) (by kernel_rfl) (by kernel_rfl)
   (OpenSpec.preRow_of_cond 12 i (by kernel_rfl) (λk j=>by cases j;kernel_rfl) (by kernel_rfl)<|af9 d)) ?_
 intro W e f l m b g n _ c _ o _ _;exact af7 H enc W e f l m b (c _ rfl) g n
def ajG{a b:Bool}(h:a=true)(k:b=true):(a&&b)=true:=by rw[h,k];rfl
set_option maxHeartbeats 20000000 in
def said:Rows.LinearFollowsUptoSaid :=
 OpenClaim.holds_of_cond 3 Tryz.f3 rfl rfl rfl rfl rfl rfl rfl ⟨rfl,rfl,rfl,rfl,rfl⟩ rfl rfl rfl rfl rfl (by kernel_rfl) Tryz.func3 (by unfold joinedFacts;(repeat' with_reducible refine ajG ?_ ?_)<;>first|with_reducible exact ajA|with_reducible exact ajz|with_reducible exact ahL|with_reducible exact af5|as_aux_lemma=>kernel_rfl)
  (fb<|by kernel_rfl) (by unfold Func.isWrapper;first|(rw[aQ<|by decide +kernel];kernel_rfl)|(rw[aK<|by decide +kernel];exact⟨rfl,rfl⟩))
  (λb a H enc _ F=>by rw[OpenClaim.pre_eq_preRow];exact lifted b a H enc F)
def aga(f:FuncId)(a:Func)(d:Tryz.pinned.checked.prog.funcNamed "cooperage/cooperagelaw36.LinearFollows"=aa f)(b:Tryz.pinned.checked.prog.funcs[f]?=aa a) :
  false=Tryz.pinned.checked.prog.looks []/\∀(j:Nat) t,a.params[j]?=aa t->Tryz.pinned.checked.prog.wantsStandIn t=false:=by
 obtain rfl:f=3:=aI ((show Tryz.prog.funcNamed "cooperage/cooperagelaw36.LinearFollows"=aa 3 by kernel_rfl).symm.trans d) |>.symm;obtain rfl:a=Tryz.f3:=(aI<|Tryz.func3.symm.trans b).symm;refine⟨by kernel_rfl,λj t e=>?_⟩;have c:t∈Tryz.f3.params.toList:=by simpa using ac1 e
 rw[Tryz.params3] at c;simp only[fh,Zd,or_false] at c;rcases c with rfl|rfl|rfl
 .exact(show Tryz.prog.wantsStandIn 28=false by kernel_rfl)
 .exact(show Tryz.prog.wantsStandIn 32=false by kernel_rfl)
 .exact(show Tryz.prog.wantsStandIn 30=false by kernel_rfl)
theorem linearFollows_holds:Rows.LinearFollowsUptoCardSaid :=
 Claim7.holds_tied_plain_at .later [] _ _ _ _ said BS (by kernel_rfl) BS linearFollowsUpto_row_tie rfl ⟨rfl,rfl⟩ (by kernel_rfl) rfl aga af6
end Go.Proofs.YtgklgliokhbcnaaGreatDoor
