/- THE LAW LayersSound HOLDS: it answers true, and leaves its arguments as they are. Condition: the arguments hold together at most 1048576 values and letters. -/
import Derived.Test.YtdpbdiikloedbaaGreatDoorHolds
import Derived.Test.YtdpbdiikloedbaaGreatDoorCards
import Derived.Test.YtdpbdiikloedbaaGreatDoorTie
import Derived.Lay
import Derived.Deep.DeepHandedRow
import Derived.SevenTiedAt
import Derived.OpenShut
import Derived.JoinedCond
import Derived.JoinedOf
import Derived.Handed
namespace Go.Proofs.YtdpbdiikloedbaaGreatDoor
open Go Go.Ge Go.ChangeShapes Go.WideShapes Go.ChangeAt Go.RowKit
noncomputable instance aiI:Lp:=Lp.Q6
theorem adL{H:Type}:JN (H:=H) Rows.uptoBulk Rows.uptoBulkAll where
 lit:=λl=>by cases l<;>simp[Rows.uptoBulk]
 str:=λs=>by simp[Rows.uptoBulk]
 nil:=by simp[Rows.uptoBulk]
 slice:=λe s=>by simp[Rows.uptoBulk]
 agg:=λp=>by simp[Rows.uptoBulk]
 none:=by simp[Rows.uptoBulkAll]
 cons:=λd r=>by simp[Rows.uptoBulkAll]
theorem own:ownKnob Tryz.prog.godebug=none:=by kernel_rfl
theorem laidOut:laidOutB Tryz.prog=true:=by kernel_rfl
theorem agv:Tryz.prog.readableRec 3=true/\3<Tryz.prog.types.size:=⟨by kernel_rfl,gM (by kernel_rfl)⟩
theorem ae8:Tryz.prog.readableRec 28=true/\28<Tryz.prog.types.size:=⟨by kernel_rfl,gM (by kernel_rfl)⟩
theorem ae9:Tryz.prog.readableRec 39=true/\39<Tryz.prog.types.size:=⟨by kernel_rfl,gM (by kernel_rfl)⟩
set_option maxRecDepth 100000 in
theorem acf(H:Type)(c:TypeId×Value->H)(W:World)(d:Nat)(a:Array Value)(h l:List (DataW H))(b:List MemPlace)(o:Rows.uptoSmall H (h++l)=true)
  (f:∀(j:Nat) t v,Tryz.f4.params[j]?=some t->a[j]?=some v->Value.okWide Tryz.prog W .any d t v)
  (p:DataW.Whole c Tryz.prog Tryz.f4.params.toList Rows.layersSoundSpec.vars false W a.toList h l b) :
  Calls Tryz.prog 4 a W λe q=>∃v,e=.returned v/\Rows.layersSoundSpec.post c Tryz.prog Tryz.f4 false true false false W a v q:=by
 refine XV (bulk:=Rows.uptoBulk) (all:=Rows.uptoBulkAll) (tb:=4) (A:=(.pair (.pair (.slice<|.pair .str<|.pair (.slice .str)<|.pair .str<|.pair .str<|.pair .str<|.pair (.slice<|.pair .str<|.pair .str<|.pair .str .unit) .unit)<|.pair (.slice<|.pair .str<|.pair (.slice .str)<|.pair .str<|.pair .str<|.pair (.slice<|.pair .str<|.pair .str<|.pair .str .unit) .unit)<|.pair (.slice<|.pair .str<|.pair .str<|.pair (.slice .str)<|.pair .str<|.pair (.int .i64)<|.pair (.int .i64)<|.pair .bool .unit)<|.pair (.slice .str)<|.pair (.slice<|.pair .str<|.pair (.int .i64) .unit) .unit)<|.pair (.arr 2 .str)<|.pair (.int .i64) .unit)) (spec:=jJ) adL laidOut (by rw[Tryz.params4];exact⟨Tp 28 (.pair (.slice<|.pair .str<|.pair (.slice .str)<|.pair .str<|.pair .str<|.pair .str<|.pair (.slice<|.pair .str<|.pair .str<|.pair .str .unit) .unit)<|.pair (.slice<|.pair .str<|.pair (.slice .str)<|.pair .str<|.pair .str<|.pair (.slice<|.pair .str<|.pair .str<|.pair .str .unit) .unit)<|.pair (.slice<|.pair .str<|.pair .str<|.pair (.slice .str)<|.pair .str<|.pair (.int .i64)<|.pair (.int .i64)<|.pair .bool .unit)<|.pair (.slice .str)<|.pair (.slice<|.pair .str<|.pair (.int .i64) .unit) .unit) rfl,Tp 39 (.arr 2 .str) rfl,Tp 3 (.int .i64) rfl,trivial⟩) (λt i=>?_) (by kernel_rfl) Tryz.underlying4 rfl (λh g=>?_) Bp (aaT (λ_ _=>False) _) f p (λx k r=>?_)
 .rw[Tryz.params4] at i;simp only[fP,List.not_mem_nil,or_false] at i;rcases i with rfl|rfl|rfl
  .exact ae8
  .exact ae9
  .exact agv
 .rw[Tryz.params4] at g
  match h,g with
  | [w,d1,d2],_=>rfl
 .obtain⟨a0,m,n,u⟩:=x;have s:((.pair (.pair (.slice<|.pair .str<|.pair (.slice .str)<|.pair .str<|.pair .str<|.pair .str<|.pair (.slice<|.pair .str<|.pair .str<|.pair .str .unit) .unit)<|.pair (.slice<|.pair .str<|.pair (.slice .str)<|.pair .str<|.pair .str<|.pair (.slice<|.pair .str<|.pair .str<|.pair .str .unit) .unit)<|.pair (.slice<|.pair .str<|.pair .str<|.pair (.slice .str)<|.pair .str<|.pair (.int .i64)<|.pair (.int .i64)<|.pair .bool .unit)<|.pair (.slice .str)<|.pair (.slice<|.pair .str<|.pair (.int .i64) .unit) .unit)<|.pair (.arr 2 .str)<|.pair (.int .i64) .unit):Ty).bulk (a0,m,n,())<=1048576:=gj r (gM o);exact HA a0 m n k.2.1.1 (aeZ<|gj (Nat.le_add_right _ _) s)
noncomputable def acg(a:Os):World:=World.laidAll Tryz.prog a Rows.layersSoundUptoRow.laid
set_option maxRecDepth 100000 in
theorem ach(a:Os):laidMet Tryz.prog Rows.layersSoundUptoRow.laid ((acg a).forCall (λ_ _=>0) ⟨#[],#[.agg #[.slice none 0 0,.slice none 0 0,.slice none 0 0,.slice none 0 0,.slice none 0 0],.agg #[.string ⟨#[]⟩,.string ⟨#[]⟩],.int .i64 0],[]⟩).memory :=
 laidMet_laidAll #[.agg #[.slice none 0 0,.slice none 0 0,.slice none 0 0,.slice none 0 0,.slice none 0 0],.agg #[.string ⟨#[]⟩,.string ⟨#[]⟩],.int .i64 0] (by kernel_rfl) (by kernel_rfl)
set_option maxRecDepth 100000 in
theorem reads(b:Os){H:Type}(enc:TypeId×Value->H):∃a,DataW.whole enc Tryz.prog ((acg b).forCall (λ_ _=>0) ⟨#[],#[.agg #[.slice none 0 0,.slice none 0 0,.slice none 0 0,.slice none 0 0,.slice none 0 0],.agg #[.string ⟨#[]⟩,.string ⟨#[]⟩],.int .i64 0],[]⟩).memory Tryz.f4.params.toList Rows.layersSoundSpec.vars false (#[.agg #[.slice none 0 0,.slice none 0 0,.slice none 0 0,.slice none 0 0,.slice none 0 0],.agg #[.string ⟨#[]⟩,.string ⟨#[]⟩],.int .i64 0]:Array Value).toList 12=some ([.agg [.nil,.nil,.nil,.nil,.nil],.agg [.lit<|.string [],.lit (.string [])],.lit (.int .i64 0)],[],a) :=
 ⟨[],by kernel_rfl⟩
set_option maxRecDepth 100000 in
theorem lifted(d:Os)(a:d.Started)(H:Type)(enc:TypeId×Value->H)(F:Stop.Interp) :
  ReturnsInHanded {} Tryz.checked d 4 .any ((Rows.OpenSpec.upto Rows.layersSoundSpec).preRow enc Tryz.prog Tryz.f4 Rows.layersSoundUptoRow.domain false Rows.layersSoundUptoRow.laid) (((Rows.OpenSpec.upto Rows.layersSoundSpec).at F).post enc Tryz.prog Tryz.f4 false true false false):=by
 obtain⟨h,i⟩:=reads d enc;refine returnsInHanded_of_row (C:=Tryz.checked) (s:=(Rows.OpenSpec.upto Rows.layersSoundSpec)) own a (by kernel_rfl) Tryz.func4
  (witness_row_at (enc:=enc) (C:=Tryz.checked) false (acg d) #[.agg #[.slice none 0 0,.slice none 0 0,.slice none 0 0,.slice none 0 0,.slice none 0 0],.agg #[.string ⟨#[]⟩,.string ⟨#[]⟩],.int .i64 0] (World.laidAll_os _ _ _) (by kernel_rfl) (by kernel_rfl) (by kernel_rfl)
   (OpenSpec.preRow_of_cond 12 i (by kernel_rfl) (λk j=>by cases j;kernel_rfl) (by kernel_rfl)<|ach d)) ?_
 intro W e f l m b g n _ c _ o _ _;exact acf H enc W e f l m b (c _ rfl) g n
theorem afa{a b:Bool}(h:a=true)(k:b=true):(a&&b)=true:=by rw[h,k];rfl
set_option maxHeartbeats 20000000 in
theorem said:Rows.LayersSoundUptoSaid :=
 OpenClaim.holds_of_cond 4 Tryz.f4 rfl rfl rfl rfl rfl rfl rfl ⟨rfl,rfl,rfl,rfl,rfl⟩ rfl rfl rfl rfl rfl (by kernel_rfl) Tryz.func4 (by unfold joinedFacts;(repeat' with_reducible refine afa ?_ ?_)<;>as_aux_lemma=>kernel_rfl)
  (gM<|by kernel_rfl) (by unfold Func.isWrapper;first|(rw[aQ<|by decide +kernel];kernel_rfl)|(rw[aM<|by decide +kernel];exact⟨rfl,rfl⟩))
  (λb a H enc _ F=>by rw[OpenClaim.pre_eq_preRow];exact lifted b a H enc F)
theorem aci(f:FuncId)(a:Func)(d:Tryz.pinned.checked.prog.funcNamed "cooperage/cooperagelaw21.LayersSound"=some f)(b:Tryz.pinned.checked.prog.funcs[f]?=some a) :
  false=Tryz.pinned.checked.prog.looks []/\∀(j:Nat) t,a.params[j]?=some t->Tryz.pinned.checked.prog.wantsStandIn t=false:=by
 obtain rfl:f=4:=aI ((show Tryz.prog.funcNamed "cooperage/cooperagelaw21.LayersSound"=some 4 by kernel_rfl).symm.trans d) |>.symm;obtain rfl:a=Tryz.f4:=(aI<|Tryz.func4.symm.trans b).symm;refine⟨by kernel_rfl,λj t e=>?_⟩;have c:t∈Tryz.f4.params.toList:=by simpa using ZB e
 rw[Tryz.params4] at c;simp only[fP,List.not_mem_nil,or_false] at c;rcases c with rfl|rfl|rfl
 .exact(show Tryz.prog.wantsStandIn 28=false by kernel_rfl)
 .exact(show Tryz.prog.wantsStandIn 39=false by kernel_rfl)
 .exact(show Tryz.prog.wantsStandIn 3=false by kernel_rfl)
theorem layersSound_holds:Rows.LayersSoundUptoCardSaid :=
 Claim7.holds_tied_plain_at .later [] _ _ _ _ said (λ_ h=>by cases h) (by kernel_rfl) (λ_ h=>by cases h) layersSoundUpto_row_tie rfl ⟨rfl,rfl⟩ (by kernel_rfl) rfl aci (by kernel_rfl)
end Go.Proofs.YtdpbdiikloedbaaGreatDoor
