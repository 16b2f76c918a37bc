/- THE LAW LayersNames HOLDS: it answers true, and leaves its arguments as they are. No condition. -/
import Derived.Test.YtdpbdiikloedbaaGreatDoorHolds
import Derived.Test.YtdpbdiikloedbaaGreatDoorPlE
import Derived.Test.YtdpbdiikloedbaaGreatDoorCards
import Derived.Test.YtdpbdiikloedbaaGreatDoorTie
import Derived.Lay
import Derived.Deep.DeepHandedRow
import Derived.SevenTiedAt
import Derived.OpenShut
import Derived.JoinedCond
import Derived.JoinedOf
import Derived.Handed
set_option linter.unusedVariables false
set_option linter.unusedSimpArgs false
set_option linter.unusedSectionVars false
namespace Go.Proofs.YtdpbdiikloedbaaGreatDoor
open Go Go.Ge Go.ChangeShapes Go.WideShapes Go.ChangeAt Go.RowKit
noncomputable instance aio:Lp:=Lp.R4
theorem adl{H:Type}:Mq (H:=H) Rows.uptoBulk Rows.uptoBulkAll where
 lit:=fun l=>by cases l<;>simp[Rows.uptoBulk]
 str:=fun s=>by simp[Rows.uptoBulk]
 nil:=by simp[Rows.uptoBulk]
 slice:=fun e s=>by simp[Rows.uptoBulk]
 agg:=fun p=>by simp[Rows.uptoBulk]
 none:=by simp[Rows.uptoBulkAll]
 cons:=fun d r=>by simp[Rows.uptoBulkAll]
theorem own:ownKnob Tryz.prog.godebug=none:=by kernel_rfl
theorem laidOut:laidOutB Tryz.prog=true:=by kernel_rfl
theorem agq:Tryz.prog.readableRec 3=true∧3<Tryz.prog.types.size:=⟨by kernel_rfl,yd (by kernel_rfl)⟩
theorem aeO:Tryz.prog.readableRec 25=true∧25<Tryz.prog.types.size:=⟨by kernel_rfl,yd (by kernel_rfl)⟩
theorem aeP:Tryz.prog.readableRec 28=true∧28<Tryz.prog.types.size:=⟨by kernel_rfl,yd (by kernel_rfl)⟩
set_option maxRecDepth 100000 in
theorem contract(H:Type)(enc:TypeId×Value→H)(W:World)(base:Nat)(args:Array Value)(ds gs:List (DataW H))(before:List MemPlace)
  (hval:∀(j:Nat) t v,Tryz.f3.params[j]?=some t→args[j]?=some v→Value.okWide Tryz.prog W .any base t v)
  (hW:DataW.Whole enc Tryz.prog Tryz.f3.params.toList Rows.layersNamesSpec.vars false W args.toList ds gs before) :
  Calls Tryz.prog 3 args W fun e W'=>∃v,e=.returned v∧Rows.layersNamesSpec.post enc Tryz.prog Tryz.f3 false true false false W args v W':=by
 refine XQ (bulk:=Rows.uptoBulk) (all:=Rows.uptoBulkAll) (tb:=4) (A:=(.pair (.pair (.slice (.pair .str (.pair (.slice .str) (.pair .str (.pair .str (.pair .str (.pair (.slice (.pair .str (.pair .str (.pair .str .unit)))) .unit))))))) (.pair (.slice (.pair .str (.pair (.slice .str) (.pair .str (.pair .str (.pair (.slice (.pair .str (.pair .str (.pair .str .unit)))) .unit)))))) (.pair (.slice (.pair .str (.pair .str (.pair (.slice .str) (.pair .str (.pair (.int .i64) (.pair (.int .i64) (.pair .bool .unit)))))))) (.pair (.slice .str) (.pair (.slice (.pair .str (.pair (.int .i64) .unit))) .unit))))) (.pair (.slice .str) (.pair (.int .i64) .unit)))) (spec:=jw) adl laidOut (by rw[Tryz.params3];exact⟨TU 28 (.pair (.slice (.pair .str (.pair (.slice .str) (.pair .str (.pair .str (.pair .str (.pair (.slice (.pair .str (.pair .str (.pair .str .unit)))) .unit))))))) (.pair (.slice (.pair .str (.pair (.slice .str) (.pair .str (.pair .str (.pair (.slice (.pair .str (.pair .str (.pair .str .unit)))) .unit)))))) (.pair (.slice (.pair .str (.pair .str (.pair (.slice .str) (.pair .str (.pair (.int .i64) (.pair (.int .i64) (.pair .bool .unit)))))))) (.pair (.slice .str) (.pair (.slice (.pair .str (.pair (.int .i64) .unit))) .unit))))) rfl,TU 25 (.slice .str) rfl,TU 3 (.int .i64) rfl,trivial⟩) (fun t ht=>?_) (by kernel_rfl) Tryz.underlying4 rfl (fun ds hds=>?_) CV (aap (fun _ _=>False) _) hval hW (fun x hok hx=>?_)
 ·rw[Tryz.params3] at ht;simp only[OX,List.not_mem_nil,or_false] at ht;rcases ht with rfl|rfl|rfl
  ·exact aeP
  ·exact aeO
  ·exact agq
 ·rw[Tryz.params3] at hds
  match ds,hds with
  | [d0,d1,d2],_=>rfl
 ·obtain⟨a0,a1,a2,u⟩:=x;exact Ky a0 a1 a2
noncomputable def abE(os:Os):World:=World.laidAll Tryz.prog os Rows.layersNamesRow.laid
set_option maxRecDepth 100000 in
theorem abF(os:Os):laidMet Tryz.prog Rows.layersNamesRow.laid ((abE os).forCall (fun _ _=>0) ⟨#[],#[.agg #[.slice none 0 0,.slice none 0 0,.slice none 0 0,.slice none 0 0,.slice none 0 0],.slice none 0 0,.int .i64 0],[]⟩).memory :=
 laidMet_laidAll #[.agg #[.slice none 0 0,.slice none 0 0,.slice none 0 0,.slice none 0 0,.slice none 0 0],.slice none 0 0,.int .i64 0] (by kernel_rfl) (by kernel_rfl)
set_option maxRecDepth 100000 in
theorem reads(os:Os){H:Type}(enc:TypeId×Value→H):∃places,DataW.whole enc Tryz.prog ((abE os).forCall (fun _ _=>0) ⟨#[],#[.agg #[.slice none 0 0,.slice none 0 0,.slice none 0 0,.slice none 0 0,.slice none 0 0],.slice none 0 0,.int .i64 0],[]⟩).memory Tryz.f3.params.toList Rows.layersNamesSpec.vars false (#[.agg #[.slice none 0 0,.slice none 0 0,.slice none 0 0,.slice none 0 0,.slice none 0 0],.slice none 0 0,.int .i64 0]:Array Value).toList 12=some ([.agg [.nil,.nil,.nil,.nil,.nil],.nil,.lit (.int .i64 0)],[],places) :=
 ⟨[],by kernel_rfl⟩
set_option maxRecDepth 100000 in
theorem lifted(os:Os)(started:os.Started)(H:Type)(enc:TypeId×Value→H)(F:Stop.Interp) :
  ReturnsInHanded {} Tryz.checked os 3 .any ((OpenSpec.ofChange Rows.layersNamesSpec).preRow enc Tryz.prog Tryz.f3 Rows.layersNamesRow.domain false Rows.layersNamesRow.laid) (((OpenSpec.ofChange Rows.layersNamesSpec).at F).post enc Tryz.prog Tryz.f3 false true false false):=by
 obtain⟨places,hx⟩:=reads os enc;refine returnsInHanded_of_row (C:=Tryz.checked) (s:=(OpenSpec.ofChange Rows.layersNamesSpec)) own started (by kernel_rfl) Tryz.func3
  (witness_row_at (enc:=enc) (C:=Tryz.checked) false (abE os) #[.agg #[.slice none 0 0,.slice none 0 0,.slice none 0 0,.slice none 0 0,.slice none 0 0],.slice none 0 0,.int .i64 0] (World.laidAll_os _ _ _) (by kernel_rfl) (by kernel_rfl) (by kernel_rfl)
   (OpenSpec.preRow_of_cond 12 hx (by kernel_rfl) (fun k hk=>by cases hk) (by kernel_rfl) (abF os))) ?_
 intro W base args ds gs before hval hW _ Pp _ hL _ _;exact contract H enc W base args ds gs before hval hW
theorem aeQ{a b:Bool}(h:a=true)(k:b=true):(a&&b)=true:=by rw[h,k];rfl
set_option maxHeartbeats 20000000 in
theorem said:Rows.LayersNamesSaid :=
 OpenClaim.holds_of_cond 3 Tryz.f3 rfl rfl rfl rfl rfl rfl rfl ⟨rfl,rfl,rfl,rfl,rfl⟩ rfl rfl rfl rfl rfl (by kernel_rfl) Tryz.func3 (by unfold joinedFacts;(repeat' with_reducible refine aeQ ?_ ?_)<;>as_aux_lemma=>kernel_rfl)
  (yd (by kernel_rfl)) (by unfold Func.isWrapper;first|(rw[bG (by decide +kernel)];kernel_rfl)|(rw[bH (by decide +kernel)];exact⟨rfl,rfl⟩))
  (fun os started H enc _ F=>by rw[OpenClaim.pre_eq_preRow];exact lifted os started H enc F)
theorem abG(f:FuncId)(fn:Func)(hf:Tryz.pinned.checked.prog.funcNamed "cooperage/cooperagelaw21.LayersNames"=some f)(hfn:Tryz.pinned.checked.prog.funcs[f]?=some fn) :
  false=Tryz.pinned.checked.prog.looks []∧∀(j:Nat) t,fn.params[j]?=some t→Tryz.pinned.checked.prog.wantsStandIn t=false:=by
 obtain rfl:f=3:=aG ((show Tryz.prog.funcNamed "cooperage/cooperagelaw21.LayersNames"=some 3 by kernel_rfl).symm.trans hf) |>.symm;obtain rfl:fn=Tryz.f3:=(aG (Tryz.func3.symm.trans hfn)).symm;refine⟨by kernel_rfl,fun j t ht=>?_⟩;have hm:t∈Tryz.f3.params.toList:=by simpa using Y4 ht
 rw[Tryz.params3] at hm;simp only[OX,List.not_mem_nil,or_false] at hm;rcases hm with rfl|rfl|rfl
 ·exact(show Tryz.prog.wantsStandIn 28=false by kernel_rfl)
 ·exact(show Tryz.prog.wantsStandIn 25=false by kernel_rfl)
 ·exact(show Tryz.prog.wantsStandIn 3=false by kernel_rfl)
theorem layersNames_holds:Rows.LayersNamesCardSaid :=
 Claim7.holds_tied_plain_at .later [] _ _ _ _ said (fun _ h=>by cases h) (by kernel_rfl) (fun _ h=>by cases h) layersNames_row_tie rfl ⟨rfl,rfl⟩ (by kernel_rfl) rfl abG (by kernel_rfl)
end Go.Proofs.YtdpbdiikloedbaaGreatDoor
