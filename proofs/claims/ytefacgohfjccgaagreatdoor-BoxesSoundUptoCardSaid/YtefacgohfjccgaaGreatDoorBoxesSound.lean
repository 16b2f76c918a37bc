/- THE LAW BoxesSound HOLDS: it answers true, and leaves its arguments as they are. Condition: the arguments hold together at most 1048576 values and letters. -/
import Derived.Test.YtefacgohfjccgaaGreatDoorHolds
import Derived.Test.YtefacgohfjccgaaGreatDoorPlG
import Derived.Test.YtefacgohfjccgaaGreatDoorCards
import Derived.Test.YtefacgohfjccgaaGreatDoorTie
import Derived.Lay
import Derived.Deep.DeepHandedRow
import Derived.SevenTiedAt
import Derived.OpenShut
import Derived.JoinedCond
import Derived.JoinedOf
import Derived.Handed
set_option linter.unusedVariables false
set_option linter.unusedSimpArgs false
set_option linter.unusedSectionVars false
namespace Go.Proofs.YtefacgohfjccgaaGreatDoor
open Go Go.Ge Go.ChangeShapes Go.WideShapes Go.ChangeAt Go.RowKit
noncomputable instance anb:Lp:=Lp.ajy
theorem ahj{H:Type}:NC (H:=H) Rows.uptoBulk Rows.uptoBulkAll where
 lit:=fun l=>by cases l<;>simp[Rows.uptoBulk]
 str:=fun s=>by simp[Rows.uptoBulk]
 nil:=by simp[Rows.uptoBulk]
 slice:=fun e s=>by simp[Rows.uptoBulk]
 agg:=fun p=>by simp[Rows.uptoBulk]
 none:=by simp[Rows.uptoBulkAll]
 cons:=fun d r=>by simp[Rows.uptoBulkAll]
theorem own:ownKnob Tryz.prog.godebug=none:=by kernel_rfl
theorem laidOut:laidOutB Tryz.prog=true:=by kernel_rfl
theorem akN:Tryz.prog.readableRec 3=true∧3<Tryz.prog.types.size:=⟨by kernel_rfl,ic (by kernel_rfl)⟩
theorem ajb:Tryz.prog.readableRec 28=true∧28<Tryz.prog.types.size:=⟨by kernel_rfl,ic (by kernel_rfl)⟩
theorem ajc:Tryz.prog.readableRec 29=true∧29<Tryz.prog.types.size:=⟨by kernel_rfl,ic (by kernel_rfl)⟩
set_option maxRecDepth 100000 in
theorem contract(H:Type)(enc:TypeId×Value→H)(W:World)(base:Nat)(args:Array Value)(ds gs:List (DataW H))(before:List MemPlace)(hk:Rows.uptoSmall H (ds++gs)=true)
  (hval:∀(j:Nat) t v,Tryz.f3.params[j]?=some t→args[j]?=some v→Value.okWide Tryz.prog W .any base t v)
  (hW:DataW.Whole enc Tryz.prog Tryz.f3.params.toList Rows.boxesSoundSpec.vars false W args.toList ds gs before) :
  Calls Tryz.prog 3 args W fun e W'=>∃v,e=.returned v∧Rows.boxesSoundSpec.post enc Tryz.prog Tryz.f3 false true false false W args v W':=by
 refine aaT (bulk:=Rows.uptoBulk) (all:=Rows.uptoBulkAll) (tb:=4) (A:=(.pair (.pair (.slice (.pair .str (.pair (.slice .str) (.pair .str (.pair .str (.pair .str (.pair (.slice (.pair .str (.pair .str (.pair .str .unit)))) .unit))))))) (.pair (.slice (.pair .str (.pair (.slice .str) (.pair .str (.pair .str (.pair (.slice (.pair .str (.pair .str (.pair .str .unit)))) .unit)))))) (.pair (.slice (.pair .str (.pair .str (.pair (.slice .str) (.pair .str (.pair (.int .i64) (.pair (.int .i64) (.pair .bool .unit)))))))) (.pair (.slice .str) (.pair (.slice (.pair .str (.pair (.int .i64) .unit))) .unit))))) (.pair (.arr 2 .str) (.pair (.int .i64) .unit)))) (spec:=mB) ahj laidOut (by rw[Tryz.params3];exact⟨afw 28 (.pair (.slice (.pair .str (.pair (.slice .str) (.pair .str (.pair .str (.pair .str (.pair (.slice (.pair .str (.pair .str (.pair .str .unit)))) .unit))))))) (.pair (.slice (.pair .str (.pair (.slice .str) (.pair .str (.pair .str (.pair (.slice (.pair .str (.pair .str (.pair .str .unit)))) .unit)))))) (.pair (.slice (.pair .str (.pair .str (.pair (.slice .str) (.pair .str (.pair (.int .i64) (.pair (.int .i64) (.pair .bool .unit)))))))) (.pair (.slice .str) (.pair (.slice (.pair .str (.pair (.int .i64) .unit))) .unit))))) rfl,afw 29 (.arr 2 .str) rfl,afw 3 (.int .i64) rfl,trivial⟩) (fun t ht=>?_) (by kernel_rfl) Tryz.underlying4 rfl (fun ds hds=>?_) GF (ad3 (fun _ _=>False) _) hval hW (fun x hok hx=>?_)
 ·rw[Tryz.params3] at ht;simp only[IQ,List.not_mem_nil,or_false] at ht;rcases ht with rfl|rfl|rfl
  ·exact ajb
  ·exact ajc
  ·exact akN
 ·rw[Tryz.params3] at hds
  match ds,hds with
  | [d0,d1,d2],_=>rfl
 ·obtain⟨a0,a1,a2,u⟩:=x;have hb:((.pair (.pair (.slice (.pair .str (.pair (.slice .str) (.pair .str (.pair .str (.pair .str (.pair (.slice (.pair .str (.pair .str (.pair .str .unit)))) .unit))))))) (.pair (.slice (.pair .str (.pair (.slice .str) (.pair .str (.pair .str (.pair (.slice (.pair .str (.pair .str (.pair .str .unit)))) .unit)))))) (.pair (.slice (.pair .str (.pair .str (.pair (.slice .str) (.pair .str (.pair (.int .i64) (.pair (.int .i64) (.pair .bool .unit)))))))) (.pair (.slice .str) (.pair (.slice (.pair .str (.pair (.int .i64) .unit))) .unit))))) (.pair (.arr 2 .str) (.pair (.int .i64) .unit))):Ty).bulk (a0,a1,a2,())≤1048576:=gY hx (ic hk);exact OB a0 a1 a2 hok.2.1.1 (ai2 (gY (Nat.le_add_right _ _) hb))
noncomputable def afB(os:Os):World:=World.laidAll Tryz.prog os Rows.boxesSoundUptoRow.laid
set_option maxRecDepth 100000 in
theorem afC(os:Os):laidMet Tryz.prog Rows.boxesSoundUptoRow.laid ((afB os).forCall (fun _ _=>0) ⟨#[],#[.agg #[.slice none 0 0,.slice none 0 0,.slice none 0 0,.slice none 0 0,.slice none 0 0],.agg #[.string ⟨#[]⟩,.string ⟨#[]⟩],.int .i64 0],[]⟩).memory :=
 laidMet_laidAll #[.agg #[.slice none 0 0,.slice none 0 0,.slice none 0 0,.slice none 0 0,.slice none 0 0],.agg #[.string ⟨#[]⟩,.string ⟨#[]⟩],.int .i64 0] (by kernel_rfl) (by kernel_rfl)
set_option maxRecDepth 100000 in
theorem reads(os:Os){H:Type}(enc:TypeId×Value→H):∃places,DataW.whole enc Tryz.prog ((afB os).forCall (fun _ _=>0) ⟨#[],#[.agg #[.slice none 0 0,.slice none 0 0,.slice none 0 0,.slice none 0 0,.slice none 0 0],.agg #[.string ⟨#[]⟩,.string ⟨#[]⟩],.int .i64 0],[]⟩).memory Tryz.f3.params.toList Rows.boxesSoundSpec.vars false (#[.agg #[.slice none 0 0,.slice none 0 0,.slice none 0 0,.slice none 0 0,.slice none 0 0],.agg #[.string ⟨#[]⟩,.string ⟨#[]⟩],.int .i64 0]:Array Value).toList 12=some ([.agg [.nil,.nil,.nil,.nil,.nil],.agg [.lit (.string []),.lit (.string [])],.lit (.int .i64 0)],[],places) :=
 ⟨[],by kernel_rfl⟩
set_option maxRecDepth 100000 in
theorem lifted(os:Os)(started:os.Started)(H:Type)(enc:TypeId×Value→H)(F:Stop.Interp) :
  ReturnsInHanded {} Tryz.checked os 3 .any ((Rows.OpenSpec.upto Rows.boxesSoundSpec).preRow enc Tryz.prog Tryz.f3 Rows.boxesSoundUptoRow.domain false Rows.boxesSoundUptoRow.laid) (((Rows.OpenSpec.upto Rows.boxesSoundSpec).at F).post enc Tryz.prog Tryz.f3 false true false false):=by
 obtain⟨places,hx⟩:=reads os enc;refine returnsInHanded_of_row (C:=Tryz.checked) (s:=(Rows.OpenSpec.upto Rows.boxesSoundSpec)) own started (by kernel_rfl) Tryz.func3
  (witness_row_at (enc:=enc) (C:=Tryz.checked) false (afB os) #[.agg #[.slice none 0 0,.slice none 0 0,.slice none 0 0,.slice none 0 0,.slice none 0 0],.agg #[.string ⟨#[]⟩,.string ⟨#[]⟩],.int .i64 0] (World.laidAll_os _ _ _) (by kernel_rfl) (by kernel_rfl) (by kernel_rfl)
   (OpenSpec.preRow_of_cond 12 hx (by kernel_rfl) (fun k hk=>by cases hk;kernel_rfl) (by kernel_rfl) (afC os))) ?_
 intro W base args ds gs before hval hW _ NF _ hL _ _;exact contract H enc W base args ds gs before (NF _ rfl) hval hW
theorem ajd{a b:Bool}(h:a=true)(k:b=true):(a&&b)=true:=by rw[h,k];rfl
set_option maxHeartbeats 20000000 in
theorem said:Rows.BoxesSoundUptoSaid :=
 OpenClaim.holds_of_cond 3 Tryz.f3 rfl rfl rfl rfl rfl rfl rfl ⟨rfl,rfl,rfl,rfl,rfl⟩ rfl rfl rfl rfl rfl (by kernel_rfl) Tryz.func3 (by unfold joinedFacts;(repeat' with_reducible refine ajd ?_ ?_)<;>as_aux_lemma=>kernel_rfl)
  (ic (by kernel_rfl)) (by unfold Func.isWrapper;first|(rw[bu (by decide +kernel)];kernel_rfl)|(rw[br (by decide +kernel)];exact⟨rfl,rfl⟩))
  (fun os started H enc _ F=>by rw[OpenClaim.pre_eq_preRow];exact lifted os started H enc F)
theorem afD(f:FuncId)(fn:Func)(hf:Tryz.pinned.checked.prog.funcNamed "cooperage/cooperagelaw23.BoxesSound"=some f)(hfn:Tryz.pinned.checked.prog.funcs[f]?=some fn) :
  false=Tryz.pinned.checked.prog.looks []∧∀(j:Nat) t,fn.params[j]?=some t→Tryz.pinned.checked.prog.wantsStandIn t=false:=by
 obtain rfl:f=3:=aN ((show Tryz.prog.funcNamed "cooperage/cooperagelaw23.BoxesSound"=some 3 by kernel_rfl).symm.trans hf) |>.symm;obtain rfl:fn=Tryz.f3:=(aN (Tryz.func3.symm.trans hfn)).symm;refine⟨by kernel_rfl,fun j t ht=>?_⟩;have hm:t∈Tryz.f3.params.toList:=by simpa using acD ht
 rw[Tryz.params3] at hm;simp only[IQ,List.not_mem_nil,or_false] at hm;rcases hm with rfl|rfl|rfl
 ·exact(show Tryz.prog.wantsStandIn 28=false by kernel_rfl)
 ·exact(show Tryz.prog.wantsStandIn 29=false by kernel_rfl)
 ·exact(show Tryz.prog.wantsStandIn 3=false by kernel_rfl)
theorem boxesSound_holds:Rows.BoxesSoundUptoCardSaid :=
 Claim7.holds_tied_plain_at .later [] _ _ _ _ said (fun _ h=>by cases h) (by kernel_rfl) (fun _ h=>by cases h) boxesSoundUpto_row_tie rfl ⟨rfl,rfl⟩ (by kernel_rfl) rfl afD (by kernel_rfl)
end Go.Proofs.YtefacgohfjccgaaGreatDoor
